import PyProof.Rows.All
import HandS.ForMost
import HandS.TupAny
import HandS.TupLen
import HandS.TupMul
import HandS.Deep
import HandS.Wide
import HandS.Conv
import HandS.Flow
import HandS.IsInst
import HandS.SortInts
import HandS.Head2
import HandS.HeadEnd
import HandS.HeadHook2
import HandS.HeadWalk
import HandS.ExcInit
import HandS.Style
import HandS.Zip
import HandS.Rev
import HandS.CallRecv
import HandS.RevTup
import HandS.More
import HandS.Small
import HandS.ExcCtx
import HandS.WordsExc
import HandS.EndBits
import PySem.Challenge.RW_stepcourt_k23_opened_by_paths
import HandS.Text
set_option Elab.async false
set_option linter.all false
set_option maxRecDepth 100000
/-! PyI: data, store, syntax, evaluation of the Python subset. -/
namespace PyI
open PySem

/-- data: ref n is the n-th object of the store; rol: a list (t: a tuple) that never changes, not of the store -/
inductive D where
  | non | bl (b : Bool) | int (i : Int) | str (l : List Nat) | tup (l : List D) | rol (t : Bool) (l : List D) | ref (n : Nat)

mutual
def D.beq : D → D → Bool
  | .non, .non => true
  | .bl a, .bl b => a == b
  | .int a, .int b => decide (a = b)
  | .str a, .str b => decide (a = b)
  | .tup a, .tup b => D.beqs a b
  | .rol s a, .rol t b => s == t && D.beqs a b
  | .ref a, .ref b => decide (a = b)
  | _, _ => false
def D.beqs : List D → List D → Bool
  | [], [] => true
  | a :: r, b :: s => D.beq a b && D.beqs r s
  | _, _ => false
end
mutual
theorem D.beq_refl : ∀ a : D, D.beq a a = true
  | .non => rfl
  | .bl a => by simp [D.beq]
  | .int a => by simp [D.beq]
  | .str a => by simp [D.beq]
  | .tup a => by simpa [D.beq] using D.beqs_refl a
  | .rol s a => by simpa [D.beq] using D.beqs_refl a
  | .ref a => by simp [D.beq]
theorem D.beqs_refl : ∀ a : List D, D.beqs a a = true
  | [] => rfl
  | a :: r => by simp [D.beqs, D.beq_refl a, D.beqs_refl r]
end
mutual
theorem D.beq_eq : ∀ a b : D, D.beq a b = true → a = b
  | .non, b, h => by cases b <;> simp_all [D.beq]
  | .bl a, b, h => by cases b <;> simp_all [D.beq]
  | .int a, b, h => by cases b <;> simp_all [D.beq]
  | .str a, b, h => by cases b <;> simp_all [D.beq]
  | .ref a, b, h => by cases b <;> simp_all [D.beq]
  | .tup a, b, h => by
    cases b with
    | tup b => rw [D.beqs_eq a b (by simpa [D.beq] using h)]
    | _ => simp [D.beq] at h
  | .rol s a, b, h => by
    cases b with
    | rol t b =>
      obtain ⟨h1, h2⟩ := (show s = t ∧ D.beqs a b = true by simpa [D.beq] using h)
      rw [h1, D.beqs_eq a b h2]
    | _ => simp [D.beq] at h
theorem D.beqs_eq : ∀ a b : List D, D.beqs a b = true → a = b
  | [], b, h => by cases b <;> simp_all [D.beqs]
  | a :: r, b, h => by
    cases b with
    | nil => simp [D.beqs] at h
    | cons b s =>
      obtain ⟨h1, h2⟩ := (show D.beq a b = true ∧ D.beqs r s = true by simpa [D.beqs] using h)
      rw [D.beq_eq a b h1, D.beqs_eq r s h2]
end
instance : DecidableEq D := fun a b =>
  if h : D.beq a b = true then .isTrue (D.beq_eq a b h) else .isFalse fun e => h (by rw [e]; exact D.beq_refl b)

/-- an object of the store; a class by its number, a field by its number -/
inductive O where
  | lst (l : List D) | dK (l : List (D × D)) | dT (l : List (D × D)) | ins (C : Nat) (fs : List (Nat × D))
/-- a value on the way: data, or an object that no one holds yet -/
inductive W where
  | d (x : D) | o (ob : O)

abbrev Sto := List O
abbrev Env := List (Option D)
def LINE : Nat := 16777216

inductive Res (α : Type) where
  | ok (a : α) (S : Sto)
  | ex (C : Nat) (fs : List (Nat × D)) (S : Sto)
  | bad
def Res.bind {α β : Type} (r : Res α) (f : α → Sto → Res β) : Res β := match r with
  | .ok a S => f a S
  | .ex C fs S => .ex C fs S
  | .bad => .bad
def opt {α : Type} (o : Option α) (S : Sto) : Res α := match o with
  | some a => .ok a S
  | none => .bad
/-- a value is held from now on -/
def W.al : W → Sto → Res D
  | .d x, S => .ok x S
  | .o ob, S => .ok (.ref S.length) (S ++ [ob])
def Res.al (r : Res W) : Res D := r.bind fun w S => w.al S

/-! ### operators -/
inductive Bop where
  | add | sub | mul | fdiv | mod | pow | shl | shr | xor | band | bor
  deriving DecidableEq
inductive Cop where
  | lt | le | gt | ge | eq | ne | isin | notin | isN | notN
  deriving DecidableEq
/-- a list that may be read -/
def lstOf : W → Sto → Option (List D)
  | .o (.lst l), _ => some l
  | .d (.ref n), S => (match S[n]? with
    | some (.lst l) => some l
    | _ => none)
  | .d (.rol false l), _ => some l
  | _, _ => none
/-- a list of one's own -/
def mlsOf : W → Sto → Option (List D)
  | .o (.lst l), _ => some l
  | .d (.ref n), S => (match S[n]? with
    | some (.lst l) => some l
    | _ => none)
  | _, _ => none
def tupOf : W → Option (List D)
  | .d (.tup l) => some l
  | .d (.rol true l) => some l
  | _ => none
/-- the pairs of a dict -/
def dicOf : W → Sto → Option (List (D × D))
  | .o (.dK l), _ => some l
  | .o (.dT l), _ => some l
  | .d (.ref n), S => (match S[n]? with
    | some (.dK l) => some l
    | some (.dT l) => some l
    | _ => none)
  | _, _ => none
def catL (x y : W) (S : Sto) : Option W := match mlsOf x S, mlsOf y S with
  | some l, some m => if l.length + m.length ≤ LINE then some (.o (.lst (l ++ m))) else none
  | _, _ => none
def addW (x y : W) (S : Sto) : Option W := match x with
  | .d (.int i) => (match y with
    | .d (.int j) => some (.d (.int (i + j)))
    | _ => none)
  | .d (.str l) => (match y with
    | .d (.str m) => if l.length + m.length ≤ LINE then some (.d (.str (l ++ m))) else none
    | _ => none)
  | .d (.tup l) => (match y with
    | .d (.tup m) => if l.length + m.length ≤ LINE then some (.d (.tup (l ++ m))) else none
    | _ => none)
  | .d (.ref n) => catL x y S
  | .o _ => catL x y S
  | _ => none
def intW (x y : W) (c : Int → Int → Bool) (f : Int → Int → Int) : Option W := match x with
  | .d (.int i) => (match y with
    | .d (.int j) => if c i j = true then some (.d (.int (f i j))) else none
    | _ => none)
  | _ => none
def repL (x y : W) (S : Sto) : Option W := match mlsOf x S with
  | some l => (match y with
    | .d (.int k) => if -(2 ^ 63) ≤ k ∧ k < 2 ^ 63 ∧ l.length * k.toNat ≤ LINE then some (.o (.lst (List.replicate k.toNat l).flatten)) else none
    | _ => none)
  | none => none
def mulW (x y : W) (S : Sto) : Option W := match x with
  | .d (.int i) => (match y with
    | .d (.int j) => if (-(2 ^ 64) < i ∧ i < 2 ^ 64) ∨ (-(2 ^ 64) < j ∧ j < 2 ^ 64) then some (.d (.int (i * j))) else none
    | _ => none)
  | .d (.ref _) => repL x y S
  | .o _ => repL x y S
  | .d (.str l) => (match y with
    | .d (.int k) => if k = 0 then some (.d (.str [])) else if k = 1 then some (.d (.str l)) else none
    | _ => none)
  | .d (.tup l) => (match y with
    | .d (.int k) => if l ≠ [] ∧ 0 ≤ k ∧ k ≤ 1000 ∧ l.length ≤ 1000 then some (.d (.tup (List.replicate k.toNat l).flatten)) else none
    | _ => none)
  | _ => none
def small (i j : Int) : Bool := decide (0 ≤ j ∧ j ≤ 1000000 ∧ i.natAbs < 2 ^ 64)
def binW (o : Bop) (x y : W) (S : Sto) : Option W := match o with
  | .add => addW x y S
  | .sub => intW x y (fun _ _ => true) (· - ·)
  | .mul => mulW x y S
  | .fdiv => intW x y (fun _ j => decide (0 < j ∧ j.natAbs.log2 < 9000)) (· / ·)
  | .mod => intW x y (fun _ j => decide (0 < j)) (· % ·)
  | .pow => intW x y small (fun i j => i ^ j.toNat)
  | .shl => intW x y small (fun i j => i * 2 ^ j.toNat)
  | .shr => intW x y (fun _ j => decide (0 ≤ j)) (fun i j => i / 2 ^ j.toNat)
  | .xor => intW x y (fun _ _ => true) Builtin.bitXor
  | .band => intW x y (fun _ _ => true) Builtin.bitAnd
  | .bor => intW x y (fun _ _ => true) Builtin.bitOr

/-! ### equality -/
mutual
/-- data as the kit's data; f: what a held list holds -/
def D.py (f : Nat → Option PyData) : D → Option PyData
  | .non => some .none
  | .bl b => some (.bool b)
  | .int i => some (.int i)
  | .str l => some (.str ⟨l.toArray⟩)
  | .tup l => (D.pys f l).map .tuple
  | .rol t l => (D.pys f l).map (if t then .tuple else .list)
  | .ref n => f n
def D.pys (f : Nat → Option PyData) : List D → Option (List PyData)
  | [] => some []
  | d :: r => (D.py f d).bind fun x => (D.pys f r).map (x :: ·)
end
def held (S : Sto) : Nat → Nat → Option PyData
  | 0, _ => none
  | k + 1, n => (match S[n]? with
    | some (.lst l) => (D.pys (held S k) l).map .list
    | _ => none)
def W.py (S : Sto) : W → Option PyData
  | .d x => x.py (held S 6)
  | .o (.lst l) => (D.pys (held S 6) l).map .list
  | _ => none
/-- two values that == tells of at once -/
def scalD (x y : D) : Bool := match x with
  | .non => (match y with
    | .non => true
    | .bl _ => true
    | .int _ => true
    | .str _ => true
    | _ => false)
  | .bl _ => (match y with
    | .non => true
    | .bl _ => true
    | .str _ => true
    | _ => false)
  | .int _ => (match y with
    | .non => true
    | .int _ => true
    | .str _ => true
    | _ => false)
  | .str _ => (match y with
    | .non => true
    | .bl _ => true
    | .int _ => true
    | .str _ => true
    | _ => false)
  | _ => false
def eqD (x y : W) (S : Sto) : Option Bool := match x.py S with
  | some p => (match y.py S with
    | some q => if SeqAt.shaped p = true ∧ SeqAt.shaped q = true then some (PyData.eqv p q) else none
    | none => none)
  | none => none
def eqW (x y : W) (S : Sto) : Option Bool := match x with
  | .d a => (match y with
    | .d b => if scalD a b = true then some (decide (a = b)) else eqD x y S
    | .o _ => eqD x y S)
  | .o _ => eqD x y S
def D.flat : D → Bool
  | .non => true
  | .bl _ => true
  | .int _ => true
  | .str _ => true
  | _ => false
/-- == of flat data -/
def eqF : D → D → Bool
  | .non, .non => true
  | .bl a, .bl b => a == b
  | .bl a, .int b => (if a then 1 else 0) == b
  | .int a, .bl b => a == (if b then 1 else 0)
  | .int a, .int b => a == b
  | .str a, .str b => decide (a = b)
  | _, _ => false
/-! ### dicts -/
def look (l : List (D × D)) (k : D) : Option D := (l.find? fun p => decide (p.1 = k)).map (·.2)
def put (l : List (D × D)) (k v : D) : List (D × D) :=
  if (l.any fun p => decide (p.1 = k)) = true then l.map (fun p => if p.1 = k then (p.1, v) else p) else l ++ [(k, v)]
def D.keyK : D → Bool
  | .int _ => true
  | .str _ => true
  | _ => false
def D.keyT : D → Bool
  | .tup l => l.all D.keyK
  | _ => false
/-- k may be asked for in the dict -/
def askOf : W → Sto → D → Option (List (D × D))
  | .o (.dK l), _, k => if k.keyK = true then some l else none
  | .o (.dT l), _, k => if k.keyT = true then some l else none
  | .d (.ref n), S, k => (match S[n]? with
    | some (.dK l) => if k.keyK = true then some l else none
    | some (.dT l) => if k.keyT = true then some l else none
    | _ => none)
  | _, _, _ => none
/-! ### comparisons -/
def inFl (x : W) (l : List D) : Option Bool := match x with
  | .d k => if k.flat = true ∧ l.all D.flat = true then some (l.any fun z => eqF z k) else none
  | .o _ => none
def inLs (k : D) (S : Sto) (l : List D) : Option Bool :=
  if k.flat = true ∧ l.all D.flat = true then some (l.any fun z => eqF z k) else
    (match k.py (held S 6) with
    | some p => (match D.pys (held S 6) l with
      | some ps => if SeqAt.shaped p = true ∧ SeqAt.shaped (.list ps) = true then some (ps.any fun z => PyData.eqv z p) else none
      | none => none)
    | none => none)
def inOb (x y : W) (S : Sto) : Option Bool := match x with
  | .d k => (match askOf y S k with
    | some l => some (look l k).isSome
    | none => (match lstOf y S with
      | some l => inLs k S l
      | none => none))
  | .o _ => none
def inS (x y : W) (S : Sto) : Option Bool := match y with
  | .d (.str m) => (match x with
    | .d (.str l) => some (!(Builtin.Str.occurrences ⟨m.toArray⟩ ⟨l.toArray⟩ 0 m.length 1).isEmpty)
    | _ => none)
  | .d (.tup l) => inFl x l
  | .d (.rol true l) => inFl x l
  | .d (.rol false l) => inOb x y S
  | .d (.ref n) => inOb x y S
  | .o _ => inOb x y S
  | _ => none
def ordW (x y : W) (f : Int → Int → Bool) (g : List Nat → List Nat → Bool) : Option Bool := match x with
  | .d (.int i) => (match y with
    | .d (.int j) => some (f i j)
    | _ => none)
  | .d (.str l) => (match y with
    | .d (.str m) => some (g l m)
    | _ => none)
  | _ => none
def isNonW : W → Bool
  | .d .non => true
  | _ => false
def isBlW : W → Bool → Option Bool
  | .d (.bl b), c => some (b == c)
  | _, _ => none
def cmpW (o : Cop) (x y : W) (S : Sto) : Option Bool := match o with
  | .lt => ordW x y (fun i j => decide (i < j)) (fun l m => decide (l < m))
  | .le => ordW x y (fun i j => decide (i ≤ j)) (fun l m => !decide (m < l))
  | .gt => ordW x y (fun i j => decide (j < i)) (fun l m => decide (m < l))
  | .ge => ordW x y (fun i j => decide (j ≤ i)) (fun l m => !decide (l < m))
  | .eq => eqW x y S
  | .ne => (eqW x y S).map (!·)
  | .isin => inS x y S
  | .notin => (inS x y S).map (!·)
  | .isN => (match y with
    | .d .non => some (isNonW x)
    | .d (.bl c) => isBlW x c
    | _ => none)
  | .notN => (match y with
    | .d .non => some (!isNonW x)
    | .d (.bl c) => (isBlW x c).map (!·)
    | _ => none)
/-! ### subscripts, slices -/
def ixI (n : Nat) (i : Int) : Option Nat := if 0 ≤ i then (if i < n then some i.toNat else none) else if -(n : Int) ≤ i then some (i + n).toNat else none
def atD {α : Type} (l : List α) (i : Int) : Option α := (ixI l.length i).bind fun j => l[j]?
def sI (n d : Nat) : Option Int → Nat
  | none => d
  | some v => if v < 0 then (v + (n : Int)).toNat else min v.toNat n
def cut {α : Type} (l : List α) (lo hi : Option Int) : List α := (l.drop (sI l.length 0 lo)).take (sI l.length l.length hi - sI l.length 0 lo)
def idxT (l : List D) (k : D) : Option D := match k with
  | .int i => atD l i
  | _ => none
def idxO (x : W) (k : D) (S : Sto) : Option D := match askOf x S k with
  | some l => look l k
  | none => (match lstOf x S with
    | some l => idxT l k
    | none => none)
def idxW (x : W) (k : D) (S : Sto) : Option D := match x with
  | .d (.tup l) => idxT l k
  | .d (.rol true l) => idxT l k
  | .d (.rol false l) => idxT l k
  | .d (.str l) => (match k with
    | .int i => if l.length ≤ LINE then (atD l i).map fun c => D.str [c] else none
    | _ => none)
  | .d (.ref n) => idxO x k S
  | .o _ => idxO x k S
  | _ => none
def slcO (x : W) (lo hi : Option Int) (S : Sto) : Option W := match lstOf x S with
  | some l => some (.o (.lst (cut l lo hi)))
  | none => none
def slcW (x : W) (lo hi : Option Int) (S : Sto) : Option W := match x with
  | .d (.tup l) => some (.d (.tup (cut l lo hi)))
  | .d (.rol true l) => if sI l.length 0 lo = 0 ∧ sI l.length l.length hi = l.length then some (.d (.rol true l)) else some (.d (.tup (cut l lo hi)))
  | .d (.rol false l) => slcO x lo hi S
  | .d (.str l) => if l.length ≤ LINE then some (.d (.str (cut l lo hi))) else none
  | .d (.ref n) => slcO x lo hi S
  | .o _ => slcO x lo hi S
  | _ => none
def getF (x : D) (f : Nat) (cs : List Nat) (S : Sto) : Option D := match x with
  | .ref n => (match S[n]? with
    | some (.ins C fs) => if cs.contains C = true then fs.lookup f else none
    | _ => none)
  | _ => none
def putFs (f : Nat) (v : D) : List (Nat × D) → List (Nat × D)
  | [] => [(f, v)]
  | (g, x) :: r => if g = f then (g, v) :: r else (g, x) :: putFs f v r
/-! ### built-in functions and methods -/
inductive Blt where
  | len | tuple | list | max2 | min2 | abs | int1 | str1 | sum | all | any | maxL | minL | sorted | isInt | isBool | isTuple | isStr | isList
  deriving DecidableEq
inductive Bmt where
  | append | extend | pop | popAt | join | get1 | get2 | split | upper | index | reverse | clear | remove | replace | setdefault
  deriving DecidableEq
def D.int? : D → Option Int
  | .int i => some i
  | _ => none
def D.bl? : D → Option Bool
  | .bl i => some i
  | _ => none
def D.str? : D → Option (List Nat)
  | .str i => some i
  | _ => none
/-- the signs of str(i) -/
def digits (i : Int) : List Nat := (toString i : Str).cps.toList
def joinL (a : List Nat) : List (List Nat) → List Nat
  | [] => []
  | [x] => x
  | x :: r => x ++ a ++ joinL a r
def lenW (x : W) (S : Sto) : Option Nat := match x with
  | .d (.str l) => if l.length ≤ LINE then some l.length else none
  | .d (.tup l) => some l.length
  | .d (.rol _ l) => some l.length
  | .d (.ref n) => (match S[n]? with
    | some (.lst l) => some l.length
    | some (.dK l) => some l.length
    | some (.dT l) => some l.length
    | _ => none)
  | .o (.lst l) => some l.length
  | _ => none
def bltW (b : Blt) (ws : List W) (S : Sto) : Option W := match b with
  | .len => (match ws with
    | [x] => (lenW x S).map fun (n : Nat) => .d (.int (n : Int))
    | _ => none)
  | .tuple => (match ws with
    | [x] => (match tupOf x with
      | some l => (match x with
        | .d y => some (.d y)
        | .o _ => none)
      | none => (lstOf x S).map fun l => .d (.tup l))
    | _ => none)
  | .list => (match ws with
    | [x] => (match tupOf x with
      | some l => some (.o (.lst l))
      | none => (lstOf x S).map fun l => .o (.lst l))
    | _ => none)
  | .max2 => (match ws with
    | [.d (.int i), .d (.int j)] => some (.d (.int (if j > i then j else i)))
    | _ => none)
  | .min2 => (match ws with
    | [.d (.int i), .d (.int j)] => some (.d (.int (if j < i then j else i)))
    | _ => none)
  | .abs => (match ws with
    | [.d (.int i)] => some (.d (.int (if i < 0 then -i else i)))
    | _ => none)
  | .int1 => (match ws with
    | [.d (.int i)] => some (.d (.int i))
    | [.d (.bl k)] => some (.d (.int (if k then 1 else 0)))
    | [.d (.str l)] => if l.length ≤ 640 then (PySem.intText? ⟨l.toArray⟩).map fun n => .d (.int n) else none
    | _ => none)
  | .str1 => (match ws with
    | [.d (.int i)] => if i.natAbs.log2 < 1920 then some (.d (.str (digits i))) else none
    | _ => none)
  | .sum => (match ws with
    | [x] => (lstOf x S).bind fun l => (l.mapM D.int?).map fun ns => .d (.int ns.sum)
    | _ => none)
  | .all => (match ws with
    | [x] => (lstOf x S).bind fun l => (l.mapM D.bl?).map fun bs => .d (.bl (bs.all id))
    | _ => none)
  | .any => (match ws with
    | [x] => (lstOf x S).bind fun l => (l.mapM D.bl?).map fun bs => .d (.bl (bs.any id))
    | _ => none)
  | .maxL => (match ws with
    | [x] => (lstOf x S).bind fun l => (l.mapM D.int?).bind fun ns => (ns.max?).map fun m => .d (.int m)
    | _ => none)
  | .minL => (match ws with
    | [x] => (lstOf x S).bind fun l => (l.mapM D.int?).bind fun ns => (ns.min?).map fun m => .d (.int m)
    | _ => none)
  | .sorted => (match ws with
    | [x] => (lstOf x S).bind fun l => (l.mapM D.int?).map fun ns => .o (.lst ((ns.mergeSort fun a b => decide (a ≤ b)).map D.int))
    | _ => none)
  | .isInt => (match ws with
    | [.d (.int _)] => some (.d (.bl true))
    | [.d (.bl _)] => some (.d (.bl true))
    | [.d (.str _)] => some (.d (.bl false))
    | [.d (.tup _)] => some (.d (.bl false))
    | [.d .non] => some (.d (.bl false))
    | _ => none)
  | .isBool => (match ws with
    | [.d (.int _)] => some (.d (.bl false))
    | [.d (.bl _)] => some (.d (.bl true))
    | [.d (.str _)] => some (.d (.bl false))
    | [.d (.tup _)] => some (.d (.bl false))
    | [.d .non] => some (.d (.bl false))
    | _ => none)
  | .isTuple => (match ws with
    | [.d (.int _)] => some (.d (.bl false))
    | [.d (.bl _)] => some (.d (.bl false))
    | [.d (.str _)] => some (.d (.bl false))
    | [.d (.tup _)] => some (.d (.bl true))
    | [.d .non] => some (.d (.bl false))
    | _ => none)
  | _ => none
/-- the methods whose arguments are held -/
def Bmt.keeps : Bmt → Bool
  | .append => true
  | .get1 => true
  | .get2 => true
  | .popAt => true
  | .index => true
  | .remove => true
  | .setdefault => true
  | _ => false
/-- the receiver's kind -/
inductive Kd where
  | list | str | dict
  deriving DecidableEq
def Bmt.kd : Bmt → Kd
  | .join => .str
  | .split => .str
  | .upper => .str
  | .replace => .str
  | .get1 => .dict
  | .get2 => .dict
  | .setdefault => .dict
  | _ => .list
def kdOk (k : Kd) (x : W) (S : Sto) : Bool := match k with
  | .list => (lstOf x S).isSome
  | .str => (match x with
    | .d (.str _) => true
    | _ => false)
  | .dict => (dicOf x S).isSome
/-- a method of a built-in type: the receiver, the arguments -/
def bmtD (m : Bmt) (x : W) (ds : List D) (S : Sto) : Res W := match m with
  | .append => (match x with
    | .d (.ref n) => (match ds with
      | [v] => (match S[n]? with
        | some (.lst l) => if l.length < LINE then .ok (.d .non) (S.set n (.lst (l ++ [v]))) else .bad
        | _ => .bad)
      | _ => .bad)
    | _ => .bad)
  | .get1 => (match ds with
    | [k] => (match askOf x S k with
      | some l => .ok (.d ((look l k).getD .non)) S
      | none => .bad)
    | _ => .bad)
  | .get2 => (match ds with
    | [k, z] => (match askOf x S k with
      | some l => .ok (.d ((look l k).getD z)) S
      | none => .bad)
    | _ => .bad)
  | _ => .bad
def bmtW (m : Bmt) (x : W) (ws : List W) (S : Sto) : Res W := match m with
  | .join => (match x with
    | .d (.str a) => (match ws with
      | [y] => (match lstOf y S with
        | some l => (match l.mapM D.str? with
          | some ys => if (ys.map (·.length)).sum + ys.length * a.length ≤ 16777216 then .ok (.d (.str (joinL a ys))) S else .bad
          | none => .bad)
        | none => .bad)
      | _ => .bad)
    | _ => .bad)
  | .extend => (match x with
    | .d (.ref n) => (match ws with
      | [y] => (match S[n]? with
        | some (.lst l) => (match mlsOf y S with
          | some m => if l.length + m.length ≤ LINE then .ok (.d .non) (S.set n (.lst (l ++ m))) else .bad
          | none => .bad)
        | _ => .bad)
      | _ => .bad)
    | _ => .bad)
  | .pop => (match x with
    | .d (.ref n) => (match ws with
      | [] => (match S[n]? with
        | some (.lst l) => (match l.getLast? with
          | some v => .ok (.d v) (S.set n (.lst l.dropLast))
          | none => .bad)
        | _ => .bad)
      | _ => .bad)
    | _ => .bad)
  | .upper => (match x with
    | .d (.str l) => (match ws with
      | [] => if l.length ≤ 5592405 then .ok (.d (.str (Txt.upper ⟨l.toArray⟩).cps.toList)) S else .bad
      | _ => .bad)
    | _ => .bad)
  | _ => .bad

/-! ### types -/
inductive Ty where
  | int | bool | str | tuple | list | dict | none
  deriving DecidableEq
def tyOf (w : W) (S : Sto) : Option Ty := match w with
  | .d .non => some .none
  | .d (.bl _) => some .bool
  | .d (.int _) => some .int
  | .d (.str _) => some .str
  | .d (.tup _) => some .tuple
  | .d (.rol t _) => some (if t then .tuple else .list)
  | .d (.ref n) => (match S[n]? with
    | some (.lst _) => some .list
    | some (.dK _) => some .dict
    | some (.dT _) => some .dict
    | _ => Option.none)
  | .o (.lst _) => some .list
  | .o (.dK _) => some .dict
  | .o (.dT _) => some .dict
  | .o (.ins _ _) => Option.none
/-- a is b or beneath it -/
def Ty.sub (a b : Ty) : Bool := decide (a = b) || (decide (a = .bool) && decide (b = .int))

/-! ### syntax -/
/-- targets -/
inductive Tg where
  | nm (i : Nat)
  | tp (ts : List Nat)
mutual
inductive Ex where
  | con (d : D)
  | var (i : Nat)
  | glb (x : Str) (d : D)
  | bin (o : Bop) (a b : Ex)
  | neg (a : Ex)
  | cmp (o : Cop) (a b : Ex)
  | chain (o o' : Cop) (a b c : Ex)
  | band (a b : Ex)
  | bor (a b : Ex)
  | bnot (a : Ex)
  | ite (c a b : Ex)
  | tup (es : Exs)
  | lst (es : Exs)
  | dnewK
  | dnewT
  | dic (kvs : Exs)
  | lrev (e : Ex)
  | trev (e : Ex)
  | orv (a b c : Ex)
  | idx (a b : Ex)
  | slc (a : Ex) (lo hi : Oex)
  | fld (a : Ex) (f : Nat) (cs : List Nat)
  | isT (ts : List Ty) (a : Ex)
  | call (f : Nat) (es : Exs)
  | meth (o : Ex) (m : Nat) (dis : List (Nat × Nat)) (es : Exs)
  | make (C : Nat) (es : Exs)
  | blt (b : Blt) (es : Exs)
  | bmt (m : Bmt) (o : Ex) (es : Exs)
  | lc (vs : List Nat) (t : Tg) (it : Itx) (c : Oex) (e : Ex)
inductive Exs where
  | nil
  | cons (e : Ex) (r : Exs)
inductive Oex where
  | no
  | ya (e : Ex)
inductive Itx where
  | seq (e : Ex)
  | rng1 (a : Ex)
  | rng2 (a b : Ex)
  | rngD (a b : Ex)
  | rngT (a b : Ex)
  | rev (e : Ex)
  | enum (e : Ex)
  | zip (a b : Ex)
end
mutual
inductive Stm where
  | set (t : Tg) (e : Ex)
  | par (i j : Nat) (a b : Ex)
  | sfld (o : Ex) (f : Nat) (cs : List Nat) (e : Ex)
  | ssub (o i e : Ex)
  | expr (e : Ex)
  | ret (e : Ex)
  | retN
  | ite (c : Ex) (a b : Sts)
  | whl (c : Ex) (b : Sts)
  | for (t : Tg) (it : Itx) (b : Sts)
  | brk
  | cnt
  | pass
  | raise (C : Nat) (es : Exs)
inductive Sts where
  | nil
  | cons (s : Stm) (r : Sts)
end

/-! ### evaluation -/
/-- a call: the def's number, the arguments -/
abbrev Cb := Nat → List D → Sto → Res W
def wipeE (ρ : Env) : List Nat → Env
  | [] => ρ
  | v :: vs => (wipeE ρ vs).set v none
def putEs (ρ : Env) : List Nat → List D → Env
  | i :: is, d :: ds => putEs (ρ.set i (some d)) is ds
  | _, _ => ρ
def Tg.put (t : Tg) (d : D) (ρ : Env) : Option Env := match t with
  | .nm i => some (ρ.set i (some d))
  | .tp ts => (match d with
    | .tup ds => if ds.length = ts.length then some (putEs ρ ts ds) else none
    | _ => none)
/-- what is walked: the items; the lists of the store that are to stay as they are -/
structure Wk where
  items : List D
  at_ : List (Nat × List D)
def stayB (S : Sto) (p : Nat × List D) : Bool := match S[p.1]? with
  | some (.lst l) => decide (l = p.2)
  | _ => false
def Wk.stays (k : Wk) (S : Sto) : Bool := k.at_.all fun p => stayB S p
/-- a list that is walked -/
def lsrc (w : W) (S : Sto) : Option (List D × List (Nat × List D)) := match w with
  | .o (.lst l) => some (l, [])
  | .d (.ref n) => (match S[n]? with
    | some (.lst l) => some (l, [(n, l)])
    | _ => none)
  | .d (.rol false l) => some (l, [])
  | _ => none
def rngL (a c : Int) (n : Nat) : List D := (List.range n).map fun (j : Nat) => D.int (a + (j : Int) * c)
def seqWk (w : W) (S : Sto) : Option Wk := match lsrc w S with
  | some p => some ⟨p.1, p.2⟩
  | none => (match tupOf w with
    | some l => some ⟨l, []⟩
    | none => (match w with
      | .d (.str l) => some ⟨l.map fun c => D.str [c], []⟩
      | _ => none))
def enumL (l : List D) : List D := l.zipIdx.map fun p => .tup [.int (p.2 : Nat), p.1]
def zipL (l m : List D) : List D := (l.zip m).map fun p => .tup [p.1, p.2]
/-- the turns of a comprehension: f one turn (none: the test says no) -/
def lcGo (k : Wk) (f : D → Sto → Res (Option D)) : List D → List D → Sto → Res W
  | [], acc, S => if k.stays S = true then .ok (.o (.lst acc)) S else .bad
  | x :: xs, acc, S => if k.stays S = true then (f x S).bind fun r S => (match r with
    | none => lcGo k f xs acc S
    | some y => if acc.length < LINE then lcGo k f xs (acc ++ [y]) S else .bad) else .bad
/-- no refusal out of it -/
def Res.nox {α : Type} : Res α → Res α
  | .ok a S => .ok a S
  | _ => .bad
/-- a new object of a class with __init__ -/
def mkObj (ci : Cb) (ini : Nat → Option Nat) (C : Nat) (ds : List D) (S : Sto) : Res W := match ini C with
  | some f => (ci f (.ref S.length :: ds) (S ++ [.ins C []])).bind fun w S' => (match w with
    | .d .non => .ok (.d (.ref S.length)) S'
    | _ => .bad)
  | none => .bad
def pairUp : List D → Option (List (D × D))
  | [] => some []
  | [_] => none
  | k :: v :: r => (pairUp r).map ((k, v) :: ·)
/-- its truth -/
def truW : W → Option Bool
  | .d .non => some false
  | .d (.tup l) => some (!l.isEmpty)
  | _ => none
/-- a dict display -/
def dicW (ds : List D) : Option W := match pairUp ds with
  | some ps => if ps.all (fun p => p.1.keyK) = true ∧ ps.length ≤ 15 then some (.o (.dK (ps.foldl (fun acc p => put acc p.1 p.2) []))) else none
  | none => none
def testD {α : Type} (w : W) (S : Sto) (f : Bool → Res α) : Res α := match w with
  | .d (.bl b) => f b
  | _ => .bad
section
variable (cb ci : Cb) (ini : Nat → Option Nat)
mutual
def evE : Ex → Env → Sto → Res W
  | .con d, _, S => .ok (.d d) S
  | .var i, ρ, S => (match ρ[i]? with
    | some (some d) => .ok (.d d) S
    | _ => .bad)
  | .glb _ d, _, S => .ok (.d d) S
  | .bin o a b, ρ, S => (evE a ρ S).bind fun x S => (evE b ρ S).bind fun y S => opt (binW o x y S) S
  | .neg a, ρ, S => (evE a ρ S).bind fun x S => (match x with
    | .d (.int i) => .ok (.d (.int (-i))) S
    | _ => .bad)
  | .cmp o a b, ρ, S => (evE a ρ S).bind fun x S => (evE b ρ S).bind fun y S => opt ((cmpW o x y S).map fun b => .d (.bl b)) S
  | .chain o o' a b c, ρ, S => (evE a ρ S).bind fun x S => (evE b ρ S).bind fun y S => (match cmpW o x y S with
    | some true => (evE c ρ S).bind fun z S => opt ((cmpW o' y z S).map fun b => .d (.bl b)) S
    | some false => .ok (.d (.bl false)) S
    | none => .bad)
  | .band a b, ρ, S => (evE a ρ S).bind fun x S => testD x S fun t => if t = true then (evE b ρ S).bind fun y S => testD y S fun u => .ok (.d (.bl u)) S else .ok (.d (.bl false)) S
  | .bor a b, ρ, S => (evE a ρ S).bind fun x S => testD x S fun t => if t = true then .ok (.d (.bl true)) S else (evE b ρ S).bind fun y S => testD y S fun u => .ok (.d (.bl u)) S
  | .bnot a, ρ, S => (evE a ρ S).bind fun x S => testD x S fun t => .ok (.d (.bl (!t))) S
  | .ite c a b, ρ, S => (evE c ρ S).bind fun x S => testD x S fun t => if t = true then evE a ρ S else evE b ρ S
  | .tup es, ρ, S => (evDs es ρ S).bind fun ds S => if ds.length ≤ LINE then .ok (.d (.tup ds)) S else .bad
  | .lst es, ρ, S => (evDs es ρ S).bind fun ds S => if ds.length ≤ LINE then .ok (.o (.lst ds)) S else .bad
  | .dnewK, _, S => .ok (.o (.dK [])) S
  | .dnewT, _, S => .ok (.o (.dT [])) S
  | .dic kvs, ρ, S => (evDs kvs ρ S).bind fun ds S => opt (dicW ds) S
  | .orv a b c, ρ, S => ((evE a ρ S).bind fun x S => (match truW x with
    | some true => .ok x S
    | some false => evE b ρ S
    | none => .bad)).bind fun x S => (evE c ρ S).al.bind fun k S => opt ((idxW x k S).map W.d) S
  | .trev e, ρ, S => (evE e ρ S).bind fun w S => opt ((lsrc w S).map fun p => W.d (.tup p.1.reverse)) S
  | .lrev e, ρ, S => (evE e ρ S).bind fun w S => opt ((lsrc w S).map fun p => W.o (.lst p.1.reverse)) S
  | .idx a b, ρ, S => (evE a ρ S).bind fun x S => (evE b ρ S).al.bind fun k S => opt ((idxW x k S).map W.d) S
  | .slc a lo hi, ρ, S => (evE a ρ S).bind fun x S => (evO lo ρ S).bind fun l S => (evO hi ρ S).bind fun h S => opt (slcW x l h S) S
  | .fld a f cs, ρ, S => (evE a ρ S).al.bind fun x S => opt ((getF x f cs S).map W.d) S
  | .isT ts a, ρ, S => (evE a ρ S).bind fun x S => opt ((tyOf x S).map fun t => W.d (.bl (ts.any fun u => t.sub u))) S
  | .call f es, ρ, S => (evDs es ρ S).bind fun ds S => cb f ds S
  | .meth o m dis es, ρ, S => (evE o ρ S).al.bind fun x S => (match x with
    | .ref n => (match S[n]? with
      | some (.ins C fs) => (match if (fs.lookup m).isNone then dis.lookup C else none with
        | some f => (evDs es ρ S).bind fun ds S => cb f (.ref n :: ds) S
        | none => .bad)
      | _ => .bad)
    | _ => .bad)
  | .make C es, ρ, S => (evDs es ρ S).bind fun ds S => mkObj ci ini C ds S
  | .blt b es, ρ, S => (evWs es ρ S).bind fun ws S => opt (bltW b ws S) S
  | .bmt m o es, ρ, S => (evE o ρ S).bind fun x S => if kdOk m.kd x S = true then (if m.keeps = true then (evDs es ρ S).bind fun ds S => bmtD m x ds S else (evWs es ρ S).bind fun ws S => bmtW m x ws S) else .bad
  | .lc vs t it c e, ρ, S => (evI it ρ S).bind fun k S => lcGo k (fun x S => Res.nox (match t.put x (wipeE ρ vs) with
    | some ρ' => (evC c ρ' S).bind fun b S => if b = true then (evE e ρ' S).al.bind fun y S => .ok (some y) S else .ok none S
    | none => .bad)) k.items [] S
def evDs : Exs → Env → Sto → Res (List D)
  | .nil, _, S => .ok [] S
  | .cons e r, ρ, S => (evE e ρ S).al.bind fun d S => (evDs r ρ S).bind fun ds S => .ok (d :: ds) S
def evWs : Exs → Env → Sto → Res (List W)
  | .nil, _, S => .ok [] S
  | .cons e r, ρ, S => (evE e ρ S).bind fun d S => (evWs r ρ S).bind fun ds S => .ok (d :: ds) S
def evO : Oex → Env → Sto → Res (Option Int)
  | .no, _, S => .ok none S
  | .ya e, ρ, S => (evE e ρ S).bind fun x S => (match x with
    | .d (.int i) => .ok (some i) S
    | _ => .bad)
def evC : Oex → Env → Sto → Res Bool
  | .no, _, S => .ok true S
  | .ya e, ρ, S => (evE e ρ S).bind fun x S => testD x S fun b => .ok b S
def evI : Itx → Env → Sto → Res Wk
  | .seq e, ρ, S => (evE e ρ S).bind fun w S => opt (seqWk w S) S
  | .rng1 a, ρ, S => (evE a ρ S).bind fun x S => (match x with
    | .d (.int j) => if -(2 ^ 62) ≤ j ∧ j < 2 ^ 62 then .ok ⟨rngL 0 1 j.toNat, []⟩ S else .bad
    | _ => .bad)
  | .rng2 a b, ρ, S => (evE a ρ S).bind fun x S => (evE b ρ S).bind fun y S => (match x, y with
    | .d (.int i), .d (.int j) => if (-(2 ^ 62) ≤ i ∧ i < 2 ^ 62) ∧ -(2 ^ 62) ≤ j ∧ j < 2 ^ 62 then .ok ⟨rngL i 1 (j - i).toNat, []⟩ S else .bad
    | _, _ => .bad)
  | .rngD a b, ρ, S => (evE a ρ S).bind fun x S => (evE b ρ S).bind fun y S => (match x, y with
    | .d (.int i), .d (.int j) => if (-(2 ^ 62) ≤ i ∧ i < 2 ^ 62) ∧ -(2 ^ 62) ≤ j ∧ j < 2 ^ 62 then .ok ⟨rngL i (-1) (i - j).toNat, []⟩ S else .bad
    | _, _ => .bad)
  | .rngT a b, ρ, S => (evE a ρ S).bind fun x S => (evE b ρ S).bind fun y S => (match x, y with
    | .d (.int i), .d (.int j) => if (-(2 ^ 60) ≤ i ∧ i < 2 ^ 60) ∧ -(2 ^ 60) ≤ j ∧ j < 2 ^ 60 then .ok ⟨rngL i 2 ((j - i + 1) / 2).toNat, []⟩ S else .bad
    | _, _ => .bad)
  | .rev e, ρ, S => (evE e ρ S).bind fun w S => opt ((match lsrc w S with
    | some p => some ⟨p.1.reverse, p.2⟩
    | none => (tupOf w).map fun l => ⟨l.reverse, []⟩) : Option Wk) S
  | .enum e, ρ, S => (evE e ρ S).bind fun w S => opt ((lsrc w S).map fun p => (⟨enumL p.1, p.2⟩ : Wk)) S
  | .zip a b, ρ, S => (evE a ρ S).bind fun x S => (evE b ρ S).bind fun y S => opt ((match lsrc x S with
    | some p => (lsrc y S).map fun q => ⟨zipL p.1 q.1, p.2 ++ q.2⟩
    | none => (tupOf x).bind fun l => (tupOf y).map fun m => ⟨zipL l m, []⟩) : Option Wk) S
end
end
end PyI

set_option maxRecDepth 100000
set_option maxHeartbeats 1000000
/-! PyI: what data and a store stand for in the abstract heap. -/
namespace PyI
open PySem PySem.Spec PyProof.Rows L2

/-- the written part, the classes' places, the fields' names -/
structure Gd where
  K : PySem.W.Frag
  ca : Nat → Addr
  nm : Nat → Str
  inj : ∀ i j, nm i = nm j → i = j

/-- a list that never changes -/
def FzL (K : PySem.W.Frag) (H : Hp) (a : Addr) (xs : List V) : Prop :=
  (∃ o, H a = some (.frz o (.lst xs))) ∨ ∃ (o : Obj) (its : Array Value) (n : Nat), K.lookup a = some o ∧ o.cls = .type "list" ∧ o.dict = none ∧ o.data = .seq its n ∧ its.size ≤ sizeLine ∧ Vals xs its.toList
/-- a tuple of the written part -/
def KtT (K : PySem.W.Frag) (a : Addr) (xs : List V) : Prop :=
  ∃ (o : Obj) (its : Array Value) (n : Nat), K.lookup a = some o ∧ o.cls = .type "tuple" ∧ o.data = .seq its n ∧ its.size ≤ sizeLine ∧ Vals xs its.toList
theorem KtT.sq {K : PySem.W.Frag} {H : Hp} {a : Addr} {xs : List V} (h : KtT K a xs) : SqT K H a xs := .inr h
theorem FzL.sq {K : PySem.W.Frag} {H : Hp} {a : Addr} {xs : List V} (h : FzL K H a xs) : SqL K H a xs := by
  rcases h with ⟨o, h⟩ | h
  · exact .inl (.inr ⟨o, h⟩)
  · exact .inr h
mutual
def HasD (K : PySem.W.Frag) (θ : List Addr) (H : Hp) : D → V → Prop
  | .non, v => v = .non
  | .bl b, v => v = .bl b
  | .int i, v => v = .int i
  | .str l, v => v = .str ⟨l.toArray⟩
  | .tup ds, v => ∃ a vs, v = .ref a ∧ H a = some (.tup vs) ∧ HasDs K θ H ds vs
  | .rol t ds, v => ∃ a vs, v = .ref a ∧ (if t then KtT K a vs else FzL K H a vs) ∧ HasDs K θ H ds vs
  | .ref n, v => ∃ a, θ[n]? = some a ∧ v = .ref a
def HasDs (K : PySem.W.Frag) (θ : List Addr) (H : Hp) : List D → List V → Prop
  | [], [] => True
  | d :: ds, v :: vs => HasD K θ H d v ∧ HasDs K θ H ds vs
  | _, _ => False
end
def keyD : Key → D
  | .inl i => .int i
  | .inr x => .str x.cps.toList
def RelK (K : PySem.W.Frag) (θ : List Addr) (H : Hp) : List (D × D) → List (Key × V) → Prop := Paired fun p q => p.1 = keyD q.1 ∧ HasD K θ H p.2 q.2
def RelT (K : PySem.W.Frag) (θ : List Addr) (H : Hp) : List (D × D) → List (List Key × V) → Prop := Paired fun p q => p.1 = .tup (q.1.map keyD) ∧ HasD K θ H p.2 q.2
def RelF (g : Gd) (θ : List Addr) (H : Hp) : List (Nat × D) → List (Str × V) → Prop := Paired fun p q => q.1 = g.nm p.1 ∧ HasD g.K θ H p.2 q.2
def RelO (g : Gd) (θ : List Addr) (H : Hp) : O → HO → Prop
  | .lst ds, ho => ∃ vs, ho = .lst vs ∧ HasDs g.K θ H ds vs
  | .dK l, ho => ∃ kvs, ho = .dK kvs ∧ RelK g.K θ H l kvs
  | .dT l, ho => ∃ kvs, ho = .dT kvs ∧ RelT g.K θ H l kvs
  | .ins C fs, ho => ∃ dx fs', ho = .ins (g.ca C) dx fs' ∧ RelF g θ H fs fs'
structure RelS (g : Gd) (θ : List Addr) (H : Hp) (S : Sto) : Prop where
  len : θ.length = S.length
  nd : θ.Nodup
  at_ : ∀ (n : Nat) (o : O), S[n]? = some o → ∃ a ho, θ[n]? = some a ∧ H a = some ho ∧ RelO g θ H o ho
structure Step (K : PySem.W.Frag) (θ : List Addr) (H : Hp) (θ' : List Addr) (H' : Hp) : Prop where
  pre : ∀ (n : Nat) (a : Addr), θ[n]? = some a → θ'[n]? = some a
  keep : ∀ a o, H a = some o → a ∉ θ → H' a = some o
  free : ∀ a, a ∈ θ' → a ∈ θ ∨ H a = none
  tup : ∀ a xs, H a = some (.tup xs) → H' a = some (.tup xs)
  fz : ∀ a xs, FzL K H a xs → FzL K H' a xs

section
variable {K : PySem.W.Frag} {g : Gd} {θ θ' θ'' : List Addr} {H H' H'' : Hp} {S S' : Sto}
theorem Step.refl : Step K θ H θ H := ⟨fun _ _ h => h, fun _ _ h _ => h, fun _ h => .inl h, fun _ _ h => h, fun _ _ h => h⟩
theorem Step.trans (s : Step K θ H θ' H') (t : Step K θ' H' θ'' H'') : Step K θ H θ'' H'' where
  pre := fun n a h => t.pre n a (s.pre n a h)
  keep := fun a o h n => t.keep a o (s.keep a o h n) fun m => by
    rcases s.free a m with z | z
    · exact n z
    · rw [h] at z; cases z
  free := fun a h => by
    rcases t.free a h with z | z
    · exact s.free a z
    · by_cases m : a ∈ θ
      · exact .inl m
      · right
        cases e : H a with
        | none => rfl
        | some o => rw [s.keep a o e m] at z; cases z
  tup := fun a xs h => t.tup a xs (s.tup a xs h)
  fz := fun a xs h => t.fz a xs (s.fz a xs h)
structure Mono (K : PySem.W.Frag) (θ : List Addr) (H : Hp) (θ' : List Addr) (H' : Hp) : Prop where
  pre : ∀ (n : Nat) (a : Addr), θ[n]? = some a → θ'[n]? = some a
  tup : ∀ a xs, H a = some (.tup xs) → H' a = some (.tup xs)
  fz : ∀ a xs, FzL K H a xs → FzL K H' a xs
theorem Step.mono (s : Step K θ H θ' H') : Mono K θ H θ' H' := ⟨s.pre, s.tup, s.fz⟩
mutual
theorem HasD.mono (s : Mono K θ H θ' H') : ∀ {d : D} {v : V}, HasD K θ H d v → HasD K θ' H' d v
  | .non, _, h => by simpa [HasD] using h
  | .bl _, _, h => by simpa [HasD] using h
  | .int _, _, h => by simpa [HasD] using h
  | .str _, _, h => by simpa [HasD] using h
  | .tup ds, v, h => by
    obtain ⟨a, vs, e, t, r⟩ := (by simpa [HasD] using h : ∃ a vs, v = .ref a ∧ H a = some (.tup vs) ∧ HasDs K θ H ds vs)
    simp only [HasD]
    exact ⟨a, vs, e, s.tup a vs t, HasDs.mono s r⟩
  | .rol b ds, v, h => by
    unfold HasD at h
    obtain ⟨a, vs, e, t, r⟩ := h
    unfold HasD
    refine ⟨a, vs, e, ?_, HasDs.mono s r⟩
    cases b with
    | true => exact t
    | false => exact s.fz a vs t
  | .ref n, v, h => by
    obtain ⟨a, e, r⟩ := (by simpa [HasD] using h : ∃ a, θ[n]? = some a ∧ v = .ref a)
    simp only [HasD]
    exact ⟨a, s.pre n a e, r⟩
theorem HasDs.mono (s : Mono K θ H θ' H') : ∀ {ds : List D} {vs : List V}, HasDs K θ H ds vs → HasDs K θ' H' ds vs
  | [], [], h => by simp [HasDs]
  | d :: ds, v :: vs, h => by
    obtain ⟨h1, h2⟩ := (by simpa [HasDs] using h : HasD K θ H d v ∧ HasDs K θ H ds vs)
    simp only [HasDs]
    exact ⟨HasD.mono s h1, HasDs.mono s h2⟩
  | [], _ :: _, h => by simp [HasDs] at h
  | _ :: _, [], h => by simp [HasDs] at h
end
theorem HasD.step (s : Step K θ H θ' H') {d : D} {v : V} (h : HasD K θ H d v) : HasD K θ' H' d v := h.mono s.mono
theorem HasDs.step (s : Step K θ H θ' H') {d : List D} {v : List V} (h : HasDs K θ H d v) : HasDs K θ' H' d v := h.mono s.mono
theorem Paired.imp {α β : Type} {F G : α → β → Prop} (f : ∀ a b, F a b → G a b) : ∀ {xs : List α} {ys : List β}, Paired F xs ys → Paired G xs ys
  | _, _, .nil => .nil
  | _, _, .cons r t => .cons (f _ _ r) (Paired.imp f t)
theorem RelO.mono (s : Mono g.K θ H θ' H') {o : O} {ho : HO} (h : RelO g θ H o ho) : RelO g θ' H' o ho := by
  cases o with
  | lst ds => obtain ⟨vs, e, r⟩ := h; exact ⟨vs, e, r.mono s⟩
  | dK l => obtain ⟨vs, e, r⟩ := h; exact ⟨vs, e, Paired.imp (fun a b z => ⟨z.1, z.2.mono s⟩) r⟩
  | dT l => obtain ⟨vs, e, r⟩ := h; exact ⟨vs, e, Paired.imp (fun a b z => ⟨z.1, z.2.mono s⟩) r⟩
  | ins C fs => obtain ⟨dx, fs', e, r⟩ := h; exact ⟨dx, fs', e, Paired.imp (fun a b z => ⟨z.1, z.2.mono s⟩) r⟩
theorem RelO.step (s : Step g.K θ H θ' H') {o : O} {ho : HO} (h : RelO g θ H o ho) : RelO g θ' H' o ho := h.mono s.mono
theorem HasDs.length : ∀ {ds : List D} {vs : List V}, HasDs K θ H ds vs → ds.length = vs.length
  | [], [], _ => rfl
  | d :: ds, v :: vs, h => by
    obtain ⟨h1, h2⟩ := (by simpa [HasDs] using h : HasD K θ H d v ∧ HasDs K θ H ds vs)
    simp [HasDs.length h2]
  | [], _ :: _, h => by simp [HasDs] at h
  | _ :: _, [], h => by simp [HasDs] at h
theorem HasDs.get : ∀ {ds : List D} {vs : List V} {i : Nat} {d : D}, HasDs K θ H ds vs → ds[i]? = some d → ∃ v, vs[i]? = some v ∧ HasD K θ H d v
  | [], [], _, _, _, e => by simp at e
  | d :: ds, v :: vs, i, x, h, e => by
    obtain ⟨h1, h2⟩ := (by simpa [HasDs] using h : HasD K θ H d v ∧ HasDs K θ H ds vs)
    cases i with
    | zero => simp at e; subst e; exact ⟨v, rfl, h1⟩
    | succ i => obtain ⟨w, a, b⟩ := HasDs.get (i := i) h2 (by simpa using e); exact ⟨w, by simpa using a, b⟩
  | [], _ :: _, _, _, h, _ => by simp [HasDs] at h
  | _ :: _, [], _, _, h, _ => by simp [HasDs] at h
theorem HasDs.append : ∀ {ds es : List D} {vs ws : List V}, HasDs K θ H ds vs → HasDs K θ H es ws → HasDs K θ H (ds ++ es) (vs ++ ws)
  | [], _, [], _, _, h => h
  | d :: ds, _, v :: vs, _, h, k => by
    obtain ⟨h1, h2⟩ := (by simpa [HasDs] using h : HasD K θ H d v ∧ HasDs K θ H ds vs)
    simp only [List.cons_append, HasDs]
    exact ⟨h1, HasDs.append h2 k⟩
  | [], _, _ :: _, _, h, _ => by simp [HasDs] at h
  | _ :: _, _, [], _, h, _ => by simp [HasDs] at h
theorem HasDs.take : ∀ {ds : List D} {vs : List V} (n : Nat), HasDs K θ H ds vs → HasDs K θ H (ds.take n) (vs.take n)
  | _, _, 0, _ => by simp [HasDs]
  | [], [], _ + 1, _ => by simp [HasDs]
  | d :: ds, v :: vs, n + 1, h => by
    obtain ⟨h1, h2⟩ := (by simpa [HasDs] using h : HasD K θ H d v ∧ HasDs K θ H ds vs)
    simp only [List.take_succ_cons, HasDs]
    exact ⟨h1, HasDs.take n h2⟩
  | [], _ :: _, _ + 1, h => by simp [HasDs] at h
  | _ :: _, [], _ + 1, h => by simp [HasDs] at h
theorem HasDs.drop : ∀ {ds : List D} {vs : List V} (n : Nat), HasDs K θ H ds vs → HasDs K θ H (ds.drop n) (vs.drop n)
  | _, _, 0, h => by simpa using h
  | [], [], _ + 1, _ => by simp [HasDs]
  | d :: ds, v :: vs, n + 1, h => by
    obtain ⟨h1, h2⟩ := (by simpa [HasDs] using h : HasD K θ H d v ∧ HasDs K θ H ds vs)
    simp only [List.drop_succ_cons]
    exact HasDs.drop n h2
  | [], _ :: _, _ + 1, h => by simp [HasDs] at h
  | _ :: _, [], _ + 1, h => by simp [HasDs] at h
theorem HasDs.reverse : ∀ {ds : List D} {vs : List V}, HasDs K θ H ds vs → HasDs K θ H ds.reverse vs.reverse
  | [], [], h => by simp [HasDs]
  | d :: ds, v :: vs, h => by
    obtain ⟨h1, h2⟩ := (by simpa [HasDs] using h : HasD K θ H d v ∧ HasDs K θ H ds vs)
    simp only [List.reverse_cons]
    exact HasDs.append (HasDs.reverse h2) (by simp [HasDs]; exact h1)
  | [], _ :: _, h => by simp [HasDs] at h
  | _ :: _, [], h => by simp [HasDs] at h
theorem HasDs.rep {ds : List D} {vs : List V} (h : HasDs K θ H ds vs) : ∀ n, HasDs K θ H (List.replicate n ds).flatten (List.replicate n vs).flatten
  | 0 => by simp [HasDs]
  | n + 1 => by
    simp only [List.replicate_succ, List.flatten_cons]
    exact HasDs.append h (HasDs.rep h n)
theorem HasDs.set : ∀ {ds : List D} {vs : List V} {d : D} {v : V} (i : Nat), HasD K θ H d v → HasDs K θ H ds vs → HasDs K θ H (ds.set i d) (vs.set i v)
  | [], [], _, _, _, _, h => by simp [HasDs]
  | d :: ds, v :: vs, x, y, i, hx, h => by
    obtain ⟨h1, h2⟩ := (by simpa [HasDs] using h : HasD K θ H d v ∧ HasDs K θ H ds vs)
    cases i with
    | zero => simp only [List.set_cons_zero, HasDs]; exact ⟨hx, h2⟩
    | succ i => simp only [List.set_cons_succ, HasDs]; exact ⟨h1, HasDs.set i hx h2⟩
  | [], _ :: _, _, _, _, _, h => by simp [HasDs] at h
  | _ :: _, [], _, _, _, _, h => by simp [HasDs] at h
theorem HasDs.nil : HasDs K θ H [] [] := by simp [HasDs]
theorem HasDs.cons {d : D} {v : V} {ds : List D} {vs : List V} (h : HasD K θ H d v) (r : HasDs K θ H ds vs) : HasDs K θ H (d :: ds) (v :: vs) := by
  simp only [HasDs]
  exact ⟨h, r⟩
theorem HasDs.of_cons {d : D} {v : V} {ds : List D} {vs : List V} (h : HasDs K θ H (d :: ds) (v :: vs)) : HasD K θ H d v ∧ HasDs K θ H ds vs := by simpa [HasDs] using h
theorem HasDs.of_cons' {d : D} {ds : List D} {ws : List V} (h : HasDs K θ H (d :: ds) ws) : ∃ v vs, ws = v :: vs ∧ HasD K θ H d v ∧ HasDs K θ H ds vs := by
  cases ws with
  | nil => simp [HasDs] at h
  | cons v vs => exact ⟨v, vs, rfl, h.of_cons⟩
theorem HasDs.of_nil {ws : List V} (h : HasDs K θ H [] ws) : ws = [] := by
  cases ws with
  | nil => rfl
  | cons v vs => simp [HasDs] at h
theorem HasD.tup_iff {ds : List D} {v : V} : HasD K θ H (.tup ds) v ↔ ∃ a vs, v = .ref a ∧ H a = some (.tup vs) ∧ HasDs K θ H ds vs := by simp [HasD]
theorem HasD.rol_iff {ds : List D} {v : V} : HasD K θ H (.rol false ds) v ↔ ∃ a vs, v = .ref a ∧ FzL K H a vs ∧ HasDs K θ H ds vs := by simp [HasD]
theorem HasD.ktp_iff {ds : List D} {v : V} : HasD K θ H (.rol true ds) v ↔ ∃ a vs, v = .ref a ∧ KtT K a vs ∧ HasDs K θ H ds vs := by simp [HasD]
theorem HasD.ref_iff {n : Nat} {v : V} : HasD K θ H (.ref n) v ↔ ∃ a, θ[n]? = some a ∧ v = .ref a := by simp [HasD]
theorem HasD.int_iff {i : Int} {v : V} : HasD K θ H (.int i) v ↔ v = .int i := by simp [HasD]
theorem HasD.bl_iff {i : Bool} {v : V} : HasD K θ H (.bl i) v ↔ v = .bl i := by simp [HasD]
theorem HasD.str_iff {i : List Nat} {v : V} : HasD K θ H (.str i) v ↔ v = .str ⟨i.toArray⟩ := by simp [HasD]
theorem HasD.non_iff {v : V} : HasD K θ H .non v ↔ v = .non := by simp [HasD]

/-! ### the store and the heap change -/
theorem RelS.mem (r : RelS g θ H S) {a : Addr} (h : a ∈ θ) : ∃ (n : Nat) (o : O) (ho : HO), θ[n]? = some a ∧ S[n]? = some o ∧ H a = some ho ∧ RelO g θ H o ho := by
  obtain ⟨n, hn, e⟩ := List.mem_iff_getElem.mp h
  have h2 : n < S.length := by rw [← r.len]; exact hn
  obtain ⟨b, ho, e1, e2, e3⟩ := r.at_ n _ (List.getElem?_eq_getElem h2)
  have e4 : θ[n]? = some a := by rw [List.getElem?_eq_getElem hn, e]
  rw [e4] at e1
  cases e1
  exact ⟨n, _, ho, e4, List.getElem?_eq_getElem h2, e2, e3⟩
theorem RelS.new_notin (r : RelS g θ H S) {p : Addr} (h : H p = none) : p ∉ θ := fun m => by
  obtain ⟨_, _, _, _, _, e, _⟩ := r.mem m
  rw [h] at e; cases e
/-- free now, free ahead -/
theorem Step.back (s : Step K θ H θ' H') (r : RelS g θ' H' S) {p : Addr} (h : H' p = none) : H p = none := by
  cases e : H p with
  | none => rfl
  | some o =>
    by_cases m : p ∈ θ
    · obtain ⟨n, hn, e2⟩ := List.mem_iff_getElem.mp m
      have e4 := s.pre n p (by rw [List.getElem?_eq_getElem hn, e2])
      have m2 : p ∈ θ' := List.mem_of_getElem? e4
      exact absurd m2 (r.new_notin h)
    · rw [s.keep p o e m] at h; cases h
theorem sqT_upd {p : Addr} {o : HO} (h : H p = none) {a : Addr} {xs : List V} (q : H a = some (.tup xs)) : (upd H p o) a = some (.tup xs) := by
  rw [upd_ne (ne_of_none q h)]; exact q
theorem fzL_upd {p : Addr} {o : HO} (h : H p = none) {a : Addr} {xs : List V} (q : FzL K H a xs) : FzL K (upd H p o) a xs := by
  rcases q with ⟨u, q⟩ | q
  · exact .inl ⟨u, by rw [upd_ne (ne_of_none q h)]; exact q⟩
  · exact .inr q
/-- a new object, not of the store -/
theorem Step.new {p : Addr} {o : HO} (h : H p = none) : Step K θ H θ (upd H p o) :=
  ⟨fun _ _ e => e, fun a u e _ => by rw [upd_ne (ne_of_none e h)]; exact e, fun _ e => .inl e, fun _ _ q => sqT_upd h q, fun _ _ q => fzL_upd h q⟩
theorem RelS.new (r : RelS g θ H S) {p : Addr} {o : HO} (h : H p = none) : RelS g θ (upd H p o) S :=
  ⟨r.len, r.nd, fun n u e => by
    obtain ⟨a, ho, e1, e2, e3⟩ := r.at_ n u e
    exact ⟨a, ho, e1, by rw [upd_ne (ne_of_none e2 h)]; exact e2, e3.step (Step.new h)⟩⟩
theorem mono_app {a : Addr} : Mono K θ H (θ ++ [a]) H :=
  ⟨fun n b e => by rw [List.getElem?_append_left (List.getElem?_eq_some_iff.mp e).1]; exact e, fun _ _ h => h, fun _ _ h => h⟩
/-- an object that the store doesn't have is held from now on -/
theorem RelS.hold (r : RelS g θ H S) {a : Addr} {ob : O} {ho : HO} (e : H a = some ho) (n : a ∉ θ) (q : RelO g θ H ob ho) : RelS g (θ ++ [a]) H (S ++ [ob]) := by
  refine ⟨by simp [r.len], ?_, fun i o h => ?_⟩
  · rw [List.nodup_append]
    refine ⟨r.nd, by simp, fun x hx y hy => ?_⟩
    have : y = a := by simpa using hy
    subst this
    exact fun z => n (z ▸ hx)
  · by_cases hi : i < S.length
    · rw [List.getElem?_append_left hi] at h
      obtain ⟨b, h1, e1, e2, e3⟩ := r.at_ i o h
      exact ⟨b, h1, mono_app.pre (K := g.K) (H := H) i b e1, e2, e3.mono mono_app⟩
    · rw [List.getElem?_append_right (by omega)] at h
      have hi2 : i = S.length := by
        by_cases z : i - S.length = 0
        · omega
        · rw [List.getElem?_eq_none (by simp; omega)] at h; cases h
      subst hi2
      simp at h
      subst h
      refine ⟨a, ho, ?_, e, q.mono mono_app⟩
      rw [← r.len]
      simp
theorem hold_at {a : Addr} (r : RelS g θ H S) : (θ ++ [a])[S.length]? = some a := by
  rw [← r.len]
  simp
/-- what stands for an object may be written -/
theorem RelO.mut {o : O} {ho : HO} (q : RelO g θ H o ho) : (∀ xs, ho ≠ .tup xs) ∧ ∀ u xs, ho ≠ .frz u xs := by
  cases o with
  | lst ds => obtain ⟨vs, e, r⟩ := q; subst e; exact ⟨fun _ z => (by cases z), fun _ _ z => (by cases z)⟩
  | dK l => obtain ⟨vs, e, r⟩ := q; subst e; exact ⟨fun _ z => (by cases z), fun _ _ z => (by cases z)⟩
  | dT l => obtain ⟨vs, e, r⟩ := q; subst e; exact ⟨fun _ z => (by cases z), fun _ _ z => (by cases z)⟩
  | ins C fs => obtain ⟨dx, fs', e, r⟩ := q; subst e; exact ⟨fun _ z => (by cases z), fun _ _ z => (by cases z)⟩
/-- the n-th object is written -/
theorem Step.write (r : RelS g θ H S) {n : Nat} {o : O} {a : Addr} {h' : HO} (e : S[n]? = some o) (ea : θ[n]? = some a) : Step g.K θ H θ (upd H a h') := by
  obtain ⟨b, ho, e1, e2, e3⟩ := r.at_ n o e
  rw [ea] at e1
  cases e1
  obtain ⟨m1, m2⟩ := e3.mut
  have mem : a ∈ θ := List.mem_of_getElem? ea
  refine ⟨fun _ _ z => z, fun b u z k => ?_, fun _ z => .inl z, fun b xs q => ?_, fun b xs q => ?_⟩
  · rw [upd_ne (fun w => k (by rw [w]; exact mem))]; exact z
  · rw [upd_ne (fun w => by subst w; rw [e2] at q; cases q; exact m1 _ rfl)]; exact q
  · rcases q with ⟨u, q⟩ | q
    · refine .inl ⟨u, ?_⟩
      rw [upd_ne (fun w => by subst w; rw [e2] at q; cases q; exact m2 _ _ rfl)]; exact q
    · exact .inr q
theorem RelS.write (r : RelS g θ H S) {n : Nat} {o o' : O} {a : Addr} {h' : HO} (e : S[n]? = some o) (ea : θ[n]? = some a) (q : RelO g θ H o' h') : RelS g θ (upd H a h') (S.set n o') := by
  have st := Step.write (h' := h') r e ea
  refine ⟨by simp [r.len], r.nd, fun i u hi => ?_⟩
  by_cases hn : n = i
  · subst hn
    have hl : n < S.length := (List.getElem?_eq_some_iff.mp e).1
    rw [List.getElem?_set_self hl] at hi
    cases hi
    exact ⟨a, h', ea, upd_same, q.step st⟩
  · rw [List.getElem?_set_ne hn] at hi
    obtain ⟨b, ho, e1, e2, e3⟩ := r.at_ i u hi
    refine ⟨b, ho, e1, ?_, e3.step st⟩
    rw [upd_ne (fun w => ?_)]
    · exact e2
    · subst w
      obtain ⟨l1, x1⟩ := List.getElem?_eq_some_iff.mp e1
      obtain ⟨l2, x2⟩ := List.getElem?_eq_some_iff.mp ea
      have := (List.getElem_inj r.nd).mp (x1.trans x2.symm)
      exact hn this.symm
/-! ### values on the way -/
/-- fresh since H₀ -/
def HasW (g : Gd) (H₀ : Hp) (θ : List Addr) (H : Hp) : W → V → Prop
  | .d x, v => HasD g.K θ H x v
  | .o ob, v => ∃ a ho, v = .ref a ∧ H a = some ho ∧ a ∉ θ ∧ RelO g θ H ob ho ∧ H₀ a = none
theorem HasW.step {H₀ : Hp} (s : Step g.K θ H θ' H') {w : W} {v : V} (h : HasW g H₀ θ H w v) : HasW g H₀ θ' H' w v := by
  cases w with
  | d x => exact HasD.step s h
  | o ob =>
    obtain ⟨a, ho, e, h1, n, q, f⟩ := h
    refine ⟨a, ho, e, s.keep a ho h1 n, fun m => ?_, q.step s, f⟩
    rcases s.free a m with z | z
    · exact n z
    · rw [h1] at z; cases z
theorem HasW.since {H₀ H₁ : Hp} {w : W} {v : V} (h : HasW g H₁ θ H w v) (k : ∀ a, H₁ a = none → H₀ a = none) : HasW g H₀ θ H w v := by
  cases w with
  | d x => exact h
  | o ob => obtain ⟨a, ho, e, h1, n, q, f⟩ := h; exact ⟨a, ho, e, h1, n, q, k a f⟩

/-! ### what a result asks -/
def CaseR (g : Gd) {α : Type} (θ : List Addr) (H : Hp) (r : Res α) (E : XK) (k : α → Sto → List Addr → Hp → Prop) : Prop := match r with
  | .ok a S' => ∀ θ' H', Step g.K θ H θ' H' → RelS g θ' H' S' → k a S' θ' H'
  | .ex C fs S' => ∀ θ' H' dx, Step g.K θ H θ' H' → RelS g θ' H' S' → (∃ fs', H' dx = some (.xd fs') ∧ RelF g θ' H' fs fs') → E (.ref (g.ca C)) (some dx) H'
  | .bad => False
section
variable {α β : Type} {E : XK} {r : Res α} {k k' : α → Sto → List Addr → Hp → Prop}
theorem CaseR.from (s : Step g.K θ H θ' H') (h : CaseR g θ H r E k) : CaseR g θ' H' r E k := by
  cases r with
  | ok a S' => exact fun θ2 H2 t r => h θ2 H2 (s.trans t) r
  | ex C fs S' => exact fun θ2 H2 dx t r => h θ2 H2 dx (s.trans t) r
  | bad => exact h
theorem CaseR.mono (h : CaseR g θ H r E k) (m : ∀ a S' θ' H', Step g.K θ H θ' H' → RelS g θ' H' S' → k a S' θ' H' → k' a S' θ' H') : CaseR g θ H r E k' := by
  cases r with
  | ok a S' => exact fun θ2 H2 t r => m _ _ _ _ t r (h θ2 H2 t r)
  | ex C fs S' => exact h
  | bad => exact h
theorem CaseR.bind {f : α → Sto → Res β} {k : β → Sto → List Addr → Hp → Prop} (h : CaseR g θ H (r.bind f) E k) : CaseR g θ H r E fun a S' θ' H' => CaseR g θ' H' (f a S') E k := by
  cases r with
  | ok a S' => exact fun θ2 H2 t r => CaseR.from t h
  | ex C fs S' => exact h
  | bad => exact h
theorem CaseR.opt {o : Option α} (h : CaseR g θ H (opt o S) E k) (r : RelS g θ H S) : ∃ a, o = some a ∧ k a S θ H := by
  cases o with
  | none => exact h.elim
  | some a => exact ⟨a, rfl, h θ H Step.refl r⟩
end
def EnvOk (K : PySem.W.Frag) (θ : List Addr) (H : Hp) (σ : L2.St) (ρ : Env) : Prop := σ.length = ρ.length ∧ ∀ (i : Nat) (d : D), ρ[i]? = some (some d) → ∃ v, σ[i]? = some (some v) ∧ HasD K θ H d v
theorem EnvOk.step {σ : L2.St} {ρ : Env} (e : EnvOk K θ H σ ρ) (s : Step K θ H θ' H') : EnvOk K θ' H' σ ρ := ⟨e.1, fun i d h => by
  obtain ⟨v, h1, h2⟩ := e.2 i d h
  exact ⟨v, h1, h2.step s⟩⟩
theorem EnvOk.set {σ : L2.St} {ρ : Env} (e : EnvOk K θ H σ ρ) {d : D} {v : V} (i : Nat) (h : HasD K θ H d v) : EnvOk K θ H (σ.set i (some v)) (ρ.set i (some d)) := by
  refine ⟨by simp [e.1], fun j x hx => ?_⟩
  by_cases hij : i = j
  · subst hij
    by_cases hl : i < ρ.length
    · rw [List.getElem?_set_self hl] at hx
      cases hx
      exact ⟨v, by rw [List.getElem?_set_self (by rw [e.1]; exact hl)], h⟩
    · rw [List.getElem?_eq_none (by simp; omega)] at hx; cases hx
  · rw [List.getElem?_set_ne hij] at hx
    obtain ⟨w, h1, h2⟩ := e.2 j x hx
    exact ⟨w, by rw [List.getElem?_set_ne hij]; exact h1, h2⟩
theorem EnvOk.unset {σ : L2.St} {ρ : Env} (e : EnvOk K θ H σ ρ) (i : Nat) : EnvOk K θ H (σ.set i none) (ρ.set i none) := by
  refine ⟨by simp [e.1], fun j x hx => ?_⟩
  by_cases hij : i = j
  · subst hij
    by_cases hl : i < ρ.length
    · rw [List.getElem?_set_self hl] at hx; cases hx
    · rw [List.getElem?_eq_none (by simp; omega)] at hx; cases hx
  · rw [List.getElem?_set_ne hij] at hx
    obtain ⟨w, h1, h2⟩ := e.2 j x hx
    exact ⟨w, by rw [List.getElem?_set_ne hij]; exact h1, h2⟩
theorem EnvOk.wipe {σ : L2.St} {ρ : Env} (e : EnvOk K θ H σ ρ) : ∀ vs : List Nat, EnvOk K θ H (L2.wipe σ vs) (wipeE ρ vs)
  | [] => e
  | v :: vs => (EnvOk.wipe e vs).unset v
end
end PyI

set_option maxRecDepth 100000
set_option maxHeartbeats 1000000
/-! PyI: operators, comparisons, subscripts, by values. -/
namespace PyI
open PySem PySem.Spec PyProof.Rows L2

theorem line_le {n : Nat} (h : n ≤ LINE) : n ≤ sizeLine := by
  rw [sizeLine_eq]; exact h
theorem line_lt {n : Nat} (h : n < LINE) : n < sizeLine := by
  rw [sizeLine_eq]; exact h
theorem str_len (l : List Nat) : (⟨l.toArray⟩ : Str).length = l.length := by
  show l.toArray.size = l.length
  simp
section
variable {g : Gd} {θ : List Addr} {H H₀ : Hp} {S : Sto} {x : V} {w : W}
theorem wd {y : D} (h : HasD g.K θ H y x) : HasW g H₀ θ H (.d y) x := h
theorem HasW.dd {y : D} (h : HasW g H₀ θ H (.d y) x) : HasD g.K θ H y x := h
theorem mlsOf_ok (rs : RelS g θ H S) (h : HasW g H₀ θ H w x) {l : List D} (e : mlsOf w S = some l) : ∃ a vs, x = .ref a ∧ H a = some (.lst vs) ∧ HasDs g.K θ H l vs := by
  cases w with
  | d y =>
    cases y with
    | ref n =>
      obtain ⟨a, ea, rfl⟩ := HasD.ref_iff.mp (HasW.dd h)
      simp only [mlsOf] at e
      cases q : S[n]? with
      | none => rw [q] at e; cases e
      | some o =>
        rw [q] at e
        obtain ⟨b, ho, e1, e2, e3⟩ := rs.at_ n o q
        rw [ea] at e1; cases e1
        cases o with
        | lst m =>
          cases e
          obtain ⟨vs, rfl, r⟩ := e3
          exact ⟨a, vs, rfl, e2, r⟩
        | _ => cases e
    | _ => cases e
  | o ob =>
    cases ob with
    | lst m =>
      cases e
      obtain ⟨a, ho, rfl, h1, _, ⟨vs, rfl, r⟩, _⟩ := h
      exact ⟨a, vs, rfl, h1, r⟩
    | _ => cases e
theorem lstOf_ok (rs : RelS g θ H S) (h : HasW g H₀ θ H w x) {l : List D} (e : lstOf w S = some l) : ∃ a vs, x = .ref a ∧ SqL g.K H a vs ∧ HasDs g.K θ H l vs := by
  cases w with
  | d y =>
    cases y with
    | rol b m =>
      cases b with
      | true => cases e
      | false =>
        cases e
        obtain ⟨a, vs, rfl, t, r⟩ := HasD.rol_iff.mp (HasW.dd h)
        exact ⟨a, vs, rfl, t.sq, r⟩
    | ref n =>
      obtain ⟨a, vs, e1, e2, e3⟩ := mlsOf_ok (w := .d (.ref n)) rs h (l := l) e
      exact ⟨a, vs, e1, .of e2, e3⟩
    | _ => cases e
  | o ob =>
    obtain ⟨a, vs, e1, e2, e3⟩ := mlsOf_ok (w := .o ob) rs h (l := l) (by cases ob <;> first | exact e | cases e)
    exact ⟨a, vs, e1, .of e2, e3⟩
/-- a new list, a new tuple -/
theorem hasNewL {p : Addr} {l : List D} {vs : List V} (rs : RelS g θ H S) (hp : H p = none) (h : HasDs g.K θ H l vs) : HasW g H θ (upd H p (.lst vs)) (.o (.lst l)) (.ref p) :=
  ⟨p, _, rfl, upd_same, rs.new_notin hp, ⟨vs, rfl, h.step (Step.new hp)⟩, hp⟩
theorem hasNewT {p : Addr} {l : List D} {vs : List V} (hp : H p = none) (h : HasDs g.K θ H l vs) : HasW g H θ (upd H p (.tup vs)) (.d (.tup l)) (.ref p) :=
  wd <| HasD.tup_iff.mpr ⟨p, vs, rfl, upd_same, h.step (Step.new hp)⟩
/-- a two-place operation on values -/
def rW (g : Gd) (f : W → W → Sto → Option W) : R2 := fun x y H Q => ∃ θ S wx wy w H₀, RelS g θ H S ∧ HasW g H₀ θ H wx x ∧ HasW g H₀ θ H wy y ∧ f wx wy S = some w ∧
  ∀ v H', Step g.K θ H θ H' → RelS g θ H' S → HasW g H θ H' w v → Q v H'
end
section
variable {X : Cx} {g : Gd}
theorem int_of {θ : List Addr} {H H₀ : Hp} {i : Int} {x : V} (h : HasW g H₀ θ H (.d (.int i)) x) : x = .int i := HasD.int_iff.mp (HasW.dd h)
theorem str_of {θ : List Addr} {H H₀ : Hp} {i : List Nat} {x : V} (h : HasW g H₀ θ H (.d (.str i)) x) : x = .str ⟨i.toArray⟩ := HasD.str_iff.mp (HasW.dd h)
theorem bl_of {θ : List Addr} {H H₀ : Hp} {i : Bool} {x : V} (h : HasW g H₀ θ H (.d (.bl i)) x) : x = .bl i := HasD.bl_iff.mp (HasW.dd h)
theorem has_int {θ : List Addr} {H H₀ : Hp} {i : Int} : HasW g H₀ θ H (.d (.int i)) (.int i) := wd (HasD.int_iff.mpr rfl)
theorem has_bl {θ : List Addr} {H H₀ : Hp} {i : Bool} : HasW g H₀ θ H (.d (.bl i)) (.bl i) := wd (HasD.bl_iff.mpr rfl)
theorem has_str {θ : List Addr} {H H₀ : Hp} {i : List Nat} : HasW g H₀ θ H (.d (.str i)) (.str ⟨i.toArray⟩) := wd (HasD.str_iff.mpr rfl)
/-- ints to an int, by the layer's rule -/
theorem op_int {op : Operator} {C : Int → Int → Prop} {f : Int → Int → Int} {c : Int → Int → Bool} (rule : OpR X (binaryOp op) (rI C fun i j => .int (f i j))) (hc : ∀ i j, c i j = true → C i j) :
    OpR X (binaryOp op) (rW g fun x y _ => intW x y c f) := by
  intro pins s σ H x y v u Q I rx ry h
  obtain ⟨θ, S, wx, wy, w, H₀, rs, hx, hy, e, q⟩ := h
  simp only [intW] at e
  split at e
  · rename_i i
    split at e
    · rename_i j
      split at e
      · rename_i hij
        cases e
        rw [int_of hx] at rx
        rw [int_of hy] at ry
        exact rule pins s σ H _ _ v u Q I rx ry ⟨i, j, rfl, rfl, hc i j hij, q _ _ Step.refl rs has_int⟩
      · cases e
    · cases e
  · cases e
theorem rI_of {f : Value → Value → Sem Value} {h : Int → Int → V} (r : OpR X f (rI0 h)) : OpR X f (rI (fun _ _ => True) h) := fun pins s σ H x y v u Q I rx ry ⟨i, j, e1, e2, _, q⟩ => r pins s σ H x y v u Q I rx ry ⟨i, j, e1, e2, q⟩
theorem str_app (l m : List Nat) : (⟨l.toArray⟩ : Str) ++ (⟨m.toArray⟩ : Str) = ⟨(l ++ m).toArray⟩ := by
  show (⟨l.toArray ++ m.toArray⟩ : Str) = _
  simp
theorem op_catW (hK : X.K = g.K) {x y : V} {v u : Value} {pins : List (Addr × Obj)} {s : Shared} {σ : L2.St} {H H₀ : Hp} {θ : List Addr} {S : Sto} {wx wy w : W} {Q : VK} (I : Inv X pins σ H s) (rx : RelV x v) (ry : RelV y u) (rs : RelS g θ H S) (hx : HasW g H₀ θ H wx x) (hy : HasW g H₀ θ H wy y)
    (e : catL wx wy S = some w) (q : ∀ v H', Step g.K θ H θ H' → RelS g θ H' S → HasW g H θ H' w v → Q v H') : wpAny (model X.prog X.w) X.A (binaryOp .Add v u) (EP X pins σ Q) X.xe s := by
  simp only [catL] at e
  split at e
  · rename_i l m e1 e2
    split at e
    · rename_i hl
      cases e
      obtain ⟨a, vs, rfl, ha, h1⟩ := mlsOf_ok rs hx e1
      obtain ⟨b, ws, rfl, hb, h2⟩ := mlsOf_ok rs hy e2
      refine L2.op_cat pins s σ H _ _ v u Q I rx ry ⟨a, b, vs, ws, rfl, rfl, ha, hb, line_le ?_, fun p hp => q _ _ (Step.new hp) (rs.new hp) (hasNewL rs hp (h1.append h2))⟩
      rw [← h1.length, ← h2.length]; exact hl
    · cases e
  · cases e
theorem op_addW (hK : X.K = g.K) : OpR X (binaryOp .Add) (rW g addW) := by
  intro pins s σ H x y v u Q I rx ry h
  obtain ⟨θ, S, wx, wy, w, H₀, rs, hx, hy, e, q⟩ := h
  unfold addW at e
  split at e
  · rename_i i
    split at e
    · rename_i j
      cases e
      rw [int_of hx] at rx; rw [int_of hy] at ry
      exact op_add pins s σ H _ _ v u Q I rx ry ⟨i, j, rfl, rfl, q _ _ Step.refl rs has_int⟩
    · cases e
  · rename_i l
    split at e
    · rename_i m
      split at e
      · rename_i hl
        cases e
        rw [str_of hx] at rx; rw [str_of hy] at ry
        refine op_add_str pins s σ H _ _ v u Q I rx ry ⟨_, _, rfl, rfl, line_le (by simpa [str_len] using hl), ?_⟩
        rw [str_app]
        exact q _ _ Step.refl rs has_str
      · cases e
    · cases e
  · rename_i l
    split at e
    · rename_i m
      split at e
      · rename_i hl
        cases e
        obtain ⟨a, vs, rfl, ta, h1⟩ := HasD.tup_iff.mp (HasW.dd hx)
        obtain ⟨b, ws, rfl, tb, h2⟩ := HasD.tup_iff.mp (HasW.dd hy)
        refine op_catA pins s σ H _ _ v u Q I rx ry ⟨a, b, vs, ws, rfl, rfl, .of ta, .of tb, line_le (by rw [← h1.length, ← h2.length]; exact hl), fun e1 => ?_, fun e1 e2 => ?_, fun _ _ p hp => ?_⟩
        · subst e1
          have e0 : l = [] := by
            cases l with
            | nil => rfl
            | cons z r => simp [HasDs] at h1
          subst e0
          exact q _ _ Step.refl rs (wd <| HasD.tup_iff.mpr ⟨b, ws, rfl, tb, by simpa using h2⟩)
        · subst e2
          have e0 : m = [] := by
            cases m with
            | nil => rfl
            | cons z r => simp [HasDs] at h2
          subst e0
          exact q _ _ Step.refl rs (wd <| HasD.tup_iff.mpr ⟨a, vs, rfl, ta, by simpa using h1⟩)
        · exact q _ _ (Step.new hp) (rs.new hp) (hasNewT hp (h1.append h2))
      · cases e
    · cases e
  · exact op_catW hK I rx ry rs hx hy e q
  · exact op_catW hK I rx ry rs hx hy e q
  · cases e
theorem op_repW (hK : X.K = g.K) {x y : V} {v u : Value} {pins : List (Addr × Obj)} {s : Shared} {σ : L2.St} {H H₀ : Hp} {θ : List Addr} {S : Sto} {wx wy w : W} {Q : VK} (I : Inv X pins σ H s) (rx : RelV x v) (ry : RelV y u) (rs : RelS g θ H S) (hx : HasW g H₀ θ H wx x) (hy : HasW g H₀ θ H wy y)
    (e : repL wx wy S = some w) (q : ∀ v H', Step g.K θ H θ H' → RelS g θ H' S → HasW g H θ H' w v → Q v H') : wpAny (model X.prog X.w) X.A (binaryOp .Mult v u) (EP X pins σ Q) X.xe s := by
  simp only [repL] at e
  split at e
  · rename_i l e1
    split at e
    · rename_i k
      split at e
      · rename_i hl
        cases e
        obtain ⟨a, vs, rfl, ha, h1⟩ := mlsOf_ok rs hx e1
        rw [int_of hy] at ry
        exact op_rep pins s σ H _ _ v u Q I rx ry ⟨a, k, vs, rfl, rfl, ha, hl.1, hl.2.1, line_le (by rw [← h1.length]; exact hl.2.2), fun p hp => q _ _ (Step.new hp) (rs.new hp) (hasNewL rs hp (h1.rep _))⟩
      · cases e
    · cases e
  · cases e
end
end PyI

set_option maxRecDepth 100000
set_option maxHeartbeats 4000000
/-! PyI: a tuple times 0 or 1. -/
namespace PyI
open PySem PySem.Spec PyProof.Rows L2
theorem tuple_mul1 (l : Addr) (items : Array Value) (n : Nat) (dd : Option Addr) (sl : Array (Option Value)) (u : Tok) :
    Meets (Builtin.«tuple.__mul__» ⟨[.ref l, .int 1 u], []⟩) (fun _ R s => s.heap.get? l = some { cls := .type "tuple", dict := dd, data := .seq items n, slots := sl } ∧
      R (.ok (.ret (Value.ref l))) s) :=
  .of_wp fun prog w A R s h => by
    obtain ⟨hp, g, d, tk, os⟩ := s
    obtain ⟨hl, h⟩ := h
    have f1 := AutoSeq1.idx_int
    have c1 : (items.isEmpty || (1 : Int) == 1) = true := by simp
    wp_walk using wpAny_loadPart' hl
    repeat (first
      | (refine wpAny_ite_false (decide_eq_false (by decide)) ?_; wp_walk using wpAny_loadPart' hl)
      | (refine wpAny_ite_true (decide_eq_true (by rw [c1])) ?_; wp_walk using wpAny_loadPart' hl))
    exact ⟨_, rfl, h⟩
theorem tuple_mul0 (l : Addr) (items : Array Value) (n : Nat) (dd : Option Addr) (sl : Array (Option Value)) (u : Tok) (hi : items.isEmpty = false) :
    Meets (Builtin.«tuple.__mul__» ⟨[.ref l, .int 0 u], []⟩) (fun _ R s => s.heap.get? l = some { cls := .type "tuple", dict := dd, data := .seq items n, slots := sl } ∧
      R (.ok (.ret (Value.ref s.heap.objs.size))) { s with heap := s.heap.push { cls := Value.type "tuple", data := Data.seq #[] }, toks := s.toks }) :=
  .of_wp fun prog w A R s h => by
    obtain ⟨hp, g, d, tk, os⟩ := s
    obtain ⟨hl, h⟩ := h
    have f1 := AutoSeq1.idx_int
    have c1 : (items.isEmpty || (0 : Int) == 1) = false := by rw [hi]; rfl
    have c2 : (decide ((0 : Int) ≤ 0) || items.isEmpty) = true := by rw [hi]; rfl
    wp_walk using wpAny_loadPart' hl
    repeat (first
      | (refine wpAny_ite_false (decide_eq_false (by decide)) ?_; wp_walk using wpAny_loadPart' hl)
      | (refine wpAny_ite_false (decide_eq_false (by rw [c1]; decide)) ?_; wp_walk using wpAny_loadPart' hl)
      | (refine wpAny_ite_true (decide_eq_true (by rw [c2])) ?_; wp_walk using wpAny_loadPart' hl))
    exact ⟨_, rfl, h⟩
def rRep01 (K : PySem.W.Frag) : R2 := fun x y H Q => ∃ l k xs, x = .ref l ∧ y = .int k ∧ SqT K H l xs ∧ xs ≠ [] ∧ ((k = 0 ∧ ∀ p, H p = none → Q (.ref p) (upd H p (.tup []))) ∨ (k = 1 ∧ Q (.ref l) H))
theorem op_rep01 {X : Cx} : OpR X (binaryOp .Mult) (rRep01 X.K) := by
  intro pins s σ H x y v u Q I rx ry h
  obtain ⟨l, k, xs, rfl, rfl, hT, hne, h⟩ := h
  cases rx
  obtain ⟨t, rfl⟩ := ry
  obtain ⟨its, r, ⟨⟨cls, dd, data, sl⟩, ho, hc, n, hd⟩, hs⟩ := I.tuple hT
  simp only at hc hd
  subst hc hd
  have hle : its.length = xs.length := r.length.symm
  have hn : its ≠ [] := fun e => hne (by
    rw [e] at hle
    exact List.eq_nil_of_length_eq_zero hle.symm)
  have hi : its.toArray.isEmpty = false := by
    cases its with
    | nil => exact absurd rfl hn
    | cons a b => rfl
  rcases h with ⟨rfl, q⟩ | ⟨rfl, q⟩
  · refine wpAny_binaryOp_repeat_ref (T := "tuple") (U := "int") (by decide) ⟨_, ho, rfl⟩ (fun s' => typeIs_int s' 0 t) noFill_tuple_mul F.fills_int_mul F.slot_int_rmul repeat_tuple F.slot_int_index.lookup
      (call_meets F.slot_int_rmul (typeIs_int s 0 t) F.entry_int_rmul (F.args_int_rmul_2 _ _) (int_rmul_tuple 0 t l its.toArray n dd sl)
        ⟨ho, rfl, ⟨_, ho, rfl⟩, call_meets F.slot_tuple_mul ⟨_, ho, rfl⟩ F.entry_tuple_mul (F.args_tuple_mul_2 _ _) (tuple_mul0 l its.toArray n dd sl t hi) ⟨ho, ?_⟩⟩)
    refine ⟨.ref s.heap.objs.size, _, I.laid (t' := s.toks) (o := .tup []) (fun b ob q => Heap.get?_push_of_some _ q) (Nat.le_refl _) ?_, rfl, q _ (I.hok.fresh (Nat.le_refl _))⟩
    exact ⟨Nat.zero_le _, [], .nil, IsTup.new _ _⟩
  · exact wpAny_binaryOp_repeat_ref (T := "tuple") (U := "int") (by decide) ⟨_, ho, rfl⟩ (fun s' => typeIs_int s' 1 t) noFill_tuple_mul F.fills_int_mul F.slot_int_rmul repeat_tuple F.slot_int_index.lookup
      (call_meets F.slot_int_rmul (typeIs_int s 1 t) F.entry_int_rmul (F.args_int_rmul_2 _ _) (int_rmul_tuple 1 t l its.toArray n dd sl)
        ⟨ho, rfl, ⟨_, ho, rfl⟩, call_meets F.slot_tuple_mul ⟨_, ho, rfl⟩ F.entry_tuple_mul (F.args_tuple_mul_2 _ _) (tuple_mul1 l its.toArray n dd sl t) ⟨ho, ⟨.ref l, H, I, rfl, q⟩⟩⟩)
end PyI

set_option maxRecDepth 100000
set_option maxHeartbeats 1000000
/-! PyI: operators, comparisons, subscripts, slices. -/
namespace PyI
open PySem PySem.Spec PyProof.Rows L2
section
variable {X : Cx} {g : Gd}
theorem op_mulW (hK : X.K = g.K) : OpR X (binaryOp .Mult) (rW g mulW) := by
  intro pins s σ H x y v u Q I rx ry h
  obtain ⟨θ, S, wx, wy, w, H₀, rs, hx, hy, e, q⟩ := h
  unfold mulW at e
  split at e
  · rename_i i
    split at e
    · rename_i j
      split at e
      · rename_i hc
        cases e
        rw [int_of hx] at rx; rw [int_of hy] at ry
        exact op_mul pins s σ H _ _ v u Q I rx ry ⟨i, j, rfl, rfl, hc, q _ _ Step.refl rs has_int⟩
      · cases e
    · cases e
  · exact op_repW hK I rx ry rs hx hy e q
  · exact op_repW hK I rx ry rs hx hy e q
  · rename_i l
    split at e
    · rename_i k
      rw [str_of hx] at rx; rw [int_of hy] at ry
      obtain ⟨t, rfl⟩ := rx
      obtain ⟨t', rfl⟩ := ry
      split at e
      · rename_i hk
        cases e
        subst hk
        exact P.mul_str_none (by decide) (by decide) ⟨.str ⟨([] : List Nat).toArray⟩, H, I.tok _, ⟨_, rfl⟩, q _ _ Step.refl rs (wd (HasD.str_iff.mpr rfl))⟩
      · split at e
        · rename_i hk
          cases e
          subst hk
          refine P.mul_str (by decide) (fun _ h => by simp at h) (fun _ h => by simp at h) ?_
          rw [if_neg (by decide), if_pos (by simp)]
          exact ⟨.str ⟨l.toArray⟩, H, I, ⟨_, rfl⟩, q _ _ Step.refl rs (wd (HasD.str_iff.mpr rfl))⟩
        · cases e
    · cases e
  · rename_i l
    split at e
    · rename_i k
      split at e
      · rename_i hc
        cases e
        obtain ⟨a, vs, rfl, ta, h1⟩ := HasD.tup_iff.mp (HasW.dd hx)
        rw [int_of hy] at ry
        have ne : vs ≠ [] := fun z => hc.1 (by
          subst z
          cases l with
          | nil => rfl
          | cons a b => simp [HasDs] at h1)
        by_cases k0 : k = 0
        · subst k0
          exact op_rep01 pins s σ H _ _ v u Q I rx ry ⟨a, 0, vs, rfl, rfl, .of ta, ne, .inl ⟨rfl, fun p hp => q _ _ (Step.new hp) (rs.new hp) (hasNewT hp (HasDs.nil))⟩⟩
        · by_cases k1 : k = 1
          · subst k1
            refine op_rep01 pins s σ H _ _ v u Q I rx ry ⟨a, 1, vs, rfl, rfl, .of ta, ne, .inr ⟨rfl, q _ _ Step.refl rs (wd <| HasD.tup_iff.mpr ⟨a, vs, rfl, ta, ?_⟩)⟩⟩
            simpa using h1
          · exact op_repT pins s σ H _ _ v u Q I rx ry ⟨a, k, vs, rfl, rfl, .of ta, ne, by omega, hc.2.2.1, by rw [← h1.length]; exact hc.2.2.2, fun p hp => q _ _ (Step.new hp) (rs.new hp) (hasNewT hp (h1.rep _))⟩
      · cases e
    · cases e
  · cases e
/-- the operator of the text -/
def Bop.py : Bop → Operator
  | .add => .Add
  | .sub => .Sub
  | .mul => .Mult
  | .fdiv => .FloorDiv
  | .mod => .Mod
  | .pow => .Pow
  | .shl => .LShift
  | .shr => .RShift
  | .xor => .BitXor
  | .band => .BitAnd
  | .bor => .BitOr
theorem small_ok {i j : Int} (h : small i j = true) : CPow i j := by
  have := of_decide_eq_true h
  exact this
theorem op_binW (hK : X.K = g.K) (o : Bop) : OpR X (binaryOp o.py) (rW g (binW o)) := by
  cases o with
  | add => exact op_addW hK
  | sub => exact op_int (rI_of op_sub) fun _ _ _ => trivial
  | mul => exact op_mulW hK
  | fdiv => exact op_int op_fdivW fun i j h => (of_decide_eq_true h : 0 < j ∧ j.natAbs.log2 < 9000)
  | mod => exact op_int op_mod fun i j h => of_decide_eq_true h
  | pow => exact op_int op_pow fun i j h => small_ok h
  | shl => exact op_int op_shl fun i j h => small_ok h
  | shr => exact op_int op_shr fun i j h => of_decide_eq_true h
  | xor => exact op_int (rI_of op_xor) fun _ _ _ => trivial
  | band => exact op_int (rI_of op_and) fun _ _ _ => trivial
  | bor => exact op_int (rI_of op_or) fun _ _ _ => trivial
/-! ### equality -/
section
variable {K : PySem.W.Frag} {θ : List Addr} {H H₀ : Hp} {S : Sto}
mutual
theorem py_ok {f : Nat → Option PyData} (hf : ∀ n a q, θ[n]? = some a → f n = some q → Dp K H (.ref a) q) : ∀ (d : D) (v : V) (p : PyData), HasD K θ H d v → D.py f d = some p → Dp K H v p
  | .non, v, p, h, e => by
    rw [HasD.non_iff.mp h]
    simp only [D.py] at e; cases e; exact .non
  | .bl b, v, p, h, e => by
    rw [HasD.bl_iff.mp h]
    simp only [D.py] at e; cases e; exact .bl b
  | .int b, v, p, h, e => by
    rw [HasD.int_iff.mp h]
    simp only [D.py] at e; cases e; exact .int b
  | .str b, v, p, h, e => by
    rw [HasD.str_iff.mp h]
    simp only [D.py] at e; cases e; exact .str _
  | .tup l, v, p, h, e => by
    obtain ⟨a, vs, rfl, t, r⟩ := HasD.tup_iff.mp h
    simp only [D.py] at e
    cases q : D.pys f l with
    | none => rw [q] at e; cases e
    | some ps =>
      rw [q] at e
      cases e
      exact .tup (.of t) (pys_ok hf l vs ps r q)
  | .rol true l, v, p, h, e => by
    obtain ⟨a, vs, rfl, t, r⟩ := HasD.ktp_iff.mp h
    simp only [D.py] at e
    cases q : D.pys f l with
    | none => rw [q] at e; cases e
    | some ps =>
      rw [q] at e
      cases e
      exact .tup t.sq (pys_ok hf l vs ps r q)
  | .rol false l, v, p, h, e => by
    obtain ⟨a, vs, rfl, t, r⟩ := HasD.rol_iff.mp h
    simp only [D.py] at e
    cases q : D.pys f l with
    | none => rw [q] at e; cases e
    | some ps =>
      rw [q] at e
      cases e
      exact .lst t.sq (pys_ok hf l vs ps r q)
  | .ref n, v, p, h, e => by
    obtain ⟨a, ea, rfl⟩ := HasD.ref_iff.mp h
    simp only [D.py] at e
    exact hf n a p ea e
theorem pys_ok {f : Nat → Option PyData} (hf : ∀ n a q, θ[n]? = some a → f n = some q → Dp K H (.ref a) q) : ∀ (l : List D) (vs : List V) (ps : List PyData), HasDs K θ H l vs → D.pys f l = some ps → DpAll K H vs ps
  | [], vs, ps, h, e => by
    rw [h.of_nil]
    simp only [D.pys] at e; cases e; exact .nil
  | d :: r, vs, ps, h, e => by
    obtain ⟨v, ws, rfl, h1, h2⟩ := h.of_cons'
    simp only [D.pys] at e
    cases q : D.py f d with
    | none => rw [q] at e; cases e
    | some x =>
      rw [q] at e
      cases q2 : D.pys f r with
      | none => rw [q2] at e; cases e
      | some xs =>
        rw [q2] at e
        cases e
        exact .cons (py_ok hf d v x h1 q) (pys_ok hf r ws xs h2 q2)
end
end
section
variable {θ : List Addr} {H H₀ : Hp} {S : Sto}
theorem held_ok (rs : RelS g θ H S) : ∀ (k n : Nat) (a : Addr) (q : PyData), θ[n]? = some a → held S k n = some q → Dp g.K H (.ref a) q
  | 0, _, _, _, _, e => by simp only [held] at e; cases e
  | k + 1, n, a, q, ea, e => by
    simp only [held] at e
    cases z : S[n]? with
    | none => rw [z] at e; cases e
    | some o =>
      rw [z] at e
      obtain ⟨b, ho, e1, e2, e3⟩ := rs.at_ n o z
      rw [ea] at e1; cases e1
      cases o with
      | lst l =>
        obtain ⟨vs, rfl, r⟩ := e3
        cases y : D.pys (held S k) l with
        | none => simp only [y] at e; cases e
        | some ps =>
          simp only [y] at e
          cases e
          exact .lst (.of e2) (pys_ok (held_ok rs k) l vs ps r y)
      | _ => cases e
theorem wpy_ok (rs : RelS g θ H S) {w : W} {x : V} {p : PyData} (h : HasW g H₀ θ H w x) (e : w.py S = some p) : Dp g.K H x p := by
  cases w with
  | d y => exact py_ok (held_ok rs 6) y x p h e
  | o ob =>
    cases ob with
    | lst l =>
      simp only [W.py] at e
      obtain ⟨a, ho, rfl, h1, _, ⟨vs, rfl, r⟩, _⟩ := h
      cases y : D.pys (held S 6) l with
      | none => rw [y] at e; cases e
      | some ps =>
        rw [y] at e
        cases e
        exact .lst (.of h1) (pys_ok (held_ok rs 6) l vs ps r y)
    | _ => cases e
end
def cW (f : W → W → Sto → Option Bool) : W → W → Sto → Option W := fun x y S => (f x y S).map fun b => .d (.bl b)
theorem scal_ok {K : PySem.W.Frag} {θ : List Addr} {H : Hp} {a b : D} {x y : V} (hx : HasD K θ H a x) (hy : HasD K θ H b y) (h : scalD a b = true) : scal x y = true ∧ decide (x = y) = decide (a = b) := by
  cases a with
  | non =>
    rw [HasD.non_iff.mp hx]
    cases b with
    | non => rw [HasD.non_iff.mp hy]; exact ⟨rfl, rfl⟩
    | bl j => rw [HasD.bl_iff.mp hy]; exact ⟨rfl, by simp⟩
    | int j => rw [HasD.int_iff.mp hy]; exact ⟨rfl, by simp⟩
    | str j => rw [HasD.str_iff.mp hy]; exact ⟨rfl, by simp⟩
    | _ => cases h
  | bl i =>
    rw [HasD.bl_iff.mp hx]
    cases b with
    | non => rw [HasD.non_iff.mp hy]; exact ⟨rfl, by simp⟩
    | bl j => rw [HasD.bl_iff.mp hy]; exact ⟨rfl, by simp⟩
    | str j => rw [HasD.str_iff.mp hy]; exact ⟨rfl, by simp⟩
    | _ => cases h
  | int i =>
    rw [HasD.int_iff.mp hx]
    cases b with
    | non => rw [HasD.non_iff.mp hy]; exact ⟨rfl, by simp⟩
    | int j => rw [HasD.int_iff.mp hy]; exact ⟨rfl, by simp⟩
    | str j => rw [HasD.str_iff.mp hy]; exact ⟨rfl, by simp⟩
    | _ => cases h
  | str i =>
    rw [HasD.str_iff.mp hx]
    cases b with
    | non => rw [HasD.non_iff.mp hy]; exact ⟨rfl, by simp⟩
    | bl j => rw [HasD.bl_iff.mp hy]; exact ⟨rfl, by simp⟩
    | int j => rw [HasD.int_iff.mp hy]; exact ⟨rfl, by simp⟩
    | str j =>
      rw [HasD.str_iff.mp hy]
      refine ⟨rfl, ?_⟩
      by_cases e : i = j
      · subst e; simp
      · rw [decide_eq_false (show ¬ D.str i = D.str j from fun z => e (by injection z)), decide_eq_false]
        intro z
        injection z with z
        injection z with z
        exact e (by simpa using z)
    | _ => cases h
  | _ => cases h
theorem eqD_of {θ : List Addr} {H H₀ : Hp} {S : Sto} {wx wy : W} {x y : V} {b : Bool} (rs : RelS g θ H S) (hx : HasW g H₀ θ H wx x) (hy : HasW g H₀ θ H wy y) (e : eqD wx wy S = some b) :
    ∃ p r, Dp g.K H x p ∧ Dp g.K H y r ∧ SeqAt.shaped p = true ∧ SeqAt.shaped r = true ∧ b = PyData.eqv p r := by
  unfold eqD at e
  split at e
  · rename_i p e1
    split at e
    · rename_i r e2
      split at e
      · rename_i sh
        cases e
        exact ⟨p, r, wpy_ok rs hx e1, wpy_ok rs hy e2, sh.1, sh.2, rfl⟩
      · cases e
    · cases e
  · cases e
theorem eqW_of {θ : List Addr} {H H₀ : Hp} {S : Sto} {wx wy : W} {x y : V} {b : Bool} (rs : RelS g θ H S) (hx : HasW g H₀ θ H wx x) (hy : HasW g H₀ θ H wy y) (e : eqW wx wy S = some b) :
    (scal x y = true ∧ b = decide (x = y)) ∨ ∃ p r, Dp g.K H x p ∧ Dp g.K H y r ∧ SeqAt.shaped p = true ∧ SeqAt.shaped r = true ∧ b = PyData.eqv p r := by
  unfold eqW at e
  split at e
  · split at e
    · split at e
      · rename_i hs
        cases e
        obtain ⟨h1, h2⟩ := scal_ok (HasW.dd hx) (HasW.dd hy) hs
        exact .inl ⟨h1, h2.symm⟩
      · exact .inr (eqD_of rs hx hy e)
    · exact .inr (eqD_of rs hx hy e)
  · exact .inr (eqD_of rs hx hy e)
theorem op_eqW (hK : X.K = g.K) (hu : X.A.units + 70 < cLine) : OpR X (compareOp .Eq) (rW g (cW eqW)) := by
  intro pins s σ H x y v u Q I rx ry h
  obtain ⟨θ, S, wx, wy, w, H₀, rs, hx, hy, e, q⟩ := h
  simp only [cW] at e
  cases eb : eqW wx wy S with
  | none => rw [eb] at e; cases e
  | some b =>
    rw [eb] at e
    cases e
    rcases eqW_of rs hx hy eb with ⟨h1, rfl⟩ | ⟨p, r, d1, d2, s1, s2, rfl⟩
    · exact op_eq pins s σ H x y v u Q I rx ry ⟨h1, q _ _ Step.refl rs has_bl⟩
    · rw [← hK] at d1 d2
      exact op_eqD (by omega) pins s σ H x y v u Q I rx ry ⟨p, r, d1, d2, s1, s2, q _ _ Step.refl rs has_bl⟩
theorem op_neW (hK : X.K = g.K) (hu : X.A.units + 70 < cLine) : OpR X (compareOp .NotEq) (rW g (cW fun x y S => (eqW x y S).map (!·))) := by
  intro pins s σ H x y v u Q I rx ry h
  obtain ⟨θ, S, wx, wy, w, H₀, rs, hx, hy, e, q⟩ := h
  simp only [cW] at e
  cases eb : eqW wx wy S with
  | none => rw [eb] at e; cases e
  | some b =>
    rw [eb] at e
    cases e
    rcases eqW_of rs hx hy eb with ⟨h1, rfl⟩ | ⟨p, r, d1, d2, s1, s2, rfl⟩
    · exact op_ne pins s σ H x y v u Q I rx ry ⟨h1, q _ _ Step.refl rs has_bl⟩
    · rw [← hK] at d1 d2
      exact op_neD (by omega) pins s σ H x y v u Q I rx ry ⟨p, r, d1, d2, s1, s2, q _ _ Step.refl rs has_bl⟩
/-! ### flat data -/
section
variable {K : PySem.W.Frag} {θ : List Addr} {H H₀ : Hp} {S : Sto}
theorem flat_ok {d : D} {v : V} (h : HasD K θ H d v) (f : d.flat = true) : flatV v = true := by
  cases d with
  | non => rw [HasD.non_iff.mp h]; rfl
  | bl b => rw [HasD.bl_iff.mp h]; rfl
  | int b => rw [HasD.int_iff.mp h]; rfl
  | str b => rw [HasD.str_iff.mp h]; rfl
  | _ => cases f
theorem str_beq (a b : List Nat) : ((⟨a.toArray⟩ : Str) == (⟨b.toArray⟩ : Str)) = decide (a = b) := by
  by_cases e : a = b
  · subst e; simp
  · rw [decide_eq_false e]
    refine beq_eq_false_iff_ne.mpr fun z => e ?_
    have : a.toArray = b.toArray := congrArg Str.cps z
    simpa using this
theorem eqF_ok {d e : D} {v w : V} (h : HasD K θ H d v) (k : HasD K θ H e w) (f : d.flat = true) (f' : e.flat = true) : eqV v w = eqF d e := by
  cases d with
  | non => rw [HasD.non_iff.mp h]; cases e with
    | non => rw [HasD.non_iff.mp k]; rfl
    | bl b => rw [HasD.bl_iff.mp k]; rfl
    | int b => rw [HasD.int_iff.mp k]; rfl
    | str b => rw [HasD.str_iff.mp k]; rfl
    | _ => cases f'
  | bl a => rw [HasD.bl_iff.mp h]; cases e with
    | non => rw [HasD.non_iff.mp k]; rfl
    | bl b => rw [HasD.bl_iff.mp k]; rfl
    | int b => rw [HasD.int_iff.mp k]; rfl
    | str b => rw [HasD.str_iff.mp k]; rfl
    | _ => cases f'
  | int a => rw [HasD.int_iff.mp h]; cases e with
    | non => rw [HasD.non_iff.mp k]; rfl
    | bl b => rw [HasD.bl_iff.mp k]; rfl
    | int b => rw [HasD.int_iff.mp k]; rfl
    | str b => rw [HasD.str_iff.mp k]; rfl
    | _ => cases f'
  | str a => rw [HasD.str_iff.mp h]; cases e with
    | non => rw [HasD.non_iff.mp k]; rfl
    | bl b => rw [HasD.bl_iff.mp k]; rfl
    | int b => rw [HasD.int_iff.mp k]; rfl
    | str b => rw [HasD.str_iff.mp k]; exact str_beq a b
    | _ => cases f'
  | _ => cases f
theorem flats_ok : ∀ {l : List D} {vs : List V}, HasDs K θ H l vs → l.all D.flat = true → vs.all flatV = true
  | [], vs, h, _ => by rw [h.of_nil]; rfl
  | d :: r, vs, h, f => by
    obtain ⟨v, ws, rfl, h1, h2⟩ := h.of_cons'
    rw [List.all_cons, Bool.and_eq_true] at f
    rw [List.all_cons, flat_ok h1 f.1, flats_ok h2 f.2]; rfl
theorem inV_ok {k : D} {x : V} (hk : HasD K θ H k x) (fk : k.flat = true) : ∀ {l : List D} {vs : List V}, HasDs K θ H l vs → l.all D.flat = true → inV x vs = l.any fun z => eqF z k
  | [], vs, h, _ => by rw [h.of_nil]; rfl
  | d :: r, vs, h, f => by
    obtain ⟨v, ws, rfl, h1, h2⟩ := h.of_cons'
    rw [List.all_cons, Bool.and_eq_true] at f
    show (eqV v x || inV x ws) = _
    rw [List.any_cons, eqF_ok h1 hk f.1 fk, inV_ok hk fk h2 f.2]
end
end
end PyI

set_option maxRecDepth 100000
set_option maxHeartbeats 1000000
/-! PyI: dicts by values; in; comparisons; subscripts; slices. -/
namespace PyI
open PySem PySem.Spec PyProof.Rows L2
section
variable {κ : Type} [DecidableEq κ] {f : κ → D} {R : D → V → Prop}
theorem look_ok (inj : ∀ a b, f a = f b → a = b) (k : κ) : ∀ {l : List (D × D)} {kvs : List (κ × V)}, Paired (fun p q => p.1 = f q.1 ∧ R p.2 q.2) l kvs →
    (look l (f k) = none ∧ valV kvs k = none) ∨ ∃ d v, look l (f k) = some d ∧ valV kvs k = some v ∧ R d v
  | _, _, .nil => .inl ⟨rfl, rfl⟩
  | p :: r, q :: s, .cons h t => by
    by_cases e : q.1 = k
    · refine .inr ⟨p.2, q.2, ?_, valV_pos e, h.2⟩
      have e2 : p.1 = f k := by rw [h.1, e]
      simp [look, List.find?_cons, e2]
    · have e2 : ¬ p.1 = f k := fun z => e (inj _ _ (h.1.symm.trans z))
      have e3 : look (p :: r) (f k) = look r (f k) := by simp [look, List.find?_cons, e2]
      rw [e3, valV_neg e]
      exact look_ok inj k t
theorem any_ok (inj : ∀ a b, f a = f b → a = b) (k : κ) : ∀ {l : List (D × D)} {kvs : List (κ × V)}, Paired (fun p q => p.1 = f q.1 ∧ R p.2 q.2) l kvs →
    (l.any fun p => decide (p.1 = f k)) = (kvs.any fun q => decide (q.1 = k))
  | _, _, .nil => rfl
  | p :: r, q :: s, .cons h t => by
    rw [List.any_cons, List.any_cons, any_ok inj k t]
    congr 1
    by_cases e : q.1 = k
    · rw [decide_eq_true e, decide_eq_true (by rw [h.1, e])]
    · rw [decide_eq_false e, decide_eq_false fun z => e (inj _ _ (h.1.symm.trans z))]
theorem map_ok (inj : ∀ a b, f a = f b → a = b) (k : κ) {d : D} {v : V} (hv : R d v) : ∀ {l : List (D × D)} {kvs : List (κ × V)}, Paired (fun p q => p.1 = f q.1 ∧ R p.2 q.2) l kvs →
    Paired (fun p q => p.1 = f q.1 ∧ R p.2 q.2) (l.map fun p => if p.1 = f k then (p.1, d) else p) (kvs.map fun q => if q.1 = k then (q.1, v) else q)
  | _, _, .nil => .nil
  | p :: r, q :: s, .cons h t => by
    refine .cons ?_ (map_ok inj k hv t)
    dsimp only
    by_cases e : q.1 = k
    · rw [if_pos e, if_pos (by rw [h.1, e])]
      exact ⟨h.1, hv⟩
    · rw [if_neg e, if_neg fun z => e (inj _ _ (h.1.symm.trans z))]
      exact h
theorem Paired.snoc {α β : Type} {F : α → β → Prop} {a : α} {b : β} (h : F a b) : ∀ {xs : List α} {ys : List β}, Paired F xs ys → Paired F (xs ++ [a]) (ys ++ [b])
  | _, _, .nil => .cons h .nil
  | _, _, .cons r t => .cons r (Paired.snoc h t)
theorem put_ok (inj : ∀ a b, f a = f b → a = b) (k : κ) {d : D} {v : V} (hv : R d v) {l : List (D × D)} {kvs : List (κ × V)} (h : Paired (fun p q => p.1 = f q.1 ∧ R p.2 q.2) l kvs) :
    Paired (fun p q => p.1 = f q.1 ∧ R p.2 q.2) (put l (f k) d) (putK kvs k v) := by
  unfold put putK
  rw [any_ok inj k h]
  split
  · exact map_ok inj k hv h
  · exact Paired.snoc ⟨rfl, hv⟩ h
end
theorem str_inj {a b : Str} (h : a.cps.toList = b.cps.toList) : a = b := by
  cases a; cases b
  simpa using h
theorem keyD_inj : ∀ a b : Key, keyD a = keyD b → a = b
  | .inl i, .inl j, h => by cases h; rfl
  | .inr x, .inr y, h => by
    have : x.cps.toList = y.cps.toList := by injection h
    rw [str_inj this]
  | .inl _, .inr _, h => by cases h
  | .inr _, .inl _, h => by cases h
theorem keysD_inj : ∀ a b : List Key, a.map keyD = b.map keyD → a = b
  | [], [], _ => rfl
  | x :: r, y :: s, h => by
    rw [List.map_cons, List.map_cons] at h
    injection h with h1 h2
    rw [keyD_inj x y h1, keysD_inj r s h2]
  | [], _ :: _, h => by cases h
  | _ :: _, [], h => by cases h
def keyT (ks : List Key) : D := .tup (ks.map keyD)
theorem keyT_inj (a b : List Key) (h : keyT a = keyT b) : a = b := keysD_inj a b (by injection h)
section
variable {K : PySem.W.Frag} {θ : List Addr} {H H₀ : Hp} {S : Sto}
theorem keyK_ok {k : D} {v : V} (h : HasD K θ H k v) (e : k.keyK = true) : ∃ q : Key, k = keyD q ∧ v = kV q := by
  cases k with
  | int i => exact ⟨.inl i, rfl, HasD.int_iff.mp h⟩
  | str l => exact ⟨.inr ⟨l.toArray⟩, by simp [keyD], HasD.str_iff.mp h⟩
  | _ => cases e
theorem keysK_ok : ∀ {l : List D} {vs : List V}, HasDs K θ H l vs → l.all D.keyK = true → ∃ ks : List Key, l = ks.map keyD ∧ vs = ks.map kV
  | [], vs, h, _ => ⟨[], rfl, h.of_nil⟩
  | d :: r, vs, h, f => by
    obtain ⟨v, ws, rfl, h1, h2⟩ := h.of_cons'
    rw [List.all_cons, Bool.and_eq_true] at f
    obtain ⟨q, rfl, rfl⟩ := keyK_ok h1 f.1
    obtain ⟨ks, rfl, rfl⟩ := keysK_ok h2 f.2
    exact ⟨q :: ks, rfl, rfl⟩
theorem keyT_ok {k : D} {v : V} (h : HasD K θ H k v) (e : k.keyT = true) : ∃ (q : List Key) (b : Addr), k = keyT q ∧ v = .ref b ∧ H b = some (.tup (q.map kV)) := by
  cases k with
  | tup l =>
    obtain ⟨a, vs, rfl, t, r⟩ := HasD.tup_iff.mp h
    obtain ⟨ks, rfl, rfl⟩ := keysK_ok r e
    exact ⟨ks, a, rfl, rfl, t⟩
  | _ => cases e
end
section
variable {g : Gd} {θ : List Addr} {H H₀ : Hp} {S : Sto}
/-- what a dict that is asked tells -/
theorem askOf_ok (rs : RelS g θ H S) {w : W} {x y : V} {k : D} {l : List (D × D)} (hx : HasW g H₀ θ H w x) (hy : HasD g.K θ H k y) (e : askOf w S k = some l) :
    ∃ a r, x = .ref a ∧ DGet H a y r ∧ IsD H a ∧ ((look l k = none ∧ r = none) ∨ ∃ d v, look l k = some d ∧ r = some v ∧ HasD g.K θ H d v) := by
  have kK : ∀ {l : List (D × D)} {kvs : List (Key × V)} {a : Addr}, H a = some (.dK kvs) → RelK g.K θ H l kvs → k.keyK = true → ∃ r, DGet H a y r ∧ IsD H a ∧ ((look l k = none ∧ r = none) ∨ ∃ d v, look l k = some d ∧ r = some v ∧ HasD g.K θ H d v) := by
    intro l kvs a ha rk hk
    obtain ⟨q, rfl, rfl⟩ := keyK_ok hy hk
    exact ⟨valV kvs q, DGet.k ha, .inl ⟨kvs, .inl ha⟩, look_ok keyD_inj q rk⟩
  have kT : ∀ {l : List (D × D)} {kvs : List (List Key × V)} {a : Addr}, H a = some (.dT kvs) → RelT g.K θ H l kvs → k.keyT = true → ∃ r, DGet H a y r ∧ IsD H a ∧ ((look l k = none ∧ r = none) ∨ ∃ d v, look l k = some d ∧ r = some v ∧ HasD g.K θ H d v) := by
    intro l kvs a ha rk hk
    obtain ⟨q, b, rfl, rfl, hb⟩ := keyT_ok hy hk
    exact ⟨valV kvs q, DGet.t ha hb, .inr ⟨kvs, .inl ha⟩, look_ok (f := keyT) keyT_inj q rk⟩
  cases w with
  | d z =>
    cases z with
    | ref n =>
      obtain ⟨a, ea, rfl⟩ := HasD.ref_iff.mp (HasW.dd hx)
      simp only [askOf] at e
      cases q : S[n]? with
      | none => rw [q] at e; cases e
      | some o =>
        rw [q] at e
        obtain ⟨b, ho, e1, e2, e3⟩ := rs.at_ n o q
        rw [ea] at e1; cases e1
        cases o with
        | dK m =>
          obtain ⟨kvs, rfl, rk⟩ := e3
          simp only at e
          split at e
          · rename_i hk
            cases e
            obtain ⟨r, h1, h2, h3⟩ := kK e2 rk hk
            exact ⟨a, r, rfl, h1, h2, h3⟩
          · cases e
        | dT m =>
          obtain ⟨kvs, rfl, rk⟩ := e3
          simp only at e
          split at e
          · rename_i hk
            cases e
            obtain ⟨r, h1, h2, h3⟩ := kT e2 rk hk
            exact ⟨a, r, rfl, h1, h2, h3⟩
          · cases e
        | _ => cases e
    | _ => cases e
  | o ob =>
    cases ob with
    | dK m =>
      obtain ⟨a, ho, rfl, h1, _, ⟨kvs, rfl, rk⟩, _⟩ := hx
      simp only [askOf] at e
      split at e
      · rename_i hk
        cases e
        obtain ⟨r, q1, q2, q3⟩ := kK h1 rk hk
        exact ⟨a, r, rfl, q1, q2, q3⟩
      · cases e
    | dT m =>
      obtain ⟨a, ho, rfl, h1, _, ⟨kvs, rfl, rk⟩, _⟩ := hx
      simp only [askOf] at e
      split at e
      · rename_i hk
        cases e
        obtain ⟨r, q1, q2, q3⟩ := kT h1 rk hk
        exact ⟨a, r, rfl, q1, q2, q3⟩
      · cases e
    | _ => cases e
end
section
variable {X : Cx} {g : Gd}
theorem sign_len (l : List Nat) : (⟨l.toArray⟩ : Str).length = l.length := str_len l
/-- x in y -/
theorem op_inW (hK : X.K = g.K) (hu : X.A.units + 70 < cLine) (neg : Bool) : OpR X (compareOp (if neg then .NotIn else .In)) (rW g (cW fun x y S => (inS x y S).map fun b => if neg then !b else b)) := by
  intro pins s σ H x y v u Q I rx ry h
  obtain ⟨θ, S, wx, wy, w, H₀, rs, hx, hy, e, q⟩ := h
  simp only [cW, Option.map_map] at e
  cases ei : inS wx wy S with
  | none => rw [ei] at e; cases e
  | some b =>
    rw [ei] at e
    have e : w = .d (.bl (if neg then !b else b)) := by cases e; rfl
    subst e
    have qq : Q (.bl (if neg then !b else b)) H := q _ _ Step.refl rs has_bl
    -- a list or tuple of flat things
    have flat : ∀ {l : List D} {ys : List V} {a : Addr} {k : D}, y = .ref a → (SqL X.K H a ys ∨ SqT X.K H a ys) → HasDs g.K θ H l ys → HasD g.K θ H k x → k.flat = true ∧ l.all D.flat = true → b = (l.any fun z => eqF z k) →
        wpAny (model X.prog X.w) X.A (compareOp (if neg then .NotIn else .In) v u) (EP X pins σ Q) X.xe s := by
      intro l ys a k ey hs hl hk hf eb
      have e1 : inV x ys = b := by rw [eb]; exact inV_ok hk hf.1 hl hf.2
      cases neg with
      | true => exact op_notIn_seq pins s σ H x y v u Q I rx ry ⟨a, ys, ey, hs, flat_ok hk hf.1, flats_ok hl hf.2, by rw [e1]; exact qq⟩
      | false => exact op_in_seq pins s σ H x y v u Q I rx ry ⟨a, ys, ey, hs, flat_ok hk hf.1, flats_ok hl hf.2, by rw [e1]; exact qq⟩
    have fl : ∀ {l : List D} {ys : List V} {a : Addr}, y = .ref a → (SqL X.K H a ys ∨ SqT X.K H a ys) → HasDs g.K θ H l ys → inFl wx l = some b →
        wpAny (model X.prog X.w) X.A (compareOp (if neg then .NotIn else .In) v u) (EP X pins σ Q) X.xe s := by
      intro l ys a ey hs hl ef
      cases wx with
      | o ob => cases ef
      | d k =>
        simp only [inFl] at ef
        split at ef
        · rename_i hf
          cases ef
          exact flat ey hs hl (HasW.dd hx) hf rfl
        · cases ef
    have other : inOb wx wy S = some b → wpAny (model X.prog X.w) X.A (compareOp (if neg then .NotIn else .In) v u) (EP X pins σ Q) X.xe s := by
      intro em
      cases wx with
      | o ob => simp only [inOb] at em; cases em
      | d k =>
      simp only [inOb] at em
      cases ea : askOf wy S k with
      | some l =>
        rw [ea] at em
        cases em
        obtain ⟨a, r, rfl, dg, _, hr⟩ := askOf_ok rs hy (HasW.dd hx) ea
        have e2 : r.isSome = (look l k).isSome := by
          rcases hr with ⟨h1, h2⟩ | ⟨d, z, h1, h2, _⟩
          · rw [h1, h2]; rfl
          · rw [h1, h2]; rfl
        obtain rfl : u = Value.ref a := ry
        cases neg with
        | true => exact d_notIn (by omega) I dg rx fun s3 I3 => ⟨.bl (!r.isSome), H, I3, rfl, by rw [e2]; exact qq⟩
        | false => exact d_in (by omega) I dg rx fun s3 I3 => ⟨.bl r.isSome, H, I3, rfl, by rw [e2]; exact qq⟩
      | none =>
        rw [ea] at em
        cases el : lstOf wy S with
        | none => simp only [el] at em; cases em
        | some l =>
          simp only [el, inLs] at em
          obtain ⟨a, ys, rfl, hs, hl⟩ := lstOf_ok rs hy el
          rw [← hK] at hs
          split at em
          · rename_i hf
            cases em
            exact flat rfl (.inl hs) hl (HasW.dd hx) hf rfl
          · split at em
            · rename_i p ep
              split at em
              · rename_i ps eps
                split at em
                · rename_i sh
                  cases em
                  have d1 := py_ok (held_ok rs 6) k x p (HasW.dd hx) ep
                  have d2 := pys_ok (held_ok rs 6) l ys ps hl eps
                  rw [← hK] at d1 d2
                  cases neg with
                  | true => exact op_notInD (by omega) pins s σ H x _ v u Q I rx ry ⟨p, ps, d1, .lst hs d2, sh.1, sh.2, qq⟩
                  | false => exact op_inD (by omega) pins s σ H x _ v u Q I rx ry ⟨p, ps, d1, .lst hs d2, sh.1, sh.2, qq⟩
                · cases em
              · cases em
            · cases em
    cases wy with
    | o ob => exact other ei
    | d y' =>
      cases y' with
      | str m =>
        cases wx with
        | o ob => cases ei
        | d k =>
          cases k with
          | str l =>
            simp only [inS] at ei
            cases ei
            rw [str_of hx] at rx; rw [str_of hy] at ry
            cases neg with
            | true => exact op_notin_str pins s σ H _ _ v u Q I rx ry ⟨_, _, rfl, rfl, by rw [str_len]; exact qq⟩
            | false => exact op_in_str pins s σ H _ _ v u Q I rx ry ⟨_, _, rfl, rfl, by rw [str_len]; exact qq⟩
          | _ => cases ei
      | tup l =>
        obtain ⟨a, ys, rfl, t, hl⟩ := HasD.tup_iff.mp (HasW.dd hy)
        exact fl rfl (.inr (.of t)) hl ei
      | rol tt l =>
        cases tt with
        | true =>
          obtain ⟨a, ys, rfl, t, hl⟩ := HasD.ktp_iff.mp (HasW.dd hy)
          rw [← hK] at t
          exact fl rfl (.inr t.sq) hl ei
        | false => exact other ei
      | ref n => exact other ei
      | _ => cases ei
end
end PyI

set_option maxRecDepth 100000
set_option maxHeartbeats 1000000
/-! PyI: comparisons, subscripts, slices. -/
namespace PyI
open PySem PySem.Spec PyProof.Rows L2
def Cop.py : Cop → CmpOp
  | .lt => .Lt
  | .le => .LtE
  | .gt => .Gt
  | .ge => .GtE
  | .eq => .Eq
  | .ne => .NotEq
  | .isin => .In
  | .notin => .NotIn
  | .isN => .Is
  | .notN => .IsNot
section
variable {X : Cx} {g : Gd}
theorem op_ordW {op : CmpOp} {f : Int → Int → Bool} {h : List Nat → List Nat → Bool} (r1 : OpR X (compareOp op) (rI0 fun i j => .bl (f i j)))
    (r2 : OpR X (compareOp op) (fun x y H Q => ∃ i j, x = .str i ∧ y = .str j ∧ Q (.bl (h i.cps.toList j.cps.toList)) H)) : OpR X (compareOp op) (rW g (cW fun x y _ => ordW x y f h)) := by
  intro pins s σ H x y v u Q I rx ry hh
  obtain ⟨θ, S, wx, wy, w, H₀, rs, hx, hy, e, q⟩ := hh
  simp only [cW, ordW] at e
  split at e
  · rename_i i
    split at e
    · rename_i j
      cases e
      rw [int_of hx] at rx; rw [int_of hy] at ry
      exact r1 pins s σ H _ _ v u Q I rx ry ⟨i, j, rfl, rfl, q _ _ Step.refl rs has_bl⟩
    · cases e
  · rename_i i
    split at e
    · rename_i j
      cases e
      rw [str_of hx] at rx; rw [str_of hy] at ry
      refine r2 pins s σ H _ _ v u Q I rx ry ⟨_, _, rfl, rfl, ?_⟩
      simpa using q _ _ Step.refl rs has_bl
    · cases e
  · cases e
theorem non_of {θ : List Addr} {H H₀ : Hp} {x : V} (h : HasW g H₀ θ H (.d .non) x) : x = .non := HasD.non_iff.mp (HasW.dd h)
theorem isNon_ok {θ : List Addr} {H H₀ : Hp} {w : W} {x : V} (h : HasW g H₀ θ H w x) : decide (x = .non) = isNonW w := by
  cases w with
  | o ob => obtain ⟨a, ho, rfl, _⟩ := h; rfl
  | d y =>
    cases y with
    | non => rw [non_of h]; rfl
    | bl b => rw [bl_of h]; rfl
    | int b => rw [int_of h]; rfl
    | str b => rw [str_of h]; rfl
    | tup l => obtain ⟨a, ys, rfl, _⟩ := HasD.tup_iff.mp (HasW.dd h); rfl
    | rol t l =>
      cases t with
      | true => obtain ⟨a, ys, rfl, _⟩ := HasD.ktp_iff.mp (HasW.dd h); rfl
      | false => obtain ⟨a, ys, rfl, _⟩ := HasD.rol_iff.mp (HasW.dd h); rfl
    | ref n => obtain ⟨a, _, rfl⟩ := HasD.ref_iff.mp (HasW.dd h); rfl
theorem op_isB : OpR X (compareOp .Is) (fun x y H Q => ∃ b c, x = .bl b ∧ y = .bl c ∧ Q (.bl (b == c)) H) := by
  intro pins s σ H x y v u Q I rx ry h
  obtain ⟨b, c, rfl, rfl, q⟩ := h
  cases rx
  cases ry
  exact is_bool (fin_bl I q rfl)
theorem op_notB : OpR X (compareOp .IsNot) (fun x y H Q => ∃ b c, x = .bl b ∧ y = .bl c ∧ Q (.bl (!(b == c))) H) := by
  intro pins s σ H x y v u Q I rx ry h
  obtain ⟨b, c, rfl, rfl, q⟩ := h
  cases rx
  cases ry
  show wpAny _ _ ((isSame (Value.bool b) (Value.bool c)) >>= fun z => pure (Value.bool (!z))) _ _ s
  refine wpAny_bind (wpAny_isSame_plain rfl (wpAny_pure (fin_bl I q ?_)))
  cases b <;> cases c <;> rfl
theorem isBl_ok {θ : List Addr} {H H₀ : Hp} {w : W} {x : V} {c t : Bool} (h : HasW g H₀ θ H w x) (e : isBlW w c = some t) : ∃ b, x = .bl b ∧ t = (b == c) := by
  unfold isBlW at e
  split at e
  · cases e
    exact ⟨_, bl_of h, rfl⟩
  · cases e
theorem op_isNW : OpR X (compareOp .Is) (rW g (cW fun x y S => cmpW .isN x y S)) := by
  intro pins s σ H x y v u Q I rx ry hh
  obtain ⟨θ, S, wx, wy, w, H₀, rs, hx, hy, e, q⟩ := hh
  simp only [cW, cmpW] at e
  split at e
  · cases e
    exact op_isN pins s σ H x y v u Q I rx ry ⟨non_of hy, by rw [isNon_ok hx]; exact q _ _ Step.refl rs has_bl⟩
  · obtain ⟨t, e1, e2⟩ := Option.map_eq_some_iff.mp e
    obtain ⟨b, rfl, rfl⟩ := isBl_ok hx e1
    cases e2
    exact op_isB pins s σ H _ _ v u Q I rx ry ⟨b, _, rfl, bl_of hy, q _ _ Step.refl rs has_bl⟩
  · cases e
theorem op_notNW : OpR X (compareOp .IsNot) (rW g (cW fun x y S => cmpW .notN x y S)) := by
  intro pins s σ H x y v u Q I rx ry hh
  obtain ⟨θ, S, wx, wy, w, H₀, rs, hx, hy, e, q⟩ := hh
  simp only [cW, cmpW] at e
  split at e
  · cases e
    exact op_notN pins s σ H x y v u Q I rx ry ⟨non_of hy, by rw [isNon_ok hx]; exact q _ _ Step.refl rs has_bl⟩
  · obtain ⟨t, e1, e2⟩ := Option.map_eq_some_iff.mp e
    obtain ⟨t', e3, rfl⟩ := Option.map_eq_some_iff.mp e1
    obtain ⟨b, rfl, rfl⟩ := isBl_ok hx e3
    cases e2
    exact op_notB pins s σ H _ _ v u Q I rx ry ⟨b, _, rfl, bl_of hy, q _ _ Step.refl rs has_bl⟩
  · cases e
theorem op_cmpW (hK : X.K = g.K) (hu : X.A.units + 70 < cLine) (o : Cop) : OpR X (compareOp o.py) (rW g (cW (cmpW o))) := by
  cases o with
  | lt => exact op_ordW op_lt op_lt_str
  | le => exact op_ordW op_le op_le_str
  | gt => exact op_ordW op_gt op_gt_str
  | ge => exact op_ordW op_ge op_ge_str
  | eq => exact op_eqW hK hu
  | ne => exact op_neW hK hu
  | isin =>
    have h := op_inW (g := g) hK hu false
    have e : (fun x y S => (inS x y S).map fun b => if false = true then !b else b) = cmpW .isin := by
      funext x y S
      show (inS x y S).map (fun b => b) = inS x y S
      cases inS x y S <;> rfl
    rw [e] at h
    exact h
  | notin => exact op_inW hK hu true
  | isN => exact op_isNW
  | notN => exact op_notNW
/-! ### subscripts -/
def rX (g : Gd) : R2 := fun x y H Q => ∃ θ S wx k d H₀, RelS g θ H S ∧ HasW g H₀ θ H wx x ∧ HasD g.K θ H k y ∧ idxW wx k S = some d ∧ ∀ v, HasD g.K θ H d v → Q v H
theorem atD_ok {K : PySem.W.Frag} {θ : List Addr} {H : Hp} {l : List D} {vs : List V} {i : Int} {d : D} (h : HasDs K θ H l vs) (e : atD l i = some d) : ∃ v, atI vs i = some v ∧ HasD K θ H d v := by
  unfold atD at e
  have e2 : ixI l.length i = ixN vs.length i := by rw [h.length]; rfl
  cases q : ixI l.length i with
  | none => rw [q] at e; cases e
  | some j =>
    rw [q] at e
    obtain ⟨v, h1, h2⟩ := h.get (i := j) e
    exact ⟨v, by unfold atI; rw [← e2, q]; exact h1, h2⟩
theorem ix_W (hK : X.K = g.K) (hu : X.A.units + 70 < cLine) : IxR X (rX g) := by
  intro value slice pins s σ H x y v u Q I rx ry h hs
  obtain ⟨θ, S, wx, k, d, H₀, rs, hx, hy, e, q⟩ := h
  have idx_t : ∀ {l : List D} {ys : List V} {a : Addr}, x = .ref a → SqT X.K H a ys → HasDs g.K θ H l ys → idxT l k = some d → wpAny (model X.prog X.w) X.A (subscriptTail value slice v u) (EP X pins σ Q) X.xe s := by
    intro l ys a ex t hl e
    cases k with
    | int i =>
      rw [HasD.int_iff.mp hy] at ry
      obtain ⟨z, h1, h2⟩ := atD_ok hl e
      exact ix_tup value slice pins s σ H _ _ v u Q I rx ry ⟨a, ys, i, z, ex, rfl, t, h1, q z h2⟩ hs
    | _ => cases e
  have idx_l : ∀ {l : List D} {ys : List V} {a : Addr}, x = .ref a → SqL X.K H a ys → HasDs g.K θ H l ys → idxT l k = some d → wpAny (model X.prog X.w) X.A (subscriptTail value slice v u) (EP X pins σ Q) X.xe s := by
    intro l ys a ex t hl e
    cases k with
    | int i =>
      rw [HasD.int_iff.mp hy] at ry
      obtain ⟨z, h1, h2⟩ := atD_ok hl e
      exact ix_list value slice pins s σ H _ _ v u Q I rx ry ⟨a, ys, i, z, ex, rfl, t, h1, q z h2⟩ hs
    | _ => cases e
  have other : idxO wx k S = some d → wpAny (model X.prog X.w) X.A (subscriptTail value slice v u) (EP X pins σ Q) X.xe s := by
    intro em
    simp only [idxO] at em
    cases ea : askOf wx S k with
    | some l =>
      rw [ea] at em
      obtain ⟨a, r, rfl, dg, _, hr⟩ := askOf_ok rs hx hy ea
      obtain rfl : v = Value.ref a := rx
      have em : look l k = some d := em
      rcases hr with ⟨h1, h2⟩ | ⟨d', z, h1, h2, h3⟩
      · rw [h1] at em; cases em
      · rw [h1] at em
        cases em
        subst h2
        exact tail_any (dict_typeIs I dg) PySem.F.slot_dict_getitem.lookup (d_getItem (by omega) I dg ry fun w' s3 I3 rw' => ⟨z, H, I3, rw', q z h3⟩) hs
    | none =>
      rw [ea] at em
      cases el : lstOf wx S with
      | none => simp only [el] at em; cases em
      | some l =>
        simp only [el] at em
        obtain ⟨a, ys, ex, hq, hl⟩ := lstOf_ok rs hx el
        exact idx_l ex (hK ▸ hq) hl em
  cases wx with
  | o ob => exact other e
  | d z =>
    cases z with
    | tup l =>
      obtain ⟨a, ys, ex, t, hl⟩ := HasD.tup_iff.mp (HasW.dd hx)
      exact idx_t ex (.of t) hl e
    | rol b l =>
      cases b with
      | true =>
        obtain ⟨a, ys, ex, t, hl⟩ := HasD.ktp_iff.mp (HasW.dd hx)
        exact idx_t ex (hK ▸ t.sq) hl e
      | false =>
        obtain ⟨a, ys, ex, t, hl⟩ := HasD.rol_iff.mp (HasW.dd hx)
        exact idx_l ex (hK ▸ t.sq) hl e
    | str l =>
      cases k with
      | int i =>
        simp only [idxW] at e
        split at e
        · rename_i hl
          rw [str_of hx] at rx
          rw [HasD.int_iff.mp hy] at ry
          cases q1 : atD l i with
          | none => rw [q1] at e; cases e
          | some c =>
            rw [q1] at e
            cases e
            refine ix_str value slice pins s σ H _ _ v u Q I rx ry ⟨_, i, c, rfl, rfl, line_le (by rw [str_len]; exact hl), ?_, q _ (HasD.str_iff.mpr rfl)⟩ hs
            show atI l.toArray.toList i = some c
            have e1 : l.toArray.toList = l := rfl
            rw [e1]
            exact q1
        · cases e
      | _ => cases e
    | ref n => exact other e
    | _ => cases e
/-! ### slices -/
def rS (g : Gd) : V → Option Int → Option Int → Hp → VK → Prop := fun x lo hi H Q => ∃ θ S wx w H₀, RelS g θ H S ∧ HasW g H₀ θ H wx x ∧ slcW wx lo hi S = some w ∧ ∀ v H', Step g.K θ H θ H' → RelS g θ H' S → HasW g H θ H' w v → Q v H'
theorem sI_eq (n d : Nat) (o : Option Int) : HT.sIx n d o = sI n d o := by cases o <;> rfl
theorem cutV_eq (xs : List V) (lo hi : Option Int) : cutV xs lo hi = cut xs lo hi := by simp only [cutV, cut, sI_eq]
theorem HasDs.cut {K : PySem.W.Frag} {θ : List Addr} {H : Hp} {l : List D} {vs : List V} (h : HasDs K θ H l vs) (lo hi : Option Int) : HasDs K θ H (cut l lo hi) (cut vs lo hi) := by
  unfold PyI.cut
  rw [h.length]
  exact (h.drop _).take _
theorem sl_W (hK : X.K = g.K) : SlR X (rS g) := by
  intro pins s σ H x v vl vu lo hi sl Q I rx hsl hl hh h
  obtain ⟨θ, S, wx, w, H₀, rs, hx, e, q⟩ := h
  have lst : slcO wx lo hi S = some w → rSlL X.K x lo hi H Q := by
    intro em
    simp only [slcO] at em
    cases el : lstOf wx S with
    | none => simp only [el] at em; cases em
    | some l =>
      simp only [el] at em
      cases em
      obtain ⟨a, ys, rfl, hq, hl⟩ := lstOf_ok rs hx el
      refine ⟨a, ys, rfl, hK ▸ hq, fun p hp => ?_⟩
      rw [cutV_eq]
      exact q _ _ (Step.new hp) (rs.new hp) (hasNewL rs hp (hl.cut lo hi))
  cases wx with
  | o ob => exact sl_list pins s σ H x v vl vu lo hi sl Q I rx hsl hl hh (lst e)
  | d z =>
    cases z with
    | tup l =>
      simp only [slcW] at e
      cases e
      obtain ⟨a, ys, rfl, t, h1⟩ := HasD.tup_iff.mp (HasW.dd hx)
      refine sl_tupA pins s σ H _ v vl vu lo hi sl Q I rx hsl hl hh ⟨a, ys, rfl, .of t, fun hw => ?_, fun hw p hp => ?_⟩
      · refine q _ _ Step.refl rs (wd <| HasD.tup_iff.mpr ⟨a, ys, rfl, t, ?_⟩)
        have e1 : cut l lo hi = l := by
          unfold cut
          rw [← sI_eq, ← sI_eq, h1.length, hw.1, hw.2]
          simp [← h1.length]
        rw [e1]; exact h1
      · rw [cutV_eq]
        exact q _ _ (Step.new hp) (rs.new hp) (hasNewT hp (h1.cut lo hi))
    | rol b l =>
      cases b with
      | true =>
        simp only [slcW] at e
        obtain ⟨a, ys, rfl, t, h1⟩ := HasD.ktp_iff.mp (HasW.dd hx)
        refine sl_tupA pins s σ H _ v vl vu lo hi sl Q I rx hsl hl hh ⟨a, ys, rfl, hK ▸ t.sq, fun hw => ?_, fun hw p hp => ?_⟩
        · rw [if_pos (by rw [h1.length, ← sI_eq, ← sI_eq]; exact hw)] at e
          cases e
          exact q _ _ Step.refl rs (wd <| HasD.ktp_iff.mpr ⟨a, ys, rfl, t, h1⟩)
        · rw [if_neg (by rw [h1.length, ← sI_eq, ← sI_eq]; exact hw)] at e
          cases e
          rw [cutV_eq]
          exact q _ _ (Step.new hp) (rs.new hp) (hasNewT hp (h1.cut lo hi))
      | false => exact sl_list pins s σ H x v vl vu lo hi sl Q I rx hsl hl hh (lst e)
    | str l =>
      simp only [slcW] at e
      split at e
      · rename_i hln
        cases e
        rw [str_of hx] at rx
        refine sl_str pins s σ H _ v vl vu lo hi sl Q I rx hsl hl hh ⟨_, rfl, line_le (by rw [str_len]; exact hln), ?_⟩
        have e1 : cutS ⟨l.toArray⟩ lo hi = ⟨(cut l lo hi).toArray⟩ := by
          simp only [cutS, cut, sI_eq, str_len]
        rw [e1]
        exact q _ _ Step.refl rs has_str
      · cases e
    | ref n => exact sl_list pins s σ H x v vl vu lo hi sl Q I rx hsl hl hh (lst e)
    | _ => cases e
end
end PyI

set_option maxRecDepth 100000
set_option maxHeartbeats 1000000
/-! PyI: built-in functions by values. -/
namespace PyI
open PySem PySem.Spec PyProof.Rows L2
abbrev HasWs (g : Gd) (H₀ : Hp) (θ : List Addr) (H : Hp) : List W → List V → Prop := Paired fun w v => HasW g H₀ θ H w v
def rB (g : Gd) (f : List W → Sto → Option W) : List V → Hp → VK → Prop := fun xs H Q => ∃ θ S ws w H₀, RelS g θ H S ∧ HasWs g H₀ θ H ws xs ∧ f ws S = some w ∧
  ∀ v H', Step g.K θ H θ H' → RelS g θ H' S → HasW g H θ H' w v → Q v H'
section
variable {g : Gd} {θ : List Addr} {H H₀ : Hp} {S : Sto}
theorem ws1 {w : W} {xs : List V} (h : HasWs g H₀ θ H [w] xs) : ∃ x, xs = [x] ∧ HasW g H₀ θ H w x := by
  cases h with
  | cons r t => cases t; exact ⟨_, rfl, r⟩
theorem ws2 {w y : W} {xs : List V} (h : HasWs g H₀ θ H [w, y] xs) : ∃ x z, xs = [x, z] ∧ HasW g H₀ θ H w x ∧ HasW g H₀ θ H y z := by
  cases h with
  | cons r t => obtain ⟨z, rfl, q⟩ := ws1 t; exact ⟨_, z, rfl, r, q⟩
theorem tupOf_ok {w : W} {x : V} (h : HasW g H₀ θ H w x) {l : List D} (e : tupOf w = some l) : ∃ a vs, x = .ref a ∧ SqT g.K H a vs ∧ HasDs g.K θ H l vs ∧ ∃ y, w = .d y := by
  cases w with
  | o ob => cases e
  | d y =>
    cases y with
    | tup m =>
      cases e
      obtain ⟨a, vs, e1, t, r⟩ := HasD.tup_iff.mp (HasW.dd h)
      exact ⟨a, vs, e1, .of t, r, _, rfl⟩
    | rol b m =>
      cases b with
      | true =>
        cases e
        obtain ⟨a, vs, e1, t, r⟩ := HasD.ktp_iff.mp (HasW.dd h)
        exact ⟨a, vs, e1, t.sq, r, _, rfl⟩
      | false => cases e
    | _ => cases e
theorem ints_of : ∀ {l : List D} {ns : List Int} {vs : List V}, HasDs g.K θ H l vs → l.mapM D.int? = some ns → vs = ns.map V.int
  | [], ns, vs, h, e => by
    rw [h.of_nil]
    simp at e; subst e; rfl
  | d :: r, ns, vs, h, e => by
    obtain ⟨v, ws, rfl, h1, h2⟩ := h.of_cons'
    rw [List.mapM_cons] at e
    cases d with
    | int i =>
      simp only [D.int?] at e
      cases q : r.mapM D.int? with
      | none => rw [q] at e; simp at e
      | some ms =>
        rw [q] at e
        simp at e
        subst e
        rw [HasD.int_iff.mp h1, ints_of h2 q]; rfl
    | _ => simp [D.int?] at e
theorem bls_of : ∀ {l : List D} {ns : List Bool} {vs : List V}, HasDs g.K θ H l vs → l.mapM D.bl? = some ns → vs = ns.map V.bl
  | [], ns, vs, h, e => by
    rw [h.of_nil]
    simp at e; subst e; rfl
  | d :: r, ns, vs, h, e => by
    obtain ⟨v, ws, rfl, h1, h2⟩ := h.of_cons'
    rw [List.mapM_cons] at e
    cases d with
    | bl i =>
      simp only [D.bl?] at e
      cases q : r.mapM D.bl? with
      | none => rw [q] at e; simp at e
      | some ms =>
        rw [q] at e
        simp at e
        subst e
        rw [HasD.bl_iff.mp h1, bls_of h2 q]; rfl
    | _ => simp [D.bl?] at e
theorem strs_of : ∀ {l : List D} {ns : List (List Nat)} {vs : List V}, HasDs g.K θ H l vs → l.mapM D.str? = some ns → vs = (ns.map fun z => (⟨z.toArray⟩ : Str)).map V.str
  | [], ns, vs, h, e => by
    rw [h.of_nil]
    simp at e; subst e; rfl
  | d :: r, ns, vs, h, e => by
    obtain ⟨v, ws, rfl, h1, h2⟩ := h.of_cons'
    rw [List.mapM_cons] at e
    cases d with
    | str i =>
      simp only [D.str?] at e
      cases q : r.mapM D.str? with
      | none => rw [q] at e; simp at e
      | some ms =>
        rw [q] at e
        simp at e
        subst e
        rw [HasD.str_iff.mp h1, strs_of h2 q]; rfl
    | _ => simp [D.str?] at e
theorem hasInts : ∀ (ns : List Int), HasDs g.K θ H (ns.map D.int) (ns.map V.int)
  | [] => HasDs.nil
  | n :: r => HasDs.cons (HasD.int_iff.mpr rfl) (hasInts r)
end
/-- which built-in it is, and its class or function -/
def Blt.py : Blt → Option (Str × Bool × String)
  | .len => some ("len", false, "len")
  | .tuple => some ("tuple", true, "tuple")
  | .list => some ("list", true, "list")
  | .max2 => some ("max", false, "max")
  | .min2 => some ("min", false, "min")
  | .abs => some ("abs", false, "abs")
  | .int1 => some ("int", true, "int")
  | .str1 => some ("str", true, "str")
  | .sum => some ("sum", false, "sum")
  | .all => some ("all", false, "all")
  | .any => some ("any", false, "any")
  | .maxL => some ("max", false, "max")
  | .minL => some ("min", false, "min")
  | .sorted => some ("sorted", false, "sorted")
  | _ => none
def Blt.val (b : Blt) : Option Value := b.py.map fun p => if p.2.1 then .type p.2.2 else .builtin p.2.2
section
variable {X : Cx} {g : Gd}
theorem len_ok {θ : List Addr} {H H₀ : Hp} {S : Sto} {w : W} {x : V} {n : Nat} (rs : RelS g θ H S) (h : HasW g H₀ θ H w x) (e : lenW w S = some n) (hK : X.K = g.K) :
    LenV X.K x H n ∨ (∃ p kvs, x = .ref p ∧ H p = some (.dT kvs) ∧ n = kvs.length) ∨ ∃ p kvs, x = .ref p ∧ H p = some (.dK kvs) ∧ n = kvs.length := by
  cases w with
  | d y =>
    cases y with
    | str l =>
      simp only [lenW] at e
      split at e
      · rename_i hl
        cases e
        rw [str_of h]
        exact .inl ⟨line_le (by rw [str_len]; exact hl), by rw [str_len]⟩
      · cases e
    | tup l =>
      cases e
      obtain ⟨a, vs, rfl, t, r⟩ := HasD.tup_iff.mp (HasW.dd h)
      exact .inl (.inr ⟨vs, .of t, r.length⟩)
    | rol b l =>
      cases e
      cases b with
      | true =>
        obtain ⟨a, vs, rfl, t, r⟩ := HasD.ktp_iff.mp (HasW.dd h)
        exact .inl (.inr ⟨vs, hK ▸ t.sq, r.length⟩)
      | false =>
        obtain ⟨a, vs, rfl, t, r⟩ := HasD.rol_iff.mp (HasW.dd h)
        exact .inl (.inl ⟨vs, hK ▸ t.sq, r.length⟩)
    | ref n =>
      obtain ⟨a, ea, rfl⟩ := HasD.ref_iff.mp (HasW.dd h)
      simp only [lenW] at e
      cases q : S[n]? with
      | none => rw [q] at e; cases e
      | some o =>
        rw [q] at e
        obtain ⟨b, ho, e1, e2, e3⟩ := rs.at_ n o q
        rw [ea] at e1; cases e1
        cases o with
        | lst m =>
          cases e
          obtain ⟨vs, rfl, r⟩ := e3
          exact .inl (.inl ⟨vs, .of e2, r.length⟩)
        | dK m =>
          cases e
          obtain ⟨kvs, rfl, r⟩ := e3
          exact .inr (.inr ⟨a, kvs, rfl, e2, Paired.length r⟩)
        | dT m =>
          cases e
          obtain ⟨kvs, rfl, r⟩ := e3
          exact .inr (.inl ⟨a, kvs, rfl, e2, Paired.length r⟩)
        | _ => cases e
    | _ => cases e
  | o ob =>
    cases ob with
    | lst l =>
      cases e
      obtain ⟨a, ho, rfl, h1, _, ⟨vs, rfl, r⟩, _⟩ := h
      exact .inl (.inl ⟨vs, .of h1, r.length⟩)
    | _ => cases e
theorem toStr_digits (i : Int) : (toString i : Str) = ⟨(digits i).toArray⟩ := by
  simp [digits]
theorem list1 (hK : X.K = g.K) {f : Value} {r : List V → Hp → VK → Prop} {h : List D → Option W} (rule : CallR X f r)
    (k : ∀ (θ : List Addr) (H H₀ : Hp) (S : Sto) (a : Addr) (vs : List V) (l : List D) (w : W) (Q : VK), RelS g θ H S → SqL X.K H a vs → HasDs g.K θ H l vs → h l = some w →
      (∀ v H', Step g.K θ H θ H' → RelS g θ H' S → HasW g H θ H' w v → Q v H') → r [.ref a] H Q) :
    CallR X f (rB g fun ws S => match ws with
      | [x] => (lstOf x S).bind h
      | _ => none) := by
  intro pins s σ H xs us Q I rv hh
  obtain ⟨θ, S, ws, w, H₀, rs, hw, e, q⟩ := hh
  cases ws with
  | nil => cases e
  | cons w1 t =>
    cases t with
    | cons _ _ => cases e
    | nil =>
      obtain ⟨x, rfl, h1⟩ := ws1 hw
      have e : (lstOf w1 S).bind h = some w := e
      cases el : lstOf w1 S with
      | none => rw [el] at e; cases e
      | some l =>
        rw [el] at e
        obtain ⟨a, vs, rfl, hs, hl⟩ := lstOf_ok rs h1 el
        exact rule pins s σ H _ us Q I rv (k θ H H₀ S a vs l w Q rs (hK ▸ hs) hl e q)
theorem call_blt (hK : X.K = g.K) (hc : X.calm = true) (b : Blt) (v : Value) (hv : b.val = some v) : CallR X v (rB g (bltW b)) := by
  cases b with
  | len =>
    cases hv
    intro pins s σ H xs us Q I rv hh
    obtain ⟨θ, S, ws, w, H₀, rs, hw, e, q⟩ := hh
    cases ws with
    | nil => cases e
    | cons w1 t =>
      cases t with
      | cons _ _ => cases e
      | nil =>
        obtain ⟨x, rfl, h1⟩ := ws1 hw
        simp only [bltW] at e
        cases el : lenW w1 S with
        | none => rw [el] at e; cases e
        | some n =>
          rw [el] at e
          cases e
          have qq : Q (.int (n : Int)) H := q _ _ Step.refl rs has_int
          rcases len_ok rs h1 el hK with z | ⟨p, kvs, rfl, z, rfl⟩ | ⟨p, kvs, rfl, z, rfl⟩
          · exact call_len pins s σ H _ us Q I rv ⟨x, n, rfl, z, qq⟩
          · exact call_len_dT pins s σ H _ us Q I rv ⟨p, kvs, rfl, z, qq⟩
          · exact call_lenD pins s σ H _ us Q I rv ⟨p, kvs, rfl, z, qq⟩
  | tuple =>
    cases hv
    intro pins s σ H xs us Q I rv hh
    obtain ⟨θ, S, ws, w, H₀, rs, hw, e, q⟩ := hh
    cases ws with
    | nil => cases e
    | cons w1 t =>
      cases t with
      | cons _ _ => cases e
      | nil =>
        obtain ⟨x, rfl, h1⟩ := ws1 hw
        simp only [bltW] at e
        cases et : tupOf w1 with
        | some l =>
          rw [et] at e
          obtain ⟨a, vs, rfl, t, r, y, rfl⟩ := tupOf_ok h1 et
          cases e
          exact call_tuple_of pins s σ H _ us Q I rv ⟨a, vs, rfl, .inr ⟨hK ▸ t, q _ _ Step.refl rs (wd (HasW.dd h1))⟩⟩
        | none =>
          rw [et] at e
          cases el : lstOf w1 S with
          | none => simp only [el] at e; cases e
          | some l =>
            simp only [el] at e
            cases e
            obtain ⟨a, vs, rfl, hs, hl⟩ := lstOf_ok rs h1 el
            exact call_tuple_of pins s σ H _ us Q I rv ⟨a, vs, rfl, .inl ⟨hK ▸ hs, fun p hp => q _ _ (Step.new hp) (rs.new hp) (hasNewT hp hl)⟩⟩
  | list =>
    cases hv
    intro pins s σ H xs us Q I rv hh
    obtain ⟨θ, S, ws, w, H₀, rs, hw, e, q⟩ := hh
    cases ws with
    | nil => cases e
    | cons w1 t =>
      cases t with
      | cons _ _ => cases e
      | nil =>
        obtain ⟨x, rfl, h1⟩ := ws1 hw
        simp only [bltW] at e
        cases et : tupOf w1 with
        | some l =>
          rw [et] at e
          obtain ⟨a, vs, rfl, t, r, y, rfl⟩ := tupOf_ok h1 et
          cases e
          exact call_list_of pins s σ H _ us Q I rv ⟨a, vs, rfl, .inr (hK ▸ t), fun p hp => q _ _ (Step.new hp) (rs.new hp) (hasNewL rs hp r)⟩
        | none =>
          rw [et] at e
          cases el : lstOf w1 S with
          | none => simp only [el] at e; cases e
          | some l =>
            simp only [el] at e
            cases e
            obtain ⟨a, vs, rfl, hs, hl⟩ := lstOf_ok rs h1 el
            exact call_list_of pins s σ H _ us Q I rv ⟨a, vs, rfl, .inl (hK ▸ hs), fun p hp => q _ _ (Step.new hp) (rs.new hp) (hasNewL rs hp hl)⟩
  | max2 =>
    cases hv
    intro pins s σ H xs us Q I rv hh
    obtain ⟨θ, S, ws, w, H₀, rs, hw, e, q⟩ := hh
    simp only [bltW] at e
    split at e
    · rename_i i j
      cases e
      obtain ⟨x, y, rfl, h1, h2⟩ := ws2 hw
      rw [int_of h1, int_of h2] at rv
      exact call_max2 hc pins s σ H _ us Q I rv ⟨i, j, rfl, q _ _ Step.refl rs has_int⟩
    · cases e
  | min2 =>
    cases hv
    intro pins s σ H xs us Q I rv hh
    obtain ⟨θ, S, ws, w, H₀, rs, hw, e, q⟩ := hh
    simp only [bltW] at e
    split at e
    · rename_i i j
      cases e
      obtain ⟨x, y, rfl, h1, h2⟩ := ws2 hw
      rw [int_of h1, int_of h2] at rv
      exact call_min2 hc pins s σ H _ us Q I rv ⟨i, j, rfl, q _ _ Step.refl rs has_int⟩
    · cases e
  | abs =>
    cases hv
    intro pins s σ H xs us Q I rv hh
    obtain ⟨θ, S, ws, w, H₀, rs, hw, e, q⟩ := hh
    simp only [bltW] at e
    split at e
    · rename_i i
      cases e
      obtain ⟨x, rfl, h1⟩ := ws1 hw
      rw [int_of h1] at rv
      exact call_abs pins s σ H _ us Q I rv ⟨i, rfl, q _ _ Step.refl rs has_int⟩
    · cases e
  | int1 =>
    cases hv
    intro pins s σ H xs us Q I rv hh
    obtain ⟨θ, S, ws, w, H₀, rs, hw, e, q⟩ := hh
    simp only [bltW] at e
    split at e
    · rename_i i
      cases e
      obtain ⟨x, rfl, h1⟩ := ws1 hw
      rw [int_of h1] at rv
      exact call_int1 pins s σ H _ us Q I rv (.inl ⟨i, rfl, q _ _ Step.refl rs has_int⟩)
    · rename_i k
      cases e
      obtain ⟨x, rfl, h1⟩ := ws1 hw
      rw [bl_of h1] at rv
      exact call_int1 pins s σ H _ us Q I rv (.inr ⟨k, rfl, q _ _ Step.refl rs has_int⟩)
    · rename_i l
      split at e
      · rename_i hl
        cases ei : PySem.intText? ⟨l.toArray⟩ with
        | none => rw [ei] at e; cases e
        | some n =>
          rw [ei] at e
          cases e
          obtain ⟨x, rfl, h1⟩ := ws1 hw
          rw [str_of h1] at rv
          exact call_int_str pins s σ H _ us Q I rv ⟨_, n, rfl, ei, by rw [str_len]; exact hl, q _ _ Step.refl rs has_int⟩
      · cases e
    · cases e
  | str1 =>
    cases hv
    intro pins s σ H xs us Q I rv hh
    obtain ⟨θ, S, ws, w, H₀, rs, hw, e, q⟩ := hh
    simp only [bltW] at e
    split at e
    · rename_i i
      split at e
      · rename_i hi
        cases e
        obtain ⟨x, rfl, h1⟩ := ws1 hw
        rw [int_of h1] at rv
        refine call_str_int pins s σ H _ us Q I rv ⟨i, rfl, hi, ?_⟩
        rw [toStr_digits]
        exact q _ _ Step.refl rs has_str
      · cases e
    · cases e
  | sum =>
    cases hv
    refine list1 hK (cr_sum hc) fun θ H H₀ S a vs l w Q rs hs hl e q => ?_
    cases em : l.mapM D.int? with
    | none => rw [em] at e; cases e
    | some ns =>
      rw [em] at e
      cases e
      rw [ints_of hl em] at hs
      exact ⟨a, ns, rfl, hs, q _ _ Step.refl rs has_int⟩
  | all =>
    cases hv
    refine list1 hK (cr_all hc) fun θ H H₀ S a vs l w Q rs hs hl e q => ?_
    cases em : l.mapM D.bl? with
    | none => rw [em] at e; cases e
    | some ns =>
      rw [em] at e
      cases e
      rw [bls_of hl em] at hs
      exact ⟨a, ns, rfl, hs, q _ _ Step.refl rs has_bl⟩
  | any =>
    cases hv
    refine list1 hK (cr_any hc) fun θ H H₀ S a vs l w Q rs hs hl e q => ?_
    cases em : l.mapM D.bl? with
    | none => rw [em] at e; cases e
    | some ns =>
      rw [em] at e
      cases e
      rw [bls_of hl em] at hs
      exact ⟨a, ns, rfl, hs, q _ _ Step.refl rs has_bl⟩
  | maxL =>
    cases hv
    refine list1 hK (cr_max hc) fun θ H H₀ S a vs l w Q rs hs hl e q => ?_
    cases em : l.mapM D.int? with
    | none => rw [em] at e; cases e
    | some ns =>
      rw [em] at e
      cases ex : ns.max? with
      | none => simp [ex] at e
      | some m =>
        simp [ex] at e
        subst e
        rw [ints_of hl em] at hs
        obtain ⟨h1, h2⟩ := List.max?_eq_some_iff.mp ex
        refine ⟨a, ns, rfl, hs, List.length_pos_of_mem h1, fun m' hm hle => ?_⟩
        rw [show m' = m from Int.le_antisymm (h2 m' hm) (hle m h1)]
        exact q _ _ Step.refl rs has_int
  | minL =>
    cases hv
    refine list1 hK (cr_min hc) fun θ H H₀ S a vs l w Q rs hs hl e q => ?_
    cases em : l.mapM D.int? with
    | none => rw [em] at e; cases e
    | some ns =>
      rw [em] at e
      cases ex : ns.min? with
      | none => simp [ex] at e
      | some m =>
        simp [ex] at e
        subst e
        rw [ints_of hl em] at hs
        obtain ⟨h1, h2⟩ := List.min?_eq_some_iff.mp ex
        refine ⟨a, ns, rfl, hs, List.length_pos_of_mem h1, fun m' hm hle => ?_⟩
        rw [show m' = m from Int.le_antisymm (hle m h1) (h2 m' hm)]
        exact q _ _ Step.refl rs has_int
  | sorted =>
    cases hv
    refine list1 hK cr_sortedI fun θ H H₀ S a vs l w Q rs hs hl e q => ?_
    cases em : l.mapM D.int? with
    | none => rw [em] at e; cases e
    | some ns =>
      rw [em] at e
      cases e
      rw [ints_of hl em] at hs
      refine ⟨a, ns, rfl, hs, fun ns' p perm rise hp => ?_⟩
      have e1 : ns' = ns.mergeSort fun a b => decide (a ≤ b) := by
        refine PySem.W.ksm_same (perm.trans (List.mergeSort_perm _ _).symm) rise ?_
        have := List.pairwise_mergeSort (le := fun (a b : Int) => decide (a ≤ b)) (fun a b c h1 h2 => by simp at *; omega) (fun a b => by simp; omega) ns
        exact this.imp fun h => by simpa using h
      rw [e1]
      exact q _ _ (Step.new hp) (rs.new hp) (hasNewL rs hp (hasInts _))
  | _ => cases hv
end
end PyI

set_option maxRecDepth 100000
set_option maxHeartbeats 1000000
/-! PyI: methods of built-in types by values. -/
namespace PyI
open PySem PySem.Spec PyProof.Rows L2
def rMW (g : Gd) (E : XK) (m : Bmt) : V → List V → Hp → VK → Prop := fun x xs H Q => ∃ θ S wx ws H₀, RelS g θ H S ∧ HasW g H₀ θ H wx x ∧ HasWs g H₀ θ H ws xs ∧
  CaseR g θ H (bmtW m wx ws S) E fun w S' θ' H' => ∀ v, HasW g H θ' H' w v → Q v H'
def rMD (g : Gd) (E : XK) (m : Bmt) : V → List V → Hp → VK → Prop := fun x xs H Q => ∃ θ S wx ds H₀, RelS g θ H S ∧ HasW g H₀ θ H wx x ∧ HasDs g.K θ H ds xs ∧
  CaseR g θ H (bmtD m wx ds S) E fun w S' θ' H' => ∀ v, HasW g H θ' H' w v → Q v H'
/-- a method: its name, its type, its id -/
def Bmt.py : Bmt → Option (Str × String × String)
  | .append => some ("append", "list", "list.append")
  | .extend => some ("extend", "list", "list.extend")
  | .pop => some ("pop", "list", "list.pop")
  | .join => some ("join", "str", "str.join")
  | .upper => some ("upper", "str", "str.upper")
  | .get1 => some ("get", "dict", "dict.get")
  | .get2 => some ("get", "dict", "dict.get")
  | _ => none
section
variable {X : Cx} {g : Gd} {E : XK}
theorem join_eq (a : List Nat) (ys : List (List Nat)) : Txt.join ⟨a.toArray⟩ (ys.map fun z => (⟨z.toArray⟩ : Str)) = ⟨(joinL a ys).toArray⟩ := by
  rw [TL.join_eq]
  induction ys with
  | nil => rfl
  | cons x r ih =>
    cases r with
    | nil => rfl
    | cons y s =>
      simp only [List.map_cons] at ih ⊢
      show (⟨x.toArray⟩ : Str) ++ (⟨a.toArray⟩ : Str) ++ Str.join ⟨a.toArray⟩ ((⟨y.toArray⟩ : Str) :: s.map fun z => (⟨z.toArray⟩ : Str)) = _
      rw [ih, str_app, str_app]
      rfl
theorem sum_len (ys : List (List Nat)) : ((ys.map fun z => (⟨z.toArray⟩ : Str)).map (·.length)).sum = (ys.map (·.length)).sum := by
  rw [List.map_map]
  rfl
theorem mt_W (hK : X.K = g.K) (m : Bmt) (p : Str × String × String) (hp : m.py = some p) (hk : m.keeps = false) : MtR X p.2.2 (rMW g E m) := by
  intro pins s σ H x xs v us Q I rx rv h
  obtain ⟨θ, S, wx, ws, H₀, rs, hx, hw, c⟩ := h
  cases m with
  | join =>
    cases hp
    simp only [bmtW] at c
    split at c
    · rename_i a
      split at c
      · rename_i y
        split at c
        · rename_i l el
          split at c
          · rename_i ys em
            split at c
            · rename_i hl
              obtain ⟨z, rfl, h1⟩ := ws1 hw
              obtain ⟨p, vs, rfl, hs, hd⟩ := lstOf_ok rs h1 el
              rw [strs_of hd em, ← hK] at hs
              rw [str_of hx] at rx
              refine mt_join pins s σ H _ _ v us Q I rx rv ⟨_, p, ys.map fun z => (⟨z.toArray⟩ : Str), rfl, rfl, .inl hs, ?_, ?_⟩
              · rw [sum_len, List.length_map, str_len]; exact hl
              · rw [join_eq]
                exact c θ H Step.refl rs _ has_str
            · exact c.elim
          · exact c.elim
        · exact c.elim
      · exact c.elim
    · exact c.elim
  | extend =>
    cases hp
    simp only [bmtW] at c
    split at c
    · rename_i n
      split at c
      · rename_i y
        split at c
        · rename_i l el
          split at c
          · rename_i mm em
            split at c
            · rename_i hl
              obtain ⟨z, rfl, h1⟩ := ws1 hw
              obtain ⟨b, zs, rfl, hb, hz⟩ := mlsOf_ok rs h1 em
              obtain ⟨a, ea, rfl⟩ := HasD.ref_iff.mp (HasW.dd hx)
              obtain ⟨a', ho, e1, e2, vs, rfl, hv⟩ := rs.at_ n _ el
              rw [ea] at e1; cases e1
              refine mt_extend pins s σ H _ _ v us Q I rx rv ⟨a, b, vs, zs, rfl, rfl, e2, hb, line_le (by rw [← hv.length, ← hz.length]; exact hl), ?_⟩
              exact c θ _ (Step.write rs el ea) (RelS.write rs el ea ⟨_, rfl, hv.append hz⟩) _ (wd (HasD.non_iff.mpr rfl))
            · exact c.elim
          · exact c.elim
        · exact c.elim
      · exact c.elim
    · exact c.elim
  | pop =>
    cases hp
    simp only [bmtW] at c
    split at c
    · rename_i n
      split at c
      · split at c
        · rename_i l el
          split at c
          · rename_i d ed
            cases hw
            obtain ⟨a, ea, rfl⟩ := HasD.ref_iff.mp (HasW.dd hx)
            obtain ⟨a', ho, e1, e2, vs, rfl, hv⟩ := rs.at_ n _ el
            rw [ea] at e1; cases e1
            rw [List.getLast?_eq_getElem?] at ed
            obtain ⟨y, h1, h2⟩ := hv.get ed
            rw [hv.length] at h1
            have hdl : HasDs g.K θ H l.dropLast vs.dropLast := by
              rw [List.dropLast_eq_take, List.dropLast_eq_take, hv.length]
              exact hv.take _
            refine mt_pop pins s σ H _ _ v us Q I rx rv ⟨a, vs, y, rfl, rfl, e2, h1, ?_⟩
            have st := Step.write (h' := .lst vs.dropLast) rs el ea
            exact c θ _ st (RelS.write rs el ea ⟨_, rfl, hdl⟩) _ (wd (h2.step st))
          · exact c.elim
        · exact c.elim
      · exact c.elim
    · exact c.elim
  | upper =>
    cases hp
    simp only [bmtW] at c
    split at c
    · rename_i l
      split at c
      · split at c
        · rename_i hl
          cases hw
          rw [str_of hx] at rx
          refine mt_upper pins s σ H _ _ v us Q I rx rv ⟨_, rfl, rfl, by rw [str_len]; exact hl, ?_⟩
          have := c θ H Step.refl rs _ has_str
          simpa using this
        · exact c.elim
      · exact c.elim
    · exact c.elim
  | append => cases hk
  | get1 => cases hk
  | get2 => cases hk
  | _ => cases hp
theorem mt_D (hK : X.K = g.K) (hu : X.A.units + 70 < cLine) (m : Bmt) (p : Str × String × String) (hp : m.py = some p) (hk : m.keeps = true) : MtR X p.2.2 (rMD g E m) := by
  intro pins s σ H x xs v us Q I rx rv h
  obtain ⟨θ, S, wx, ds, H₀, rs, hx, hw, c⟩ := h
  cases m with
  | append =>
    cases hp
    simp only [bmtD] at c
    split at c
    · rename_i n
      split at c
      · rename_i y
        split at c
        · rename_i l el
          split at c
          · rename_i hl
            obtain ⟨z, ws, rfl, h1, h2⟩ := hw.of_cons'
            obtain rfl := h2.of_nil
            obtain ⟨a, ea, rfl⟩ := HasD.ref_iff.mp (HasW.dd hx)
            obtain ⟨a', ho, e1, e2, vs, rfl, hv⟩ := rs.at_ n _ el
            rw [ea] at e1; cases e1
            refine mt_append pins s σ H _ _ v us Q I rx rv ⟨a, vs, z, rfl, rfl, e2, line_lt (by rw [← hv.length]; exact hl), ?_⟩
            exact c θ _ (Step.write rs el ea) (RelS.write rs el ea ⟨_, rfl, hv.append (HasDs.cons h1 HasDs.nil)⟩) _ (wd (HasD.non_iff.mpr rfl))
          · exact c.elim
        · exact c.elim
      · exact c.elim
    · exact c.elim
  | get1 =>
    cases hp
    simp only [bmtD] at c
    split at c
    · rename_i k
      split at c
      · rename_i l el
        obtain ⟨z, ws, rfl, h1, h2⟩ := hw.of_cons'
        obtain rfl := h2.of_nil
        obtain ⟨u, rfl, ru⟩ := Vals.one rv
        obtain ⟨a, r, rfl, dg, _, hr⟩ := askOf_ok rs hx h1 el
        obtain rfl : v = Value.ref a := rx
        refine d_get1 (by omega) I dg ru fun w' s' I' rw' => ⟨_, H, I', rw', c θ H Step.refl rs _ (wd ?_)⟩
        rcases hr with ⟨e1, e2⟩ | ⟨d, z, e1, e2, e3⟩
        · rw [e1, e2]; exact HasD.non_iff.mpr rfl
        · rw [e1, e2]; exact e3
      · exact c.elim
    · exact c.elim
  | get2 =>
    cases hp
    simp only [bmtD] at c
    split at c
    · rename_i k dz
      split at c
      · rename_i l el
        obtain ⟨z, ws, rfl, h1, h2⟩ := hw.of_cons'
        obtain ⟨z2, ws, rfl, h3, h4⟩ := h2.of_cons'
        obtain rfl := h4.of_nil
        obtain ⟨u, u2, rfl, ru, ru2⟩ := Vals.two rv
        obtain ⟨a, r, rfl, dg, _, hr⟩ := askOf_ok rs hx h1 el
        obtain rfl : v = Value.ref a := rx
        refine d_get2 (by omega) I dg ru ru2 fun w' s' I' rw' => ⟨_, H, I', rw', c θ H Step.refl rs _ (wd ?_)⟩
        rcases hr with ⟨e1, e2⟩ | ⟨d, z, e1, e2, e3⟩
        · rw [e1, e2]; exact h3
        · rw [e1, e2]; exact e3
      · exact c.elim
    · exact c.elim
  | join => cases hk
  | extend => cases hk
  | pop => cases hk
  | upper => cases hk
  | _ => cases hp
end
end PyI

set_option maxRecDepth 100000
set_option maxHeartbeats 1000000
/-! PyI: readings by evaluation, the tables, the look. -/
namespace PyI
open PySem PySem.Spec PyProof.Rows L2
section
variable (g : Gd) (E : XK)
def semR {α : Type} (ev : Env → Sto → Res α) (k : Hp → α → Sto → List Addr → Hp → Prop) : L2.St → Hp → Prop := fun σ H =>
  ∃ θ ρ S, EnvOk g.K θ H σ ρ ∧ RelS g θ H S ∧ CaseR g θ H (ev ρ S) E (k H)
def semE (ev : Env → Sto → Res W) : TE := fun σ H Q => semR g E ev (fun H₀ w _ θ' H' => ∀ v, HasW g H₀ θ' H' w v → Q v H') σ H
def semT (ev : Env → Sto → Res Bool) : TT := fun σ H Q => semR g E ev (fun _ b _ _ H' => Q b H') σ H
def semDs (ev : Env → Sto → Res (List D)) : TA := fun σ H Q => semR g E ev (fun _ ds _ θ' H' => ∀ vs, HasDs g.K θ' H' ds vs → Q vs H') σ H
def semWs (ev : Env → Sto → Res (List W)) : TA := fun σ H Q => semR g E ev (fun H₀ ws _ θ' H' => ∀ vs, HasWs g H₀ θ' H' ws vs → Q vs H') σ H
def semO (ev : Env → Sto → Res (Option Int)) : TO := fun σ H Q => semR g E ev (fun _ o _ _ H' => Q o H') σ H
/-- what a def promises -/
def spC (cb : Cb) (f : Nat) : Sp := fun vs H Q E => ∃ θ S ds, HasDs g.K θ H ds vs ∧ RelS g θ H S ∧ CaseR g θ H (cb f ds S) E fun w _ θ' H' => ∀ v, HasW g H θ' H' w v → Q v H'
end
section
variable {X : Cx} {e : Expr}
theorem PEw {t t' : TE} (h : PE X e t) (w : ∀ σ H Q, t' σ H Q → t σ H Q) : PE X e t' := ⟨fun pins s σ H Q I q => h.run pins s σ H Q I (w _ _ _ q)⟩
theorem PTw {t t' : TT} (h : PT X e t) (w : ∀ σ H Q, t' σ H Q → t σ H Q) : PT X e t' := ⟨fun pins s σ H Q I q => h.run pins s σ H Q I (w _ _ _ q)⟩
theorem PWw {t t' : TT} (h : PW X e t) (w : ∀ σ H Q, t' σ H Q → t σ H Q) : PW X e t' := ⟨fun wh pins s σ H Q I q => h.run wh pins s σ H Q I (w _ _ _ q)⟩
theorem PAw {es : List Expr} {t t' : TA} (h : PA X es t) (w : ∀ σ H Q, t' σ H Q → t σ H Q) : PA X es t' := ⟨fun pos pins s σ H Q I q => h.run pos pins s σ H Q I (w _ _ _ q)⟩
theorem POw {o : Option Expr} {t t' : TO} (h : PO X o t) (w : ∀ σ H Q, t' σ H Q → t σ H Q) : PO X o t' := ⟨fun pins s σ H Q I q => h.run pins s σ H Q I (w _ _ _ q)⟩
theorem PSw {st : Stmt} {t t' : TS} (h : PS X st t) (w : ∀ D σ H, t' D σ H → t D σ H) : PS X st t' := ⟨fun pins s σ H D I q => h.run pins s σ H D I (w _ _ _ q)⟩
theorem PSsw {st : List Stmt} {t t' : TS} (h : PSs X st t) (w : ∀ D σ H, t' D σ H → t D σ H) : PSs X st t' := ⟨fun pins s σ H D I q => h.run pins s σ H D I (w _ _ _ q)⟩
end
section
variable {g : Gd} {E : XK} {θ θ' θ'' : List Addr} {H H' H'' H₀ : Hp} {S S' : Sto}
/-- fresh since a later heap: fresh since an earlier one -/
theorem HasW.early (st : Step g.K θ H θ' H') (rs : RelS g θ' H' S') {w : W} {v : V} (h : HasW g H' θ'' H'' w v) : HasW g H θ'' H'' w v := h.since fun _ e => st.back rs e
theorem HasWs.stepW (st : Step g.K θ H θ' H') : ∀ {ws : List W} {vs : List V}, HasWs g H₀ θ H ws vs → HasWs g H₀ θ' H' ws vs
  | _, _, .nil => .nil
  | _, _, .cons r t => .cons (HasW.step st r) (HasWs.stepW st t)
theorem HasWs.earlyW (st : Step g.K θ H θ' H') (rs : RelS g θ' H' S') : ∀ {ws : List W} {vs : List V}, HasWs g H' θ'' H'' ws vs → HasWs g H θ'' H'' ws vs
  | _, _, .nil => .nil
  | _, _, .cons r t => .cons (HasW.early st rs r) (HasWs.earlyW st rs t)
theorem Step.hold {a : Addr} (st : Step g.K θ H θ' H') (f : H a = none) : Step g.K θ H (θ' ++ [a]) H' := ⟨fun m b z => by
    have := st.pre m b z
    rw [List.getElem?_append_left (List.getElem?_eq_some_iff.mp this).1]; exact this, st.keep, fun b m => by
    rcases List.mem_append.mp m with m | m
    · exact st.free b m
    · right
      rw [show b = a by simpa using m]; exact f, st.tup, st.fz⟩
/-- a value on the way is held from now on -/
theorem CaseR.al {r : Res W} {k : D → Sto → List Addr → Hp → Prop} (h : CaseR g θ H r.al E k) :
    CaseR g θ H r E fun w S' θ' H' => ∀ v, HasW g H θ' H' w v → ∃ d S'' θ'', Step g.K θ H θ'' H' ∧ RelS g θ'' H' S'' ∧ HasD g.K θ'' H' d v ∧ k d S'' θ'' H' := by
  cases r with
  | bad => exact h
  | ex C fs S' => exact h
  | ok w S' =>
    cases w with
    | d x =>
      intro θ' H' st rs v hv
      exact ⟨x, S', θ', st, rs, hv, h θ' H' st rs⟩
    | o ob =>
      intro θ' H' st rs v hv
      obtain ⟨a, ho, e, h1, n, q, f⟩ := hv
      have st2 : Step g.K θ H (θ' ++ [a]) H' := st.hold f
      have rs2 := rs.hold h1 n q
      exact ⟨.ref S'.length, S' ++ [ob], θ' ++ [a], st2, rs2, HasD.ref_iff.mpr ⟨a, hold_at rs, e⟩, h _ H' st2 rs2⟩
theorem CaseR.opt' {α : Type} {o : Option α} {k : α → Sto → List Addr → Hp → Prop} (h : CaseR g θ H (PyI.opt o S) E k) : ∃ a, o = some a ∧ ∀ θ' H', Step g.K θ H θ' H' → RelS g θ' H' S → k a S θ' H' := by
  cases o with
  | none => exact h.elim
  | some a => exact ⟨a, rfl, h⟩
end

/-! ### forms that stand on their own -/
def notStar : Expr → Bool
  | .Starred _ _ => false
  | _ => true
def noStars : List Expr → Bool
  | [] => true
  | e :: es => notStar e && noStars es
theorem star_one {e : Expr} {es : List Expr} {env : PySem.Env} (h : notStar e = true) : starEach (e :: es) env = (false, eval e env) :: starEach es env := by
  cases e <;> first | rfl | cases h
theorem star_any {pos : Pos} {env : PySem.Env} : ∀ {es : List Expr}, noStars es = true → (backTo pos (starEach es env)).any (·.1) = false
  | [], _ => rfl
  | e :: es, h => by
    have h1 : notStar e = true ∧ noStars es = true := by simpa [noStars] using h
    rw [star_one h1.1]
    have := star_any (pos := pos) (env := env) h1.2
    show (false || (backTo pos (starEach es env)).any (·.1)) = false
    rw [this]; rfl
/-- no super() -/
def noSuper : Expr → Bool
  | .Call (.Name _ _) [] [] _ => false
  | _ => true
theorem base_of {e : Expr} {f : Str} {env : PySem.Env} {whole : Sem Value} (h : noSuper e = true) : attributeBase e f env whole = whole := by
  unfold attributeBase
  split
  · exact absurd h (by simp [noSuper])
  · rfl
def notSlice : Expr → Bool
  | .Slice _ _ _ _ => false
  | _ => true
theorem plainIx_of {e : Expr} (h : notSlice e = true) : PlainIx e := by
  intro o i
  cases e <;> first | rfl | cases h
def notSet : Expr → Bool
  | .Set _ _ _ => false
  | _ => true
theorem mark_of {op : CmpOp} {e : Expr} (h : notSet e = true) : behindInMarks op e = false := by
  cases e <;> first | rfl | cases h

/-! ### the tables of a program -/
structure Tb where
  fnN : Nat → Option Str
  clN : Nat → Option Str
  mthN : Nat → Str
  dis : Nat → Nat → Option Nat
  ini : Nat → Option Nat
  free : Str → Bool
  glb : Str → D → Bool
  fok : Nat → Nat → Bool
structure Cb2 where
  cb : Cb
  ci : Cb
  ini : Nat → Option Nat
def sqB (o : Option Str) (x : Str) : Bool := match o with
  | some y => y == x
  | none => false
theorem sqB_ok {o : Option Str} {x : Str} (h : sqB o x = true) : o = some x := by
  cases o with
  | none => cases h
  | some y => rw [show y = x from eq_of_beq h]
def visB (sc : Scope) (x : Str) : Bool := match sc.names.lookup x with
  | some .local => true
  | some .cell => true
  | some .free => true
  | _ => false
def locB (sc : Scope) (x : Str) : Bool := match sc.names.lookup x with
  | some .local => true
  | some .cell => true
  | _ => false
def gloB (sc : Scope) (x : Str) : Bool := match sc.names.lookup x with
  | some .globalImplicit => true
  | _ => false
def plainN (x : Str) : Bool := !(x == ("__debug__" : Str)) && (!(x == ("__classdict__" : Str)) && !(x == ("__name__" : Str)))
def conB : D → Const → Bool
  | .non, .none => true
  | .bl b, .bool c => b == c
  | .int i, .int j => i == j
  | .str l, .str x => l == x.cps.toList
  | _, _ => false
def line1 (a b : Pos) : Bool := a.endLine == b.line
def Ty.name : Ty → String
  | .int => "int"
  | .bool => "bool"
  | .str => "str"
  | .tuple => "tuple"
  | .list => "list"
  | .dict => "dict"
  | .none => "NoneType"
def ownOf (N : List Str) (vs : List Nat) : List (Str × Nat) := vs.map fun i => (N.getD i "", i)
def slotsIn : Tg → List Nat → Bool
  | .nm i, vs => vs.contains i
  | .tp is, vs => is.all fun i => vs.contains i
def nmB (N : List Str) (sc : Scope) (i : Nat) (tg : Expr) : Bool := match tg with
  | .Name x _ => sqB N[i]? x && locB sc x
  | _ => false
def nmsB (N : List Str) (sc : Scope) : List Nat → List Expr → Bool
  | [], [] => true
  | i :: is, e :: es => nmB N sc i e && nmsB N sc is es
  | _, _ => false
def chkT (N : List Str) (sc : Scope) (t : Tg) (tg : Expr) : Bool := match t with
  | .nm i => nmB N sc i tg
  | .tp is => (match tg with
    | .Tuple es _ _ => nmsB N sc is es
    | _ => false)
def isTup : Expr → Bool
  | .Tuple _ _ _ => true
  | _ => false
def oneCall (b : Str) (pe : Expr) : Option Expr := match pe with
  | .Call (.Name x _) [a] [] _ => if x == b then some a else none
  | _ => none
/-- the class or the tuple of classes of isinstance -/
def tysB (sc : Scope) (T : Tb) (ts : List Ty) (pe : Expr) : Bool := match ts with
  | [t] => (match pe with
    | .Name x _ => (x == Str.ofString t.name) && (gloB sc x && (T.free x && (plainN x && !decide (t = .none))))
    | _ => false)
  | _ => false

/-! ### the look: does the tree say what the data say -/
section
variable (T : Tb) (N : List Str)
def callN (sc : Scope) (x : Str) (es : List Expr) (kws : List Keyword) : Bool := kws.isEmpty && (gloB sc x && (plainN x && noStars es))
mutual
def chkE : Ex → Scope → Expr → Bool
  | .con d, _, pe => (match pe with
    | .Constant c _ _ => conB d c
    | .UnaryOp .USub (.Constant (.int i) _ _) _ => (match d with
      | .int j => j == -i
      | _ => false)
    | _ => false)
  | .var i, sc, pe => (match pe with
    | .Name x _ => sqB N[i]? x && (visB sc x && plainN x)
    | _ => false)
  | .glb y d, sc, pe => (match pe with
    | .Name x _ => (y == x) && (gloB sc x && (T.glb x d && plainN x))
    | _ => false)
  | .bin o a b, sc, pe => (match pe with
    | .BinOp l op r _ => decide (op = o.py) && (chkE a sc l && chkE b sc r)
    | _ => false)
  | .neg a, sc, pe => (match pe with
    | .UnaryOp .USub x _ => chkE a sc x
    | _ => false)
  | .cmp o a b, sc, pe => (match pe with
    | .Compare l [op] [r] _ => decide (op = o.py) && (notSet r && (chkE a sc l && chkE b sc r))
    | _ => false)
  | .chain o o' a b c, sc, pe => (match pe with
    | .Compare l [op, op'] [r, r'] _ => decide (op = o.py) && (decide (op' = o'.py) && (notSet r && (notSet r' && (chkE a sc l && (chkE b sc r && chkE c sc r')))))
    | _ => false)
  | .band a b, sc, pe => (match pe with
    | .BoolOp .And (x :: y :: rest) p => chkE a sc x && (match rest with
      | [] => chkE b sc y
      | _ :: _ => chkE b sc (.BoolOp .And (y :: rest) p))
    | _ => false)
  | .bor a b, sc, pe => (match pe with
    | .BoolOp .Or (x :: y :: rest) p => chkE a sc x && (match rest with
      | [] => chkE b sc y
      | _ :: _ => chkE b sc (.BoolOp .Or (y :: rest) p))
    | _ => false)
  | .bnot a, sc, pe => (match pe with
    | .UnaryOp .Not x _ => chkE a sc x
    | _ => false)
  | .ite c a b, sc, pe => (match pe with
    | .IfExp x y z _ => chkE c sc x && (chkE a sc y && chkE b sc z)
    | _ => false)
  | .tup es, sc, pe => (match pe with
    | .Tuple xs _ _ => chkEs es sc xs
    | _ => false)
  | .lst es, sc, pe => (match pe with
    | .List xs _ => chkEs es sc xs
    | _ => false)
  | .dnewK, _, pe => (match pe with
    | .Dict [] [] _ => true
    | _ => false)
  | .dnewT, _, pe => (match pe with
    | .Dict [] [] _ => true
    | _ => false)
  | .dic kvs, sc, pe => (match pe with
    | .Dict ks vs _ => decide (0 < ks.length) && (decide (ks.length ≤ 15) && chkPs kvs sc ks vs)
    | _ => false)
  | .orv a b c, sc, pe => (match pe with
    | .Subscript (.BoolOp .Or [x, y] _) z _ => notSlice z && (chkE a sc x && (chkE b sc y && chkE c sc z))
    | _ => false)
  | .trev e, sc, pe => (match pe with
    | .Call (.Name x _) [.Call (.Name y _) [z] [] _] [] _ => (x == ("tuple" : Str)) && ((y == ("reversed" : Str)) && (gloB sc x && (gloB sc y && (T.free x && (T.free y && (notStar z && chkE e sc z))))))
    | _ => false)
  | .lrev e, sc, pe => (match pe with
    | .Call (.Name x _) [.Call (.Name y _) [z] [] _] [] _ => (x == ("list" : Str)) && ((y == ("reversed" : Str)) && (gloB sc x && (gloB sc y && (T.free x && (T.free y && (notStar z && chkE e sc z))))))
    | _ => false)
  | .idx a b, sc, pe => (match pe with
    | .Subscript x y _ => notSlice y && (chkE a sc x && chkE b sc y)
    | _ => false)
  | .slc a lo hi, sc, pe => (match pe with
    | .Subscript x (.Slice l h none _) _ => chkE a sc x && (chkO lo sc l && chkO hi sc h)
    | _ => false)
  | .fld a f cs, sc, pe => (match pe with
    | .Attribute x y _ => (T.mthN f == y) && (noSuper x && ((cs.all fun C => T.fok C f) && chkE a sc x))
    | _ => false)
  | .isT ts a, sc, pe => (match pe with
    | .Call (.Name x _) [e, t] [] _ => (x == ("isinstance" : Str)) && (gloB sc x && (T.free x && (notStar e && (notStar t && (tysB sc T ts t && chkE a sc e)))))
    | _ => false)
  | .call f es, sc, pe => (match pe with
    | .Call (.Name x _) xs kws _ => callN sc x xs kws && (sqB (T.fnN f) x && chkEs es sc xs)
    | _ => false)
  | .meth o m dis es, sc, pe => (match pe with
    | .Call (.Attribute x y ap) xs kws p => (T.mthN m == y) && (noSuper x && (line1 ap p && (kws.isEmpty && (noStars xs && (decide (xs.length < 29) && ((dis.all fun q => (match T.dis m q.1 with
        | some f => f == q.2
        | none => false)) && (chkE o sc x && chkEs es sc xs)))))))
    | _ => false)
  | .make C es, sc, pe => (match pe with
    | .Call (.Name x _) xs kws _ => callN sc x xs kws && (sqB (T.clN C) x && chkEs es sc xs)
    | _ => false)
  | .blt b es, sc, pe => (match pe with
    | .Call (.Name x _) xs kws _ => callN sc x xs kws && (!xs.isEmpty && ((match b.py with
      | some (y, _, _) => y == x
      | none => false) && (T.free x && chkEs es sc xs)))
    | _ => false)
  | .bmt m o es, sc, pe => (match pe with
    | .Call (.Attribute x y ap) xs kws p => (match m.py with
      | some (z, _, _) => z == y
      | none => false) && (noSuper x && (line1 ap p && (kws.isEmpty && (noStars xs && (decide (xs.length < 29) && (chkE o sc x && chkEs es sc xs))))))
    | _ => false)
  | .lc vs t it c e, sc, pe => (match pe with
    | .ListComp el [⟨tg, iter, ifs, 0⟩] sc' _ => chkI it sc (isTup tg) iter && (blkC N sc sc' (ownOf N vs) && (((ownOf N vs).map (·.2) == vs) && (chkT N sc' t tg && (slotsIn t vs && (chkC c sc' ifs && chkE e sc' el)))))
    | _ => false)
def chkEs : Exs → Scope → List Expr → Bool
  | .nil, _, xs => xs.isEmpty
  | .cons e r, sc, xs => (match xs with
    | x :: ys => notStar x && (chkE e sc x && chkEs r sc ys)
    | [] => false)
def chkPs : Exs → Scope → List (Option Expr) → List Expr → Bool
  | .nil, _, ks, vs => ks.isEmpty && vs.isEmpty
  | .cons k (.cons v r), sc, ks, vs => (match ks, vs with
    | some x :: ks, y :: vs => chkE k sc x && (chkE v sc y && chkPs r sc ks vs)
    | _, _ => false)
  | .cons _ .nil, _, _, _ => false
def chkO : Oex → Scope → Option Expr → Bool
  | .no, _, o => o.isNone
  | .ya e, sc, o => (match o with
    | some x => chkE e sc x
    | none => false)
def chkC : Oex → Scope → List Expr → Bool
  | .no, _, l => l.isEmpty
  | .ya e, sc, l => (match l with
    | [x] => chkE e sc x
    | _ => false)
def chkI : Itx → Scope → Bool → Expr → Bool
  | .seq e, sc, _, pe => chkE e sc pe && (match pe with
    | .Set _ _ _ => false
    | _ => true)
  | .rng1 a, sc, _, pe => (match pe with
    | .Call (.Name x _) [y] kws _ => (x == ("range" : Str)) && (callN sc x [y] kws && (T.free x && chkE a sc y))
    | _ => false)
  | .rng2 a b, sc, _, pe => (match pe with
    | .Call (.Name x _) [y, z] kws _ => (x == ("range" : Str)) && (callN sc x [y, z] kws && (T.free x && (chkE a sc y && chkE b sc z)))
    | _ => false)
  | .rngD a b, sc, _, pe => (match pe with
    | .Call (.Name x _) [y, z, .UnaryOp .USub (.Constant (.int 1) _ _) _] kws _ => (x == ("range" : Str)) && (callN sc x [y, z] kws && (T.free x && (chkE a sc y && chkE b sc z)))
    | _ => false)
  | .rngT a b, sc, _, pe => (match pe with
    | .Call (.Name x _) [y, z, .Constant (.int 2) _ _] kws _ => (x == ("range" : Str)) && (callN sc x [y, z] kws && (T.free x && (chkE a sc y && chkE b sc z)))
    | _ => false)
  | .rev e, sc, _, pe => (match pe with
    | .Call (.Name x _) [y] kws _ => (x == ("reversed" : Str)) && (callN sc x [y] kws && (T.free x && chkE e sc y))
    | _ => false)
  | .enum e, sc, tp, pe => (match pe with
    | .Call (.Name x _) [y] kws _ => (x == ("enumerate" : Str)) && (callN sc x [y] kws && (T.free x && (tp && chkE e sc y)))
    | _ => false)
  | .zip a b, sc, tp, pe => (match pe with
    | .Call (.Name x _) [y, z] kws _ => (x == ("zip" : Str)) && (callN sc x [y, z] kws && (T.free x && (tp && (chkE a sc y && chkE b sc z))))
    | _ => false)
end
end
end PyI

set_option maxRecDepth 100000
set_option maxHeartbeats 1000000
/-! PyI: forms. -/
namespace PyI
open PySem PySem.Spec PyProof.Rows L2

theorem Res.bind_assoc {α β γ : Type} (r : Res α) (f : α → Sto → Res β) (h : β → Sto → Res γ) : (r.bind f).bind h = r.bind fun a S => (f a S).bind h := by
  cases r <;> rfl
theorem testD_bind {α β : Type} (w : W) (S : Sto) (f : Bool → Res α) (h : α → Sto → Res β) : (testD w S f).bind h = testD w S fun b => (f b).bind h := by
  cases w with
  | o _ => rfl
  | d x => cases x <;> rfl
theorem opt_bind {α β : Type} (o : Option α) (S : Sto) (h : α → Sto → Res β) : (opt o S).bind h = (match o with
  | some a => h a S
  | none => .bad) := by cases o <;> rfl
/-- as a test -/
def tst (ev : Env → Sto → Res W) (ρ : Env) (S : Sto) : Res Bool := (ev ρ S).bind fun x S => testD x S fun b => .ok b S
section
variable {g : Gd} {E : XK} {θ θ' θ1 : List Addr} {H H' H1 H₀ : Hp} {S S' S1 : Sto} {σ : L2.St} {ρ : Env}
theorem tail_E {ev : Env → Sto → Res W} {Q : VK} (st : Step g.K θ H θ1 H1) (rs1 : RelS g θ1 H1 S1) (eo : EnvOk g.K θ H σ ρ) (c : CaseR g θ1 H1 (ev ρ S1) E fun w _ θ' H' => ∀ v, HasW g H θ' H' w v → Q v H') : semE g E ev σ H1 Q :=
  ⟨θ1, ρ, S1, eo.step st, rs1, c.mono fun w S' θ' H' _ _ h v hv => h v (hv.early st rs1)⟩
theorem dec_bl {w : W} {S : Sto} {β : Type} {f : Bool → Res β} {k : β → Sto → List Addr → Hp → Prop} (c : CaseR g θ H (testD w S f) E k) : ∃ b, w = .d (.bl b) ∧ CaseR g θ H (f b) E k := by
  cases w with
  | o _ => exact c.elim
  | d x => cases x <;> first | exact c.elim | exact ⟨_, rfl, c⟩
theorem tst_of {ev : Env → Sto → Res W} {β : Type} {f : Bool → Sto → Res β} {k : β → Sto → List Addr → Hp → Prop} (c : CaseR g θ H ((ev ρ S).bind fun x S => testD x S fun b => f b S) E k) :
    CaseR g θ H (tst ev ρ S) E fun b S' θ' H' => CaseR g θ' H' (f b S') E k := by
  unfold tst
  generalize ev ρ S = r at c ⊢
  cases r with
  | bad => exact c
  | ex C fs S' => exact c
  | ok w S' =>
    cases w with
    | o _ => exact c
    | d x => cases x <;> first | exact c | exact fun θ2 H2 t r => CaseR.from t c
theorem nox_of {α : Type} {r : Res α} {E' : XK} {k : α → Sto → List Addr → Hp → Prop} (c : CaseR g θ H r.nox E' k) : CaseR g θ H r E k := by
  cases r <;> first | exact c | exact c.elim
theorem nox_E {α : Type} {r : Res α} {E' : XK} {k : α → Sto → List Addr → Hp → Prop} (c : CaseR g θ H r.nox E' k) : CaseR g θ H r.nox E k := by
  cases r <;> first | exact c | exact c.elim
end

section
variable {X : Cx} {g : Gd} {E : XK} {e a b c : Expr} {es : List Expr} {pos : Pos} {ea eb ec : Env → Sto → Res W}
theorem pure_ok {w : D} {v : V} (h : PE X e (tC v)) (r : ∀ θ H, HasD g.K θ H w v) : PE X e (semE g E fun _ S => .ok (.d w) S) :=
  PEw h fun σ H Q ⟨θ, ρ, S, eo, rs, q⟩ => q θ H Step.refl rs v (r θ H)
theorem con_ok {d : D} {k : Const} {j : Nat} (h : conB d k = true) : PE X (.Constant k j pos) (semE g E fun _ S => .ok (.d d) S) := by
  cases d with
  | non =>
    cases k with
    | none => exact pure_ok pe_non fun _ _ => HasD.non_iff.mpr rfl
    | _ => exact Bool.noConfusion h
  | bl x =>
    cases k with
    | bool y =>
      rw [show x = y from eq_of_beq h]
      exact pure_ok pe_bl fun _ _ => HasD.bl_iff.mpr rfl
    | _ => exact Bool.noConfusion h
  | int x =>
    cases k with
    | int y =>
      rw [show x = y from eq_of_beq h]
      exact pure_ok pe_int fun _ _ => HasD.int_iff.mpr rfl
    | _ => exact Bool.noConfusion h
  | str x =>
    cases k with
    | str y =>
      rw [show x = y.cps.toList from eq_of_beq h]
      exact pure_ok pe_str fun _ _ => HasD.str_iff.mpr rfl
    | _ => exact Bool.noConfusion h
  | tup _ => cases k <;> exact Bool.noConfusion h
  | rol _ _ => cases k <;> exact Bool.noConfusion h
  | ref _ => cases k <;> exact Bool.noConfusion h
theorem negc_ok {i : Int} {j : Nat} {p p' : Pos} : PE X (.UnaryOp .USub (.Constant (.int i) j p) p') (semE g E fun _ S => .ok (.d (.int (-i))) S) :=
  PEw (pe_un un_neg pe_int) fun σ H Q ⟨θ, ρ, S, eo, rs, q⟩ => ⟨i, rfl, q θ H Step.refl rs (.int (-i)) has_int⟩
theorem var_ok {i : Nat} (h : PE X e (tVar i)) : PE X e (semE g E fun ρ S => (match ρ[i]? with
    | some (some d) => .ok (.d d) S
    | _ => .bad)) := PEw h fun σ H Q ⟨θ, ρ, S, eo, rs, q⟩ => by
  dsimp only at q
  split at q
  · rename_i d hd
    obtain ⟨v, h1, h2⟩ := eo.2 i d hd
    exact ⟨v, h1, q θ H Step.refl rs v h2⟩
  · exact q.elim
theorem bin_ok {f : W → W → Sto → Option W} {r : R2} (h : PE X e (tOp r (semE g E ea) (semE g E eb))) (hr : ∀ x y H Q, rW g f x y H Q → r x y H Q) :
    PE X e (semE g E fun ρ S => (ea ρ S).bind fun x S => (eb ρ S).bind fun y S => opt (f x y S) S) := PEw h fun σ H Q ⟨θ, ρ, S, eo, rs, q⟩ => by
  refine ⟨θ, ρ, S, eo, rs, q.bind.mono fun wx S1 θ1 H1 st1 rs1 c1 x hx => ?_⟩
  refine ⟨θ1, ρ, S1, eo.step st1, rs1, c1.bind.mono fun wy S2 θ2 H2 st2 rs2 c2 y hy => ?_⟩
  obtain ⟨w, ew, q⟩ := c2.opt'
  exact hr _ _ _ _ ⟨θ2, S2, wx, wy, w, H, rs2, hx.step st2, hy.early st1 rs1, ew, fun v H3 st3 rs3 hv => q θ2 H3 st3 rs3 v (hv.early (st1.trans st2) rs2)⟩
/-- the second held -/
theorem idx_ok {f : W → D → Sto → Option D} {r : R2} (h : PE X e (tOp r (semE g E ea) (semE g E eb))) (hr : ∀ x y H Q θ S wx k d H₀, RelS g θ H S → HasW g H₀ θ H wx x → HasD g.K θ H k y → f wx k S = some d → (∀ v, HasD g.K θ H d v → Q v H) → r x y H Q) :
    PE X e (semE g E fun ρ S => (ea ρ S).bind fun x S => (eb ρ S).al.bind fun k S => opt ((f x k S).map W.d) S) := PEw h fun σ H Q ⟨θ, ρ, S, eo, rs, q⟩ => by
  refine ⟨θ, ρ, S, eo, rs, q.bind.mono fun wx S1 θ1 H1 st1 rs1 c1 x hx => ?_⟩
  refine ⟨θ1, ρ, S1, eo.step st1, rs1, c1.bind.al.mono fun wy S2 θ2 H2 st2 rs2 c2 y hy => ?_⟩
  obtain ⟨k, S3, θ3, st3, rs3, hk, c3⟩ := c2 y hy
  obtain ⟨w, ew, q⟩ := c3.opt'
  cases ed : f wx k S3 with
  | none => rw [ed] at ew; cases ew
  | some d =>
    rw [ed] at ew
    cases ew
    exact hr _ _ _ _ θ3 S3 wx k d H rs3 (hx.step st3) hk ed fun v hv => q θ3 H2 Step.refl rs3 v hv
theorem neg_ok (h : PE X a (semE g E ea)) : PE X (.UnaryOp .USub a pos) (semE g E fun ρ S => (ea ρ S).bind fun x S => (match x with
    | .d (.int i) => .ok (.d (.int (-i))) S
    | _ => .bad)) := PEw (pe_un un_neg h) fun σ H Q ⟨θ, ρ, S, eo, rs, q⟩ => by
  refine ⟨θ, ρ, S, eo, rs, q.bind.mono fun wx S1 θ1 H1 st1 rs1 c1 x hx => ?_⟩
  dsimp only at c1
  split at c1
  · rename_i i
    exact ⟨i, int_of hx, c1 θ1 H1 Step.refl rs1 _ has_int⟩
  · exact c1.elim
/-! ### tests -/
theorem ite_ok (hc : PT X c (semT g E (tst ec))) (ha : PE X a (semE g E ea)) (hb : PE X b (semE g E eb)) : PE X (.IfExp c a b pos) (semE g E fun ρ S => (ec ρ S).bind fun x S => testD x S fun t => if t = true then ea ρ S else eb ρ S) :=
  PEw (pe_ifExp hc ha hb) fun σ H Q ⟨θ, ρ, S, eo, rs, q⟩ => by
    refine ⟨θ, ρ, S, eo, rs, (tst_of q).mono fun t S1 θ1 H1 st1 rs1 c1 => ?_⟩
    dsimp only at c1 ⊢
    split at c1
    · rename_i ht; rw [if_pos ht]; exact tail_E st1 rs1 eo c1
    · rename_i ht; rw [if_neg ht]; exact tail_E st1 rs1 eo c1
def andE (ea eb : Env → Sto → Res W) : Env → Sto → Res W := fun ρ S => (ea ρ S).bind fun x S => testD x S fun t => if t = true then (eb ρ S).bind fun y S => testD y S fun u => .ok (.d (.bl u)) S else .ok (.d (.bl false)) S
def orE (ea eb : Env → Sto → Res W) : Env → Sto → Res W := fun ρ S => (ea ρ S).bind fun x S => testD x S fun t => if t = true then .ok (.d (.bl true)) S else (eb ρ S).bind fun y S => testD y S fun u => .ok (.d (.bl u)) S
def notE (ea : Env → Sto → Res W) : Env → Sto → Res W := fun ρ S => (ea ρ S).bind fun x S => testD x S fun t => .ok (.d (.bl (!t))) S
/-- an expression's truth value behind it -/
def blE (ea : Env → Sto → Res W) : Env → Sto → Res W := fun ρ S => (ea ρ S).bind fun y S => testD y S fun u => .ok (.d (.bl u)) S
theorem bl_ok (h : PE X e (semE g E ea)) : PE X e (semE g E (blE ea)) := PEw h fun σ H Q ⟨θ, ρ, S, eo, rs, q⟩ => by
  refine ⟨θ, ρ, S, eo, rs, CaseR.mono (CaseR.bind q) fun wx S1 θ1 H1 st1 rs1 c1 x hx => ?_⟩
  obtain ⟨b, rfl, c2⟩ := dec_bl c1
  exact c2 θ1 H1 Step.refl rs1 x hx
theorem tst_bl (ea : Env → Sto → Res W) : tst (blE ea) = tst ea := by
  funext ρ S
  unfold tst blE
  rw [Res.bind_assoc]
  congr 1
  funext x S
  rw [testD_bind]
  rfl
theorem tAndV_of {σ : L2.St} {H : Hp} {Q : VK} (h : semE g E (andE ea eb) σ H Q) : tAndV (semE g E ea) (semE g E (blE eb)) σ H Q := by
  obtain ⟨θ, ρ, S, eo, rs, q⟩ := h
  refine ⟨θ, ρ, S, eo, rs, CaseR.mono (CaseR.bind q) fun wx S1 θ1 H1 st1 rs1 c1 x hx => ?_⟩
  obtain ⟨b, rfl, c2⟩ := dec_bl c1
  refine ⟨b, bl_of hx, ?_⟩
  split at c2
  · rename_i ht; rw [if_pos ht]; exact tail_E st1 rs1 eo c2
  · rename_i ht; rw [if_neg ht]; exact c2 θ1 H1 Step.refl rs1 _ has_bl
theorem tOrV_of {σ : L2.St} {H : Hp} {Q : VK} (h : semE g E (orE ea eb) σ H Q) : tOrV (semE g E ea) (semE g E (blE eb)) σ H Q := by
  obtain ⟨θ, ρ, S, eo, rs, q⟩ := h
  refine ⟨θ, ρ, S, eo, rs, CaseR.mono (CaseR.bind q) fun wx S1 θ1 H1 st1 rs1 c1 x hx => ?_⟩
  obtain ⟨b, rfl, c2⟩ := dec_bl c1
  refine ⟨b, bl_of hx, ?_⟩
  split at c2
  · rename_i ht; rw [if_pos ht]; exact c2 θ1 H1 Step.refl rs1 _ has_bl
  · rename_i ht; rw [if_neg ht]; exact tail_E st1 rs1 eo c2
theorem not_ok (h : PE X a (semE g E ea)) : PE X (.UnaryOp .Not a pos) (semE g E (notE ea)) := PEw (pe_not h) fun σ H Q ⟨θ, ρ, S, eo, rs, q⟩ => by
  refine ⟨θ, ρ, S, eo, rs, CaseR.mono (CaseR.bind q) fun wx S1 θ1 H1 st1 rs1 c1 x hx => ?_⟩
  obtain ⟨b, rfl, c2⟩ := dec_bl c1
  exact ⟨b, bl_of hx, c2 θ1 H1 Step.refl rs1 _ has_bl⟩
/-- by its value -/
theorem tB_of {σ : L2.St} {H : Hp} {Q : Bool → Hp → Prop} (h : semT g E (tst ea) σ H Q) : tB (semE g E ea) σ H Q := by
  obtain ⟨θ, ρ, S, eo, rs, q⟩ := h
  refine ⟨θ, ρ, S, eo, rs, CaseR.mono (CaseR.bind q) fun wx S1 θ1 H1 st1 rs1 c1 x hx => ?_⟩
  obtain ⟨b, rfl, c2⟩ := dec_bl c1
  exact ⟨b, bl_of hx, c2 θ1 H1 Step.refl rs1⟩
theorem pt_of (h : PT X e (tB (semE g E ea))) : PT X e (semT g E (tst ea)) := PTw h fun _ _ _ => tB_of
theorem tTest_of {t : TE} {σ : L2.St} {H : Hp} {Q : Bool → Hp → Prop} (hw : ∀ σ H Q, semE g E ea σ H Q → t σ H Q) (h : semT g E (tst ea) σ H Q) : tTest t σ H Q := hw σ H _ (tB_of h)
theorem tst_and (ea eb : Env → Sto → Res W) (ρ : Env) (S : Sto) : tst (andE ea eb) ρ S = (ea ρ S).bind fun x S => testD x S fun t => if t = true then tst eb ρ S else .ok false S := by
  unfold tst andE
  rw [Res.bind_assoc]
  congr 1
  funext x S
  rw [testD_bind]
  congr 1
  funext t
  split
  · rw [Res.bind_assoc]
    congr 1
    funext y S
    rw [testD_bind]
    rfl
  · rfl
theorem tst_or (ea eb : Env → Sto → Res W) (ρ : Env) (S : Sto) : tst (orE ea eb) ρ S = (ea ρ S).bind fun x S => testD x S fun t => if t = true then .ok true S else tst eb ρ S := by
  unfold tst orE
  rw [Res.bind_assoc]
  congr 1
  funext x S
  rw [testD_bind]
  congr 1
  funext t
  split
  · rfl
  · rw [Res.bind_assoc]
    congr 1
    funext y S
    rw [testD_bind]
    rfl
theorem tst_not (ea : Env → Sto → Res W) (ρ : Env) (S : Sto) : tst (notE ea) ρ S = (ea ρ S).bind fun x S => testD x S fun t => .ok (!t) S := by
  unfold tst notE
  rw [Res.bind_assoc]
  congr 1
  funext x S
  rw [testD_bind]
  rfl
theorem tst_ite (ec ea eb : Env → Sto → Res W) (ρ : Env) (S : Sto) : tst (fun ρ S => (ec ρ S).bind fun x S => testD x S fun t => if t = true then ea ρ S else eb ρ S) ρ S = (ec ρ S).bind fun x S => testD x S fun t => if t = true then tst ea ρ S else tst eb ρ S := by
  show ((ec ρ S).bind _).bind _ = _
  rw [Res.bind_assoc]
  congr 1
  funext x S
  rw [testD_bind]
  congr 1
  funext t
  split <;> rfl
theorem tAnd_of {σ : L2.St} {H : Hp} {Q : Bool → Hp → Prop} (h : semT g E (tst (andE ea eb)) σ H Q) : tAnd (semT g E (tst ea)) (semT g E (tst eb)) σ H Q := by
  obtain ⟨θ, ρ, S, eo, rs, q⟩ := h
  rw [tst_and] at q
  refine ⟨θ, ρ, S, eo, rs, (tst_of q).mono fun t S1 θ1 H1 st1 rs1 c1 => ?_⟩
  dsimp only at c1 ⊢
  split at c1
  · rename_i ht; rw [if_pos ht]; exact ⟨θ1, ρ, S1, eo.step st1, rs1, c1⟩
  · rename_i ht; rw [if_neg ht]; exact c1 θ1 H1 Step.refl rs1
theorem tOr_of {σ : L2.St} {H : Hp} {Q : Bool → Hp → Prop} (h : semT g E (tst (orE ea eb)) σ H Q) : tOr (semT g E (tst ea)) (semT g E (tst eb)) σ H Q := by
  obtain ⟨θ, ρ, S, eo, rs, q⟩ := h
  rw [tst_or] at q
  refine ⟨θ, ρ, S, eo, rs, (tst_of q).mono fun t S1 θ1 H1 st1 rs1 c1 => ?_⟩
  dsimp only at c1 ⊢
  split at c1
  · rename_i ht; rw [if_pos ht]; exact c1 θ1 H1 Step.refl rs1
  · rename_i ht; rw [if_neg ht]; exact ⟨θ1, ρ, S1, eo.step st1, rs1, c1⟩
theorem tNot_of {σ : L2.St} {H : Hp} {Q : Bool → Hp → Prop} (h : semT g E (tst (notE ea)) σ H Q) : tNot (semT g E (tst ea)) σ H Q := by
  obtain ⟨θ, ρ, S, eo, rs, q⟩ := h
  rw [tst_not] at q
  exact ⟨θ, ρ, S, eo, rs, (tst_of (f := fun t S => .ok (!t) S) q).mono fun t S1 θ1 H1 st1 rs1 c1 => c1 θ1 H1 Step.refl rs1⟩
/-- a test by a test -/
theorem pt_ite (hc : PT X c (semT g E (tst ec))) (ha : PT X a (semT g E (tst ea))) (hb : PT X b (semT g E (tst eb))) :
    PT X (.IfExp c a b pos) (semT g E (tst fun ρ S => (ec ρ S).bind fun x S => testD x S fun t => if t = true then ea ρ S else eb ρ S)) := by
  refine ⟨fun pins s σ H Q I h => ?_⟩
  obtain ⟨θ, ρ, S, eo, rs, q⟩ := h
  rw [tst_ite] at q
  have h2 : semT g E (tst ec) σ H fun t H1 => if t = true then semT g E (tst ea) σ H1 Q else semT g E (tst eb) σ H1 Q := by
    refine ⟨θ, ρ, S, eo, rs, (tst_of q).mono fun t S1 θ1 H1 st1 rs1 c1 => ?_⟩
    dsimp only at c1 ⊢
    split at c1
    · rename_i ht; rw [if_pos ht]; exact ⟨θ1, ρ, S1, eo.step st1, rs1, c1⟩
    · rename_i ht; rw [if_neg ht]; exact ⟨θ1, ρ, S1, eo.step st1, rs1, c1⟩
  show wpAny _ X.A (do if ← isTrue c X.env (eval c X.env) then isTrue a X.env (eval a X.env) else isTrue b X.env (eval b X.env)) _ _ _
  refine wpAny_bind (thn (hc.run pins s σ H _ I h2) fun t s1 ⟨H1, I1, q1⟩ => ?_)
  cases t with
  | true => exact ha.run pins s1 σ H1 Q I1 q1
  | false => exact hb.run pins s1 σ H1 Q I1 q1
end
end PyI

set_option maxRecDepth 100000
set_option maxHeartbeats 1000000
/-! PyI: forms with arguments. -/
namespace PyI
open PySem PySem.Spec PyProof.Rows L2

structure CtxE (X : Cx) (g : Gd) (T : Tb) (c : Cb2) (E : XK) (sc : Scope) : Prop where
  K : X.K = g.K
  calm : X.calm = true
  nd : X.N.Nodup
  hu : X.A.units + 70 < cLine
  loc : ∀ x, visB sc x = true → Vis X.env.scope x
  wr : ∀ x, locB sc x = true → Loc X.env.scope x ∧ (X.fn x = true ∨ X.env.scope.names.lookup x = some .local)
  glo : ∀ x, gloB sc x = true → Gl X x
  kf : X.env.scope.kind = .function
  exa : ∀ x k, k ≠ .free → sc.names.lookup x = some k → X.env.scope.names.lookup x = some k
  own : PassesOwn (model X.prog X.w) X.A X.env X.xe
  cel : ∀ x, (sc.names.lookup x = some .cell ∨ sc.names.lookup x = some .free) → X.env.scope.names.lookup x = some .cell ∨ X.env.scope.names.lookup x = some .free
  nm : g.nm = T.mthN
  ini : c.ini = T.ini
  pass : Passes (L2.CX X.prog X.w) X E
  fn : ∀ n x, T.fnN n = some x → ∃ k f fd ps, X.mg x = some (.ref f) ∧ PySem.W.keepIn X.K (.ref f) = true ∧ FnOk X.prog X.w X.K X.mg X.base (L2.CX X.prog X.w) k f fd ps (spC g c.cb n) ∧ Room k X.A ∧ Binds X.K fd ps []
  meth : ∀ m C n, T.dis m C = some n → ∃ k f fd ps, Cls X.K (g.ca C) ∧ Meth X.K (g.ca C) (T.mthN m) f ∧ FnOk X.prog X.w X.K X.mg X.base (L2.CX X.prog X.w) k f fd ps (spC g c.cb n) ∧ Room k X.A ∧ Binds X.K fd ps []
  make : ∀ C x, T.clN C = some x → ∃ n k f fd ps, T.ini C = some n ∧ X.mg x = some (.ref (g.ca C)) ∧ Mk X.K (g.ca C) f ∧ FnOk X.prog X.w X.K X.mg X.base (L2.CX X.prog X.w) k f fd ps (spC g c.ci n) ∧ Room (k + 1) X.A ∧ Binds X.K fd ps []
  attr : ∀ C f, T.fok C f = true → Cls X.K (g.ca C) ∧ NoAttr X.K (g.ca C) (T.mthN f)
  blt : ∀ x, T.free x = true → X.mg x = none
  glbs : ∀ x d, T.glb x d = true → ∃ u v, X.mg x = some u ∧ RelV v u ∧ ∀ θ H, HasD g.K θ H d v

section
variable {X : Cx} {g : Gd} {E : XK} {e a b c o : Expr} {es : List Expr} {pos : Pos} {ea eb ec : Env → Sto → Res W} {ed : Env → Sto → Res (List D)} {ew : Env → Sto → Res (List W)}
/-! ### argument lists -/
theorem dsnil_ok : PA X [] (semDs g E fun _ S => .ok [] S) := PAw pa_nil fun σ H Q ⟨θ, ρ, S, eo, rs, q⟩ => q θ H Step.refl rs [] HasDs.nil
theorem dscons_ok (hs : notStar e = true) (h : PE X e (semE g E ea)) (hr : PA X es (semDs g E ed)) :
    PA X (e :: es) (semDs g E fun ρ S => (ea ρ S).al.bind fun d S => (ed ρ S).bind fun ds S => .ok (d :: ds) S) :=
  PAw (pa_cons h hr (star_one hs)) fun σ H Q ⟨θ, ρ, S, eo, rs, q⟩ => by
    refine ⟨θ, ρ, S, eo, rs, q.bind.al.mono fun w S1 θ1 H1 st1 rs1 c1 x hx => ?_⟩
    obtain ⟨d, S2, θ2, st2, rs2, hd, c2⟩ := c1 x hx
    refine ⟨θ2, ρ, S2, eo.step st2, rs2, c2.bind.mono fun ds S3 θ3 H3 st3 rs3 c3 vs hv => ?_⟩
    exact c3 θ3 H3 Step.refl rs3 (x :: vs) (HasDs.cons (hd.step st3) hv)
theorem wsnil_ok : PA X [] (semWs g E fun _ S => .ok [] S) := PAw pa_nil fun σ H Q ⟨θ, ρ, S, eo, rs, q⟩ => q θ H Step.refl rs [] .nil
theorem wscons_ok (hs : notStar e = true) (h : PE X e (semE g E ea)) (hr : PA X es (semWs g E ew)) :
    PA X (e :: es) (semWs g E fun ρ S => (ea ρ S).bind fun d S => (ew ρ S).bind fun ds S => .ok (d :: ds) S) :=
  PAw (pa_cons h hr (star_one hs)) fun σ H Q ⟨θ, ρ, S, eo, rs, q⟩ => by
    refine ⟨θ, ρ, S, eo, rs, q.bind.mono fun w S1 θ1 H1 st1 rs1 c1 x hx => ?_⟩
    refine ⟨θ1, ρ, S1, eo.step st1, rs1, c1.bind.mono fun ws S3 θ3 H3 st3 rs3 c3 vs hv => ?_⟩
    exact c3 θ3 H3 Step.refl rs3 (x :: vs) (.cons (hx.step st3) (hv.earlyW st1 rs1))
theorem tup_ok {k : Nat} (h : PA X es (semDs g E ed)) : PE X (.Tuple es k pos) (semE g E fun ρ S => (ed ρ S).bind fun ds S => if ds.length ≤ LINE then .ok (.d (.tup ds)) S else .bad) :=
  PEw (pe_tup h) fun σ H Q ⟨θ, ρ, S, eo, rs, q⟩ => by
    refine ⟨θ, ρ, S, eo, rs, q.bind.mono fun ds S1 θ1 H1 st1 rs1 c1 vs hv => ?_⟩
    split at c1
    · rename_i hl
      refine ⟨line_le (by rw [← hv.length]; exact hl), fun p hp => ?_⟩
      exact c1 θ1 _ (Step.new hp) (rs1.new hp) _ (hasNewT hp hv : HasW g H1 θ1 _ _ _)
    · exact c1.elim
theorem lst_ok (h : PA X es (semDs g E ed)) : PE X (.List es pos) (semE g E fun ρ S => (ed ρ S).bind fun ds S => if ds.length ≤ LINE then .ok (.o (.lst ds)) S else .bad) :=
  PEw (pe_lst h) fun σ H Q ⟨θ, ρ, S, eo, rs, q⟩ => by
    refine ⟨θ, ρ, S, eo, rs, q.bind.mono fun ds S1 θ1 H1 st1 rs1 c1 vs hv => ?_⟩
    split at c1
    · rename_i hl
      refine ⟨line_le (by rw [← hv.length]; exact hl), fun p hp => ?_⟩
      exact c1 θ1 _ (Step.new hp) (rs1.new hp) _ ((hasNewL rs1 hp hv).early st1 rs1)
    · exact c1.elim
theorem dnewK_ok : PE X (.Dict [] [] pos) (semE g E fun _ S => .ok (.o (.dK [])) S) := PEw pe_dnewK fun σ H Q ⟨θ, ρ, S, eo, rs, q⟩ p hp =>
  q θ _ (Step.new hp) (rs.new hp) _ ⟨p, _, rfl, upd_same, rs.new_notin hp, ⟨[], rfl, .nil⟩, hp⟩
theorem dnewT_ok : PE X (.Dict [] [] pos) (semE g E fun _ S => .ok (.o (.dT [])) S) := PEw pe_dnewT fun σ H Q ⟨θ, ρ, S, eo, rs, q⟩ p hp =>
  q θ _ (Step.new hp) (rs.new hp) _ ⟨p, _, rfl, upd_same, rs.new_notin hp, ⟨[], rfl, .nil⟩, hp⟩
/-! ### slices -/
theorem ono_ok : PO X none (semO g E fun _ S => .ok none S) := POw po_none fun σ H Q ⟨θ, ρ, S, eo, rs, q⟩ => q θ H Step.refl rs
theorem oya_ok (h : PE X e (semE g E ea)) : PO X (some e) (semO g E fun ρ S => (ea ρ S).bind fun x S => (match x with
    | .d (.int i) => .ok (some i) S
    | _ => .bad)) := POw (po_some h) fun σ H Q ⟨θ, ρ, S, eo, rs, q⟩ => by
  refine ⟨θ, ρ, S, eo, rs, q.bind.mono fun wx S1 θ1 H1 st1 rs1 c1 x hx => ?_⟩
  dsimp only at c1
  split at c1
  · rename_i i
    exact ⟨i, int_of hx, c1 θ1 H1 Step.refl rs1⟩
  · exact c1.elim
theorem slc_ok {lo hi : Option Expr} {p2 : Pos} {el eh : Env → Sto → Res (Option Int)} (hK : X.K = g.K) (h : PE X a (semE g E ea)) (hl : PO X lo (semO g E el)) (hh : PO X hi (semO g E eh)) :
    PE X (.Subscript a (.Slice lo hi none p2) pos) (semE g E fun ρ S => (ea ρ S).bind fun x S => (el ρ S).bind fun l S => (eh ρ S).bind fun h S => PyI.opt (slcW x l h S) S) :=
  PEw (pe_slice (sl_W hK) h hl hh) fun σ H Q ⟨θ, ρ, S, eo, rs, q⟩ => by
    refine ⟨θ, ρ, S, eo, rs, q.bind.mono fun wx S1 θ1 H1 st1 rs1 c1 x hx => ?_⟩
    refine ⟨θ1, ρ, S1, eo.step st1, rs1, c1.bind.mono fun l S2 θ2 H2 st2 rs2 c2 => ?_⟩
    refine ⟨θ2, ρ, S2, (eo.step st1).step st2, rs2, c2.bind.mono fun u S3 θ3 H3 st3 rs3 c3 => ?_⟩
    obtain ⟨w, ew, q⟩ := c3.opt'
    exact ⟨θ3, S3, wx, w, H, rs3, hx.step (st2.trans st3), ew, fun v H4 st4 rs4 hv => q θ3 H4 st4 rs4 v (hv.early ((st1.trans st2).trans st3) rs3)⟩
/-! ### chains -/
theorem chain_ok {o o' : Cop} (hK : X.K = g.K) (hu : X.A.units + 70 < cLine) (ha : PE X a (semE g E ea)) (hb : PE X b (semE g E eb)) (hc : PE X c (semE g E ec)) :
    ∀ σ H Q, semE g E (fun ρ S => (ea ρ S).bind fun x S => (eb ρ S).bind fun y S => (match cmpW o x y S with
    | some true => (ec ρ S).bind fun z S => PyI.opt ((cmpW o' y z S).map fun b => .d (.bl b)) S
    | some false => .ok (.d (.bl false)) S
    | none => .bad)) σ H Q → tChain (rW g (cW (cmpW o))) (rW g (cW (cmpW o'))) (semE g E ea) (semE g E eb) (semE g E ec) σ H Q := by
  rintro σ H Q ⟨θ, ρ, S, eo, rs, q⟩
  refine ⟨θ, ρ, S, eo, rs, q.bind.mono fun wx S1 θ1 H1 st1 rs1 c1 x hx => ?_⟩
  refine ⟨θ1, ρ, S1, eo.step st1, rs1, c1.bind.mono fun wy S2 θ2 H2 st2 rs2 c2 y hy => ?_⟩
  have hy0 := hy.early st1 rs1
  dsimp only at c2
  split at c2
  · rename_i em
    refine ⟨θ2, S2, wx, wy, .d (.bl true), H, rs2, hx.step st2, hy0, by simp [cW, em], fun v H3 st3 rs3 hv => ⟨true, bl_of hv, ?_⟩⟩
    rw [if_pos rfl]
    have st := (st1.trans st2).trans st3
    refine ⟨θ2, ρ, S2, eo.step st, rs3, (CaseR.from st3 c2).bind.mono fun wz S4 θ4 H4 st4 rs4 c4 z hz => ?_⟩
    obtain ⟨w, ew, q⟩ := c4.opt'
    exact ⟨θ4, S4, wy, wz, w, H, rs4, hy0.step (st3.trans st4), hz.early st rs3, ew, fun v H5 st5 rs5 hv => q θ4 H5 st5 rs5 v (hv.early (st.trans st4) rs4)⟩
  · rename_i em
    refine ⟨θ2, S2, wx, wy, .d (.bl false), H, rs2, hx.step st2, hy0, by simp [cW, em], fun v H3 st3 rs3 hv => ⟨false, bl_of hv, ?_⟩⟩
    exact c2 θ2 H3 st3 rs3 _ has_bl
  · exact c2.elim
end
end PyI

set_option maxRecDepth 100000
set_option maxHeartbeats 1000000
/-! PyI: calls, attributes. -/
namespace PyI
open PySem PySem.Spec PyProof.Rows L2
section
variable {g : Gd} {θ : List Addr} {H : Hp}
theorem fs_none : ∀ {fs : List (Nat × D)} {fs' : List (Str × V)} {f : Nat}, RelF g θ H fs fs' → fs.lookup f = none → fs'.lookup (g.nm f) = none
  | _, _, _, .nil, _ => rfl
  | (k, d) :: r, (x, v) :: r', f, .cons h t, e => by
    have h1 : x = g.nm k := h.1
    by_cases z : f = k
    · subst z; simp at e
    · have b1 : (f == k) = false := by simpa using z
      have b2 : (g.nm f == x) = false := by
        rw [h1]
        exact beq_eq_false_iff_ne.mpr fun w => z (g.inj _ _ w)
      rw [List.lookup_cons, b1] at e
      rw [List.lookup_cons, b2]
      exact fs_none t e
theorem fs_some : ∀ {fs : List (Nat × D)} {fs' : List (Str × V)} {f : Nat} {d : D}, RelF g θ H fs fs' → fs.lookup f = some d → ∃ v, fs'.lookup (g.nm f) = some v ∧ HasD g.K θ H d v
  | _, _, _, _, .nil, e => by cases e
  | (k, d) :: r, (x, v) :: r', f, y, .cons h t, e => by
    have h1 : x = g.nm k := h.1
    by_cases z : f = k
    · subst z
      rw [List.lookup_cons, beq_self_eq_true] at e
      cases e
      refine ⟨v, ?_, h.2⟩
      rw [List.lookup_cons, h1, beq_self_eq_true]
    · have b1 : (f == k) = false := by simpa using z
      have b2 : (g.nm f == x) = false := by
        rw [h1]
        exact beq_eq_false_iff_ne.mpr fun w => z (g.inj _ _ w)
      rw [List.lookup_cons, b1] at e
      rw [List.lookup_cons, b2]
      exact fs_some t e
theorem ins_of {S : Sto} {n C : Nat} {fs : List (Nat × D)} {v : V} (rs : RelS g θ H S) (hv : HasD g.K θ H (.ref n) v) (e : S[n]? = some (.ins C fs)) : ∃ a dx fs', v = .ref a ∧ θ[n]? = some a ∧ H a = some (.ins (g.ca C) dx fs') ∧ RelF g θ H fs fs' := by
  obtain ⟨a, ea, rfl⟩ := HasD.ref_iff.mp hv
  obtain ⟨b, ho, e1, e2, dx, fs', rfl, r⟩ := rs.at_ n _ e
  rw [ea] at e1
  cases e1
  exact ⟨a, dx, fs', rfl, ea, e2, r⟩
end
section
variable {X : Cx} {g : Gd} {T : Tb} {c : Cb2} {sc : Scope} {E : XK} {e a b o : Expr} {es : List Expr} {pos p : Pos} {ea eb ec : Env → Sto → Res W} {ed : Env → Sto → Res (List D)} {ew : Env → Sto → Res (List W)}
theorem plainN_db {x : Str} (h : plainN x = true) : (x == ("__debug__" : Str)) = false ∧ x ≠ "__classdict__" ∧ x ≠ "__name__" := by
  unfold plainN at h
  simp only [Bool.and_eq_true, Bool.not_eq_true'] at h
  exact ⟨h.1, beq_eq_false_iff_ne.mp h.2.1, beq_eq_false_iff_ne.mp h.2.2⟩
theorem fld_ok {f : Nat} {cs : List Nat} (C : CtxE X g T c E sc) (hb : noSuper a = true) (hc : cs.all (fun C => T.fok C f) = true) (ha : PE X a (semE g E ea)) :
    PE X (.Attribute a (T.mthN f) pos) (semE g E fun ρ S => (ea ρ S).al.bind fun x S => PyI.opt ((getF x f cs S).map W.d) S) :=
  PEw (pe_fld ha (base_of hb)) fun σ H Q ⟨θ, ρ, S, eo, rs, q⟩ => by
    refine ⟨θ, ρ, S, eo, rs, q.bind.al.mono fun w S1 θ1 H1 st1 rs1 c1 x hx => ?_⟩
    obtain ⟨d, S2, θ2, st2, rs2, hd, c2⟩ := c1 x hx
    obtain ⟨w2, ew, q⟩ := c2.opt'
    unfold getF at ew
    split at ew
    · rename_i n
      split at ew
      · rename_i C' fs he
        split at ew
        · rename_i hm
          cases ef : fs.lookup f with
          | none => rw [ef] at ew; cases ew
          | some d =>
            rw [ef] at ew
            cases ew
            obtain ⟨a', dx, fs', rfl, _, e2, r⟩ := ins_of rs2 hd he
            obtain ⟨v, e3, hv⟩ := fs_some r ef
            have hk := C.attr C' f (List.all_eq_true.mp hc C' (by simpa using hm))
            refine ⟨a', g.ca C', dx, fs', v, rfl, e2, by rw [C.K]; exact C.K ▸ hk.1, by rw [C.K]; exact C.K ▸ hk.2, ?_, q θ2 H1 Step.refl rs2 v hv⟩
            rw [← C.nm]
            exact e3
        · cases ew
      · cases ew
    · cases ew
/-! ### calls -/
theorem look_mem {β : Type} {a : Nat} {b : β} : ∀ {l : List (Nat × β)}, l.lookup a = some b → (a, b) ∈ l
  | [], h => by cases h
  | (k, y) :: r, h => by
    by_cases z : a = k
    · subst z
      rw [List.lookup_cons, beq_self_eq_true] at h
      cases h
      exact List.mem_cons_self
    · rw [List.lookup_cons, show (a == k) = false by simpa using z] at h
      exact List.mem_cons_of_mem _ (look_mem h)
theorem nil_of {σ : L2.St} {H : Hp} {Q : List V → Hp → Prop} (h : semDs g E (fun _ S => .ok [] S) σ H Q) : Q [] H := by
  obtain ⟨θ, ρ, S, eo, rs, q⟩ := h
  exact q θ H Step.refl rs [] HasDs.nil
theorem cw_ok {f : Value} {first : List Value} {pins : List (Addr × Obj)} {s : Shared} {σ : L2.St} {H : Hp} {Q : Value → Shared → Prop} {k : List V → Hp → Prop} (hk : PySem.W.keepIn X.K f = true) (hs : noStars es = true) (ha : PA X es (semDs g E ed)) (hn : es = [] → ed = fun _ S => .ok [] S)
    (I : Inv X pins σ H s) (h : semDs g E ed σ H k) (hq : ∀ vs H1 s1 us, k vs H1 → Inv X pins σ H1 s1 → Vals vs us → wpAny (model X.prog X.w) X.A (call f (first ++ us)) Q X.xe s1) :
    wpAny (model X.prog X.w) X.A (callWith pos f first (backTo pos (starEach es X.env)) (backToKw pos (keywordEach [] X.env))) Q X.xe s := by
  cases es with
  | nil =>
    have e := hn rfl
    subst e
    exact PySem.W.callWith_K0 I.kIn hk (hq [] H s [] (nil_of h) I .nil)
  | cons e es =>
    have hs1 : notStar e = true ∧ noStars es = true := by simpa [noStars] using hs
    exact PySem.W.callWith_K (h₀ := X.base) I.ok.mod.kin hk (thn (ha.run pos pins s σ H _ I h) fun us s1 ⟨vs, H1, I1, r, q⟩ => ⟨I1.kIn, hq vs H1 s1 us q I1 r⟩) (star_one hs1.1) (star_any hs1.2)
theorem call_ok {n : Nat} {x : Str} (C : CtxE X g T c E sc) (hx : gloB sc x = true) (hp : plainN x = true) (hs : noStars es = true) (hf : T.fnN n = some x) (ha : PA X es (semDs g E ed)) (hn : es = [] → ed = fun _ S => .ok [] S) :
    PE X (.Call (.Name x p) es [] pos) (semE g E fun ρ S => (ed ρ S).bind fun ds S => c.cb n ds S) := by
  obtain ⟨k, f, fd, ps, hm, hk, F, hr, hb⟩ := C.fn n x hf
  refine ⟨fun pins s σ H Q I h => ?_⟩
  refine wpAny_Call_Name_kw (ld_glob I (C.glo x hx) hm ?_ (plainN_db hp).1)
  obtain ⟨θ, ρ, S, eo, rs, q⟩ := h
  refine cw_ok (first := []) (k := fun vs H1 => spC g c.cb n vs H1 Q E) hk hs ha hn I ⟨θ, ρ, S, eo, rs, q.bind.mono fun ds S1 θ1 H1 st1 rs1 c1 vs hv => ?_⟩ fun vs H1 s1 us hq I1 r => ?_
  · exact ⟨θ1, S1, ds, hv, rs1, c1.mono fun w S' θ' H' st rs' h v hw => h v (hw.early st1 rs1)⟩
  · exact run_fn (dvs := []) (ds := []) F hr hb .nil C.pass I1 r (by rw [List.append_nil]; exact hq)
theorem form_of (hs : noStars es = true) (hl : decide (es.length < 29) = true) (env : PySem.Env) : methodCallForm (es.length + ([] : List Keyword).length) (backTo pos (starEach es env)) (backToKw pos (keywordEach [] env)) = true := by
  have h1 : (backTo pos (starEach es env)).any (·.1) = false := star_any hs
  unfold methodCallForm
  have h2 : (backTo pos (starEach es env)).all (!·.1) = true := by
    rw [List.all_eq_not_any_not]
    simp only [Bool.not_not]
    rw [h1]
    rfl
  have h3 : es.length < 29 := of_decide_eq_true hl
  rw [h2]
  show (true && true && decide (es.length + 0 + 0 < 30)) = true
  simp only [Bool.true_and, decide_eq_true_eq]
  omega
theorem meth_ok {m : Nat} {ap : Pos} {dis : List (Nat × Nat)} (C : CtxE X g T c E sc) (hb : noSuper o = true) (hl : line1 ap pos = true) (hs : noStars es = true) (hlen : decide (es.length < 29) = true)
    (hd : dis.all (fun q => (match T.dis m q.1 with
        | some f => f == q.2
        | none => false)) = true) (ho : PE X o (semE g E ea)) (ha : PA X es (semDs g E ed)) (hn : es = [] → ed = fun _ S => .ok [] S) :
    PE X (.Call (.Attribute o (T.mthN m) ap) es [] pos) (semE g E fun ρ S => (ea ρ S).al.bind fun x S => (match x with
    | .ref n => (match S[n]? with
      | some (.ins C fs) => (match if (fs.lookup m).isNone then dis.lookup C else none with
        | some f => (ed ρ S).bind fun ds S => c.cb f (.ref n :: ds) S
        | none => .bad)
      | _ => .bad)
    | _ => .bad)) := by
  refine ⟨fun pins s σ H Q I h => ?_⟩
  obtain ⟨θ, ρ, S, eo, rs, q⟩ := h
  refine methcall_of (pl := plainOf o X.env) ho I ⟨θ, ρ, S, eo, rs, q.bind.al.mono fun w S1 θ1 H1 st1 rs1 c1 x hx => ?_⟩ ?_
  · obtain ⟨d, S2, θ2, st2, rs2, hdd, c2⟩ := c1 x hx
    dsimp only at c2
    split at c2
    · rename_i n
      split at c2
      · rename_i C' fs he
        split at c2
        · rename_i fn hfn
          split at hfn
          · rename_i hno
            have hno' : fs.lookup m = none := by simpa using hno
            obtain ⟨a', dx, fs', rfl, ean, e2, r⟩ := ins_of rs2 hdd he
            have hmem : (C', fn) ∈ dis := look_mem hfn
            have hq := List.all_eq_true.mp hd _ hmem
            have hdis : T.dis m C' = some fn := by
              dsimp only at hq
              split at hq
              · rename_i f' hf'; rw [hf', show f' = fn from eq_of_beq hq]
              · cases hq
            obtain ⟨k, f, fd, ps, hcl, hme, F, hr, hbb⟩ := C.meth m C' fn hdis
            refine ⟨a', g.ca C', dx, fs', f, rfl, e2, hcl, hme, by rw [← C.nm]; exact fs_none r hno', fun s1 I1 => ?_⟩
            refine cw_ok (first := [.ref a']) (k := fun vs H2 => spC g c.cb fn (.ref a' :: vs) H2 Q E) hme.kp hs ha hn I1 ⟨θ2, ρ, S2, eo.step st2, rs2, c2.bind.mono fun ds S3 θ3 H3 st3 rs3 c3 vs hv => ?_⟩ fun vs H2 s2 us hq I2 rv => ?_
            · exact ⟨θ3, S3, _, HasDs.cons (hdd.step st3) hv, rs3, c3.mono fun w S' θ' H' st' rs' h v hw => h v ((hw.early st3 rs3).early st2 rs2)⟩
            · exact run_fn (dvs := []) (ds := []) (us := .ref a' :: us) (vs := .ref a' :: vs) F hr hbb .nil C.pass I2 (.cons rfl rv) (by rw [List.append_nil]; exact hq)
          · cases hfn
        · exact c2.elim
      · exact c2.elim
    · exact c2.elim
  · exact mcall_of (base_of hb) fun ov => mcall_line (form_of hs hlen X.env) hl
end
end PyI

set_option maxRecDepth 100000
set_option maxHeartbeats 1000000
/-! PyI: what is walked. -/
namespace PyI
open PySem PySem.Spec PyProof.Rows L2
/-- an iterator that goes through k's items, as long as its lists stay -/
structure WkOk (g : Gd) (θ : List Addr) (H : Hp) (k : Wk) (J : It) : Prop where
  stop : ∀ θ' H' S' i, Step g.K θ H θ' H' → RelS g θ' H' S' → k.stays S' = true → k.items[i]? = none → J.stop i H'
  go : ∀ θ' H' S' i d, Step g.K θ H θ' H' → RelS g θ' H' S' → k.stays S' = true → k.items[i]? = some d → J.go i H'
  yld : ∀ θ' H' S' i d x H'', Step g.K θ H θ' H' → RelS g θ' H' S' → k.stays S' = true → k.items[i]? = some d → J.yld i H' x H'' → Step g.K θ' H' θ' H'' ∧ RelS g θ' H'' S' ∧ HasD g.K θ' H'' d x
def semI (g : Gd) (E : XK) (ev : Env → Sto → Res Wk) : TI := fun σ H R => semR g E ev (fun _ k _ θ' H' => ∀ J, WkOk g θ' H' k J → R J H') σ H
section
variable {g : Gd} {θ θ1 : List Addr} {H H1 H₀ : Hp} {S : Sto}
theorem HasDs.none : ∀ {ds : List D} {vs : List V} {i : Nat} {K : PySem.W.Frag}, HasDs K θ H ds vs → ds[i]? = none → vs.length ≤ i := fun h e => by
  rw [← h.length]
  exact List.getElem?_eq_none_iff.mp e
/-- a list that is walked: where it stands later -/
theorem lsrc_ok {w : W} {x : V} {p : List D × List (Nat × List D)} (rs : RelS g θ H S) (h : HasW g H₀ θ H w x) (e : lsrc w S = some p) :
    ∃ a, x = .ref a ∧ ∀ θ' H' S', Step g.K θ H θ' H' → RelS g θ' H' S' → p.2.all (fun q => stayB S' q) = true → ∃ xs, SqL g.K H' a xs ∧ HasDs g.K θ' H' p.1 xs := by
  cases w with
  | o ob =>
    cases ob with
    | lst l =>
      cases e
      obtain ⟨a, ho, ex, _⟩ := id h
      refine ⟨a, ex, fun θ' H' S' st rs' _ => ?_⟩
      obtain ⟨a', ho', ex', e1, _, q, _⟩ := h.step st
      rw [ex] at ex'
      cases ex'
      obtain ⟨vs, rfl, hv⟩ := q
      exact ⟨vs, .inl (.inl e1), hv⟩
    | _ => cases e
  | d y =>
    cases y with
    | ref n =>
      unfold lsrc at e
      dsimp only at e
      split at e
      · rename_i l hl
        cases e
        obtain ⟨a, ea, ex⟩ := HasD.ref_iff.mp (HasW.dd h)
        refine ⟨a, ex, fun θ' H' S' st rs' hs => ?_⟩
        have hs' : stayB S' (n, l) = true := by simpa using hs
        unfold stayB at hs'
        dsimp only at hs'
        split at hs'
        · rename_i l' hl'
          have el : l' = l := of_decide_eq_true hs'
          subst el
          obtain ⟨b, ho, e1, e2, vs, rfl, hv⟩ := rs'.at_ n _ hl'
          rw [st.pre n a ea] at e1
          cases e1
          exact ⟨vs, .inl (.inl e2), hv⟩
        · cases hs'
      · cases e
    | rol t l =>
      cases t with
      | true => cases e
      | false =>
        cases e
        obtain ⟨a, vs, ex, _⟩ := HasD.rol_iff.mp h
        refine ⟨a, ex, fun θ' H' S' st rs' _ => ?_⟩
        obtain ⟨a', vs', ex', hf, hv⟩ := HasD.rol_iff.mp (HasD.step st h)
        rw [ex] at ex'
        cases ex'
        exact ⟨vs', hf.sq, hv⟩
    | _ => cases e
theorem tsrc_ok {w : W} {x : V} {l : List D} (h : HasW g H₀ θ H w x) (e : tupOf w = some l) :
    ∃ a, x = .ref a ∧ ∀ θ' H', Step g.K θ H θ' H' → ∃ xs, SqT g.K H' a xs ∧ HasDs g.K θ' H' l xs := by
  obtain ⟨a, vs, ex, _, _, y, rfl⟩ := tupOf_ok h e
  refine ⟨a, ex, fun θ' H' st => ?_⟩
  obtain ⟨a', vs', ex', hq, hv, _⟩ := tupOf_ok (HasW.step st h) e
  rw [ex] at ex'
  cases ex'
  exact ⟨vs', hq, hv⟩
theorem wk_list {a : Addr} {k : Wk} (h : ∀ θ' H' S', Step g.K θ H θ' H' → RelS g θ' H' S' → k.stays S' = true → ∃ xs, SqL g.K H' a xs ∧ HasDs g.K θ' H' k.items xs) : WkOk g θ H k (Itl g.K a) where
  stop := fun θ' H' S' i st rs hs e => by
    obtain ⟨xs, hq, hv⟩ := h θ' H' S' st rs hs
    exact ⟨xs, hq, HasDs.none hv e⟩
  go := fun θ' H' S' i d st rs hs e => by
    obtain ⟨xs, hq, hv⟩ := h θ' H' S' st rs hs
    obtain ⟨x, ex, _⟩ := hv.get e
    exact ⟨xs, x, hq, ex⟩
  yld := fun θ' H' S' i d x H'' st rs hs e y => by
    obtain ⟨xs, hq, hv⟩ := h θ' H' S' st rs hs
    obtain ⟨x', ex, hx⟩ := hv.get e
    obtain ⟨rfl, hy⟩ := y
    have := hy xs hq
    rw [ex] at this
    cases this
    exact ⟨Step.refl, rs, hx⟩
theorem wk_tup {a : Addr} {k : Wk} (h : ∀ θ' H', Step g.K θ H θ' H' → ∃ xs, SqT g.K H' a xs ∧ HasDs g.K θ' H' k.items xs) : WkOk g θ H k (Itt g.K a) where
  stop := fun θ' H' S' i st rs hs e => by
    obtain ⟨xs, hq, hv⟩ := h θ' H' st
    exact ⟨xs, hq, HasDs.none hv e⟩
  go := fun θ' H' S' i d st rs hs e => by
    obtain ⟨xs, hq, hv⟩ := h θ' H' st
    obtain ⟨x, ex, _⟩ := hv.get e
    exact ⟨xs, x, hq, ex⟩
  yld := fun θ' H' S' i d x H'' st rs hs e y => by
    obtain ⟨xs, hq, hv⟩ := h θ' H' st
    obtain ⟨x', ex, hx⟩ := hv.get e
    obtain ⟨rfl, hy⟩ := y
    have := hy xs hq
    rw [ex] at this
    cases this
    exact ⟨Step.refl, rs, hx⟩
theorem rev_get {α : Type} {l : List α} {i : Nat} {d : α} (e : l.reverse[i]? = some d) : i < l.length ∧ l[l.length - 1 - i]? = some d := by
  have hi : i < l.length := by
    have := (List.getElem?_eq_some_iff.mp e).1
    simpa using this
  exact ⟨hi, by rw [List.getElem?_reverse hi] at e; exact e⟩
theorem rev_none {α : Type} {l : List α} {i : Nat} (e : l.reverse[i]? = none) : l.length ≤ i := by
  have := List.getElem?_eq_none_iff.mp e
  simpa using this
theorem wk_revL {a : Addr} {l : List D} {t : List (Nat × List D)} (h : ∀ θ' H' S', Step g.K θ H θ' H' → RelS g θ' H' S' → t.all (fun q => stayB S' q) = true → ∃ xs, SqL g.K H' a xs ∧ HasDs g.K θ' H' l xs) : WkOk g θ H ⟨l.reverse, t⟩ (Itv g.K a l.length) where
  stop := fun θ' H' S' i st rs hs e => rev_none e
  go := fun θ' H' S' i d st rs hs e => by
    obtain ⟨xs, hq, hv⟩ := h θ' H' S' st rs hs
    obtain ⟨hi, e⟩ := rev_get e
    obtain ⟨x, ex, _⟩ := hv.get e
    exact ⟨hi, xs, x, hq, ex⟩
  yld := fun θ' H' S' i d x H'' st rs hs e y => by
    obtain ⟨xs, hq, hv⟩ := h θ' H' S' st rs hs
    obtain ⟨hi, e⟩ := rev_get e
    obtain ⟨x', ex, hx⟩ := hv.get e
    obtain ⟨rfl, hy⟩ := y
    have := hy xs hq
    rw [ex] at this
    cases this
    exact ⟨Step.refl, rs, hx⟩
theorem wk_revT {a : Addr} {l : List D} (h : ∀ θ' H', Step g.K θ H θ' H' → ∃ xs, SqT g.K H' a xs ∧ HasDs g.K θ' H' l xs) : WkOk g θ H ⟨l.reverse, []⟩ (RT.ItvT g.K a l.length) where
  stop := fun θ' H' S' i st rs hs e => rev_none e
  go := fun θ' H' S' i d st rs hs e => by
    obtain ⟨xs, hq, hv⟩ := h θ' H' st
    obtain ⟨hi, e⟩ := rev_get e
    obtain ⟨x, ex, _⟩ := hv.get e
    exact ⟨hi, xs, x, hq, ex⟩
  yld := fun θ' H' S' i d x H'' st rs hs e y => by
    obtain ⟨xs, hq, hv⟩ := h θ' H' st
    obtain ⟨hi, e⟩ := rev_get e
    obtain ⟨x', ex, hx⟩ := hv.get e
    obtain ⟨rfl, hy⟩ := y
    have := hy xs hq
    rw [ex] at this
    cases this
    exact ⟨Step.refl, rs, hx⟩
theorem enum_get {l : List D} {i : Nat} {d : D} (e : (enumL l)[i]? = some d) : ∃ y, l[i]? = some y ∧ d = .tup [.int (i : Nat), y] := by
  unfold enumL at e
  rw [List.getElem?_map, List.getElem?_zipIdx] at e
  cases h : l[i]? with
  | none => rw [h] at e; cases e
  | some y =>
    rw [h] at e
    refine ⟨y, rfl, ?_⟩
    have := Option.some.inj e
    rw [← this]
    simp
theorem enum_none {l : List D} {i : Nat} (e : (enumL l)[i]? = none) : l[i]? = none := by
  have := List.getElem?_eq_none_iff.mp e
  refine List.getElem?_eq_none_iff.mpr ?_
  unfold enumL at this
  simpa using this
theorem wk_enum {a : Addr} {l : List D} {t : List (Nat × List D)} (h : ∀ θ' H' S', Step g.K θ H θ' H' → RelS g θ' H' S' → t.all (fun q => stayB S' q) = true → ∃ xs, SqL g.K H' a xs ∧ HasDs g.K θ' H' l xs) : WkOk g θ H ⟨enumL l, t⟩ (Ite g.K a) where
  stop := fun θ' H' S' i st rs hs e => by
    obtain ⟨xs, hq, hv⟩ := h θ' H' S' st rs hs
    exact ⟨xs, hq, HasDs.none hv (enum_none e)⟩
  go := fun θ' H' S' i d st rs hs e => by
    obtain ⟨xs, hq, hv⟩ := h θ' H' S' st rs hs
    obtain ⟨y, ey, _⟩ := enum_get e
    obtain ⟨x, ex, _⟩ := hv.get ey
    exact ⟨xs, x, hq, ex⟩
  yld := fun θ' H' S' i d x H'' st rs hs e y => by
    obtain ⟨xs, hq, hv⟩ := h θ' H' S' st rs hs
    obtain ⟨z, ez, rfl⟩ := enum_get e
    obtain ⟨x', ex, hx⟩ := hv.get ez
    obtain ⟨T, x2, rfl, hT, rfl, hy⟩ := y
    have := hy xs hq
    rw [ex] at this
    cases this
    exact ⟨Step.new hT, rs.new hT, hasNewT hT (HasDs.cons (HasD.int_iff.mpr rfl) (HasDs.cons hx HasDs.nil))⟩
theorem zip_get {l m : List D} {i : Nat} {d : D} (e : (zipL l m)[i]? = some d) : ∃ y z, l[i]? = some y ∧ m[i]? = some z ∧ d = .tup [y, z] := by
  unfold zipL at e
  rw [List.getElem?_map] at e
  cases h : (l.zip m)[i]? with
  | none => rw [h] at e; cases e
  | some p =>
    rw [h] at e
    obtain ⟨h1, h2⟩ := List.getElem?_zip_eq_some.mp h
    exact ⟨p.1, p.2, h1, h2, (Option.some.inj e).symm⟩
theorem zip_none {l m : List D} {i : Nat} (e : (zipL l m)[i]? = none) : l[i]? = none ∨ m[i]? = none := by
  have := List.getElem?_eq_none_iff.mp e
  unfold zipL at this
  rw [List.length_map, List.length_zip] at this
  rcases Nat.le_total l.length m.length with q | q
  · left; exact List.getElem?_eq_none_iff.mpr (by omega)
  · right; exact List.getElem?_eq_none_iff.mpr (by omega)
theorem wk_zipL {a b : Addr} {l m : List D} {t u : List (Nat × List D)} (h : ∀ θ' H' S', Step g.K θ H θ' H' → RelS g θ' H' S' → t.all (fun q => stayB S' q) = true → ∃ xs, SqL g.K H' a xs ∧ HasDs g.K θ' H' l xs)
    (h2 : ∀ θ' H' S', Step g.K θ H θ' H' → RelS g θ' H' S' → u.all (fun q => stayB S' q) = true → ∃ xs, SqL g.K H' b xs ∧ HasDs g.K θ' H' m xs) : WkOk g θ H ⟨zipL l m, t ++ u⟩ (Itz g.K a b) := by
  have sp : ∀ {S' : Sto}, (Wk.stays ⟨zipL l m, t ++ u⟩ S') = true → t.all (fun q => stayB S' q) = true ∧ u.all (fun q => stayB S' q) = true := fun {S'} e => by
    unfold Wk.stays at e
    rw [List.all_append, Bool.and_eq_true] at e
    exact e
  refine ⟨fun θ' H' S' i st rs hs e => ?_, fun θ' H' S' i d st rs hs e => ?_, fun θ' H' S' i d x H'' st rs hs e y => ?_⟩
  · obtain ⟨xs, hq, hv⟩ := h θ' H' S' st rs (sp hs).1
    obtain ⟨ys, hq2, hv2⟩ := h2 θ' H' S' st rs (sp hs).2
    exact ⟨xs, ys, hq, hq2, (zip_none e).imp (HasDs.none hv) (HasDs.none hv2)⟩
  · obtain ⟨xs, hq, hv⟩ := h θ' H' S' st rs (sp hs).1
    obtain ⟨ys, hq2, hv2⟩ := h2 θ' H' S' st rs (sp hs).2
    obtain ⟨y, z, e1, e2, _⟩ := zip_get e
    obtain ⟨x, ex, _⟩ := hv.get e1
    obtain ⟨x', ex', _⟩ := hv2.get e2
    exact ⟨xs, ys, x, x', hq, hq2, ex, ex'⟩
  · obtain ⟨xs, hq, hv⟩ := h θ' H' S' st rs (sp hs).1
    obtain ⟨ys, hq2, hv2⟩ := h2 θ' H' S' st rs (sp hs).2
    obtain ⟨y', z, e1, e2, rfl⟩ := zip_get e
    obtain ⟨x1, ex, hx⟩ := hv.get e1
    obtain ⟨x2, ex', hx'⟩ := hv2.get e2
    obtain ⟨T, y1, y2, rfl, hT, rfl, k1, k2⟩ := y
    have a1 := k1 xs hq
    have a2 := k2 ys hq2
    rw [ex] at a1
    rw [ex'] at a2
    cases a1
    cases a2
    exact ⟨Step.new hT, rs.new hT, hasNewT hT (HasDs.cons hx (HasDs.cons hx' HasDs.nil))⟩
theorem wk_zipT {a b : Addr} {l m : List D} (h : ∀ θ' H', Step g.K θ H θ' H' → ∃ xs, SqT g.K H' a xs ∧ HasDs g.K θ' H' l xs)
    (h2 : ∀ θ' H', Step g.K θ H θ' H' → ∃ xs, SqT g.K H' b xs ∧ HasDs g.K θ' H' m xs) : WkOk g θ H ⟨zipL l m, []⟩ (RZ.ItzT g.K a b) := by
  refine ⟨fun θ' H' S' i st rs hs e => ?_, fun θ' H' S' i d st rs hs e => ?_, fun θ' H' S' i d x H'' st rs hs e y => ?_⟩
  · obtain ⟨xs, hq, hv⟩ := h θ' H' st
    obtain ⟨ys, hq2, hv2⟩ := h2 θ' H' st
    exact ⟨xs, ys, hq, hq2, (zip_none e).imp (HasDs.none hv) (HasDs.none hv2)⟩
  · obtain ⟨xs, hq, hv⟩ := h θ' H' st
    obtain ⟨ys, hq2, hv2⟩ := h2 θ' H' st
    obtain ⟨y, z, e1, e2, _⟩ := zip_get e
    obtain ⟨x, ex, _⟩ := hv.get e1
    obtain ⟨x', ex', _⟩ := hv2.get e2
    exact ⟨xs, ys, x, x', hq, hq2, ex, ex'⟩
  · obtain ⟨xs, hq, hv⟩ := h θ' H' st
    obtain ⟨ys, hq2, hv2⟩ := h2 θ' H' st
    obtain ⟨y', z, e1, e2, rfl⟩ := zip_get e
    obtain ⟨x1, ex, hx⟩ := hv.get e1
    obtain ⟨x2, ex', hx'⟩ := hv2.get e2
    obtain ⟨T, y1, y2, rfl, hT, rfl, k1, k2⟩ := y
    have a1 := k1 xs hq
    have a2 := k2 ys hq2
    rw [ex] at a1
    rw [ex'] at a2
    cases a1
    cases a2
    exact ⟨Step.new hT, rs.new hT, hasNewT hT (HasDs.cons hx (HasDs.cons hx' HasDs.nil))⟩
theorem wk_str {l : List Nat} : WkOk g θ H ⟨l.map fun c => D.str [c], []⟩ (Its ⟨l.toArray⟩) where
  stop := fun θ' H' S' i st rs hs e => by
    have := List.getElem?_eq_none_iff.mp e
    show l.toArray.size ≤ i
    simpa using this
  go := fun θ' H' S' i d st rs hs e => by
    have := (List.getElem?_eq_some_iff.mp e).1
    show i < l.toArray.size
    simpa using this
  yld := fun θ' H' S' i d x H'' st rs hs e y => by
    obtain ⟨rfl, c, hc, rfl⟩ := y
    refine ⟨Step.refl, rs, ?_⟩
    have hc' : l[i]? = some c := by simpa using hc
    have e' : (l.map fun c => D.str [c])[i]? = some d := e
    rw [List.getElem?_map, hc'] at e'
    cases e'
    exact HasD.str_iff.mpr rfl
theorem rng_get {a c : Int} {n i : Nat} {d : D} (e : (rngL a c n)[i]? = some d) : i < n ∧ d = .int (a + (i : Int) * c) := by
  unfold rngL at e
  rw [List.getElem?_map] at e
  by_cases hi : i < n
  · rw [List.getElem?_range hi] at e
    exact ⟨hi, (Option.some.inj e).symm⟩
  · rw [List.getElem?_eq_none (by simpa using hi)] at e
    cases e
theorem rng_none {a c : Int} {n i : Nat} (e : (rngL a c n)[i]? = none) : n ≤ i := by
  have := List.getElem?_eq_none_iff.mp e
  unfold rngL at this
  simpa using this
theorem wk_rng {a : Int} {n : Nat} : WkOk g θ H ⟨rngL a 1 n, []⟩ (Itr a n) where
  stop := fun θ' H' S' i st rs hs e => rng_none e
  go := fun θ' H' S' i d st rs hs e => (rng_get e).1
  yld := fun θ' H' S' i d x H'' st rs hs e y => by
    obtain ⟨rfl, rfl⟩ := y
    obtain ⟨_, rfl⟩ := rng_get e
    exact ⟨Step.refl, rs, HasD.int_iff.mpr (by rw [Int.mul_one])⟩
theorem wk_rngC {a c : Int} {n : Nat} : WkOk g θ H ⟨rngL a c n, []⟩ (Itc a c n) where
  stop := fun θ' H' S' i st rs hs e => rng_none e
  go := fun θ' H' S' i d st rs hs e => (rng_get e).1
  yld := fun θ' H' S' i d x H'' st rs hs e y => by
    obtain ⟨rfl, rfl⟩ := y
    obtain ⟨_, rfl⟩ := rng_get e
    exact ⟨Step.refl, rs, HasD.int_iff.mpr rfl⟩
end
section
variable {X : Cx} {g : Gd} {E : XK} {tg e a b : Expr} {p pos : Pos} {ea eb : Env → Sto → Res W}
theorem stays_self {w : W} {S : Sto} {p : List D × List (Nat × List D)} (hp : lsrc w S = some p) : p.2.all (fun q => stayB S q) = true := by
  unfold lsrc at hp
  split at hp
  · cases hp; rfl
  · split at hp
    · rename_i hl; cases hp; simp [stayB, hl]
    · cases hp
  · cases hp; rfl
  · cases hp
theorem PIw {t t' : TI} (h : PI X tg e t) (w : ∀ σ H R, t' σ H R → t σ H R) : PI X tg e t' := ⟨fun pins s σ H R I q => h.run pins s σ H R I (w _ _ _ q)⟩
theorem seq_ok (hK : X.K = g.K) (he : PE X e (semE g E ea)) : PI X tg e (semI g E fun ρ S => (ea ρ S).bind fun w S => PyI.opt (seqWk w S) S) := ⟨fun pins s σ H R I ⟨θ, ρ, S, eo, rs, q⟩ => by
  dsimp only at q
  cases hr : ea ρ S with
  | bad => rw [hr] at q; exact q.elim
  | ex C fs S' => exact (pi_list he).run pins s σ H R I ⟨θ, ρ, S, eo, rs, by rw [hr] at q ⊢; exact q⟩
  | ok w S1 =>
    rw [hr] at q
    obtain ⟨k, ek, q⟩ := CaseR.opt' (show CaseR g θ H (PyI.opt (seqWk w S1) S1) E _ from q)
    unfold seqWk at ek
    split at ek
    · rename_i pr hp
      cases ek
      refine (pi_list he).run pins s σ H R I ⟨θ, ρ, S, eo, rs, ?_⟩
      rw [hr]
      intro θ1 H1 st1 rs1 x hx
      obtain ⟨a, rfl, hl⟩ := lsrc_ok rs1 hx hp
      obtain ⟨xs, hq, _⟩ := hl θ1 H1 S1 Step.refl rs1 (stays_self hp)
      exact ⟨a, rfl, ⟨xs, by rw [hK]; exact hq⟩, by rw [hK]; exact q θ1 H1 st1 rs1 _ (wk_list hl)⟩
    · split at ek
      · rename_i l hl
        cases ek
        refine (pi_tup he).run pins s σ H R I ⟨θ, ρ, S, eo, rs, ?_⟩
        rw [hr]
        intro θ1 H1 st1 rs1 x hx
        obtain ⟨a, rfl, hl⟩ := tsrc_ok hx hl
        obtain ⟨xs, hq, _⟩ := hl θ1 H1 Step.refl
        exact ⟨a, rfl, ⟨xs, by rw [hK]; exact hq⟩, by rw [hK]; exact q θ1 H1 st1 rs1 _ (wk_tup hl)⟩
      · split at ek
        · rename_i l
          cases ek
          refine (pi_str he).run pins s σ H R I ⟨θ, ρ, S, eo, rs, ?_⟩
          rw [hr]
          intro θ1 H1 st1 rs1 x hx
          exact ⟨_, str_of hx, q θ1 H1 st1 rs1 _ wk_str⟩
        · cases ek⟩
theorem rng1_ok (hg : Gl X "range") (hm : X.mg "range" = none) (hs : notStar a = true) (ha : PE X a (semE g E ea)) : PI X tg (.Call (.Name "range" p) [a] [] pos) (semI g E fun ρ S => (ea ρ S).bind fun x S => (match x with
    | .d (.int j) => if -(2 ^ 62) ≤ j ∧ j < 2 ^ 62 then .ok ⟨rngL 0 1 j.toNat, []⟩ S else .bad
    | _ => .bad)) := PIw (pi_range1 hg hm (wscons_ok hs ha wsnil_ok) (star_one hs)) fun σ H R ⟨θ, ρ, S, eo, rs, q⟩ => ⟨θ, ρ, S, eo, rs, by
  dsimp only at q
  cases hr : ea ρ S with
  | bad => rw [hr] at q; exact q.elim
  | ex C fs S' => rw [hr] at q; (try dsimp only); (try rw [hr]); exact q
  | ok w S1 =>
    rw [hr] at q
    dsimp only [Res.bind] at q
    dsimp only
    rw [hr]
    intro θ1 H1 st1 rs1 vs hv
    obtain ⟨x, rfl, hx⟩ := ws1 hv
    split at q
    · rename_i j
      split at q
      · rename_i hj
        exact ⟨j, by rw [int_of hx], hj.1, hj.2, q θ1 H1 st1 rs1 _ wk_rng⟩
      · exact q.elim
    · exact q.elim⟩
theorem rng2_ok (hg : Gl X "range") (hm : X.mg "range" = none) (hs : notStar a = true) (hs2 : notStar b = true) (ha : PE X a (semE g E ea)) (hb : PE X b (semE g E eb)) : PI X tg (.Call (.Name "range" p) [a, b] [] pos) (semI g E fun ρ S => (ea ρ S).bind fun x S => (eb ρ S).bind fun y S => (match x, y with
    | .d (.int i), .d (.int j) => if (-(2 ^ 62) ≤ i ∧ i < 2 ^ 62) ∧ -(2 ^ 62) ≤ j ∧ j < 2 ^ 62 then .ok ⟨rngL i 1 (j - i).toNat, []⟩ S else .bad
    | _, _ => .bad)) := PIw (pi_range2 hg hm (wscons_ok hs ha (wscons_ok hs2 hb wsnil_ok)) (by rw [star_one hs, star_one hs2]; rfl) (star_one hs2)) fun σ H R ⟨θ, ρ, S, eo, rs, q⟩ => ⟨θ, ρ, S, eo, rs, by
  dsimp only at q ⊢
  cases hr : ea ρ S with
  | bad => rw [hr] at q; exact q.elim
  | ex C fs S' => rw [hr] at q; (try dsimp only); (try rw [hr]); exact q
  | ok w S1 =>
    rw [hr] at q
    show CaseR g θ H (((eb ρ S1).bind fun d S => (Res.ok [] S).bind fun ds S => .ok (d :: ds) S).bind fun ds S => .ok (w :: ds) S) E _
    dsimp only [Res.bind] at q
    cases hr2 : eb ρ S1 with
    | bad => rw [hr2] at q; exact q.elim
    | ex C fs S' => rw [hr2] at q; exact q
    | ok w2 S2 =>
      rw [hr2] at q
      dsimp only [Res.bind] at q
      intro θ1 H1 st1 rs1 vs hv
      obtain ⟨x, z, rfl, hx, hz⟩ := ws2 hv
      split at q
      · rename_i i j
        split at q
        · rename_i hj
          exact ⟨i, j, by rw [int_of hx, int_of hz], ⟨hj.1.1, hj.1.2, hj.2.1, hj.2.2⟩, q θ1 H1 st1 rs1 _ wk_rng⟩
        · exact q.elim
      · exact q.elim⟩
theorem rngD_ok {k : Nat} {p1 p2 : Pos} (hg : Gl X "range") (hm : X.mg "range" = none) (hs : notStar a = true) (hs2 : notStar b = true) (ha : PE X a (semE g E ea)) (hb : PE X b (semE g E eb)) : PI X tg (.Call (.Name "range" p) [a, b, .UnaryOp .USub (.Constant (.int 1) k p1) p2] [] pos) (semI g E fun ρ S => (ea ρ S).bind fun x S => (eb ρ S).bind fun y S => (match x, y with
    | .d (.int i), .d (.int j) => if (-(2 ^ 62) ≤ i ∧ i < 2 ^ 62) ∧ -(2 ^ 62) ≤ j ∧ j < 2 ^ 62 then .ok ⟨rngL i (-1) (i - j).toNat, []⟩ S else .bad
    | _, _ => .bad)) := PIw (pi_range3 hg hm (wscons_ok (g := g) (E := E) hs ha (wscons_ok hs2 hb (wscons_ok rfl negc_ok wsnil_ok))) (star_one hs) (star_any (by unfold noStars; rw [hs2]; rfl))) fun σ H R ⟨θ, ρ, S, eo, rs, q⟩ => ⟨θ, ρ, S, eo, rs, by
  dsimp only at q ⊢
  cases hr : ea ρ S with
  | bad => rw [hr] at q; exact q.elim
  | ex C fs S' => rw [hr] at q; (try dsimp only); (try rw [hr]); exact q
  | ok w S1 =>
    rw [hr] at q
    show CaseR g θ H (((eb ρ S1).bind fun d S => (Res.ok [.d (.int (-1))] S).bind fun ds S => .ok (d :: ds) S).bind fun ds S => .ok (w :: ds) S) E _
    dsimp only [Res.bind] at q
    cases hr2 : eb ρ S1 with
    | bad => rw [hr2] at q; exact q.elim
    | ex C fs S' => rw [hr2] at q; exact q
    | ok w2 S2 =>
      rw [hr2] at q
      dsimp only [Res.bind] at q
      intro θ1 H1 st1 rs1 vs hv
      cases hv with
      | cons hx hv =>
        obtain ⟨z, z2, rfl, hz, hz2⟩ := ws2 hv
        split at q
        · rename_i i j
          split at q
          · rename_i hj
            exact ⟨i, j, -1, (i - j).toNat, by rw [int_of hx, int_of hz, int_of hz2], RgC.neg hj.1.1 hj.1.2 hj.2.1 hj.2.2, q θ1 H1 st1 rs1 _ wk_rngC⟩
          · exact q.elim
        · exact q.elim⟩
theorem RgC.two {i j : Int} (ha : -(2 ^ 60) ≤ i) (ha' : i < 2 ^ 60) (hb : -(2 ^ 60) ≤ j) (hb' : j < 2 ^ 60) : RgC i j 2 ((j - i + 1) / 2).toNat := by
  have e : Builtin.Range.rangeSize i j 2 = if i < j then (j - i - 1) / 2 + 1 else 0 := by
    unfold Builtin.Range.rangeSize
    simp only [show (2 : Int) > 0 by decide, if_true]
  refine ⟨by decide, by decide, ?_, ?_⟩
  · unfold Builtin.Range.small
    rw [e]
    simp only [Builtin.Range.rangeFitsLong, Bool.and_eq_true, Bool.or_eq_true, decide_eq_true_eq, beq_iff_eq, show (2 : Int) > 0 by decide, if_true]
    split <;> omega
  · rw [e]
    split <;> omega
theorem rngT_ok {k : Nat} {p1 : Pos} (hg : Gl X "range") (hm : X.mg "range" = none) (hs : notStar a = true) (hs2 : notStar b = true) (ha : PE X a (semE g E ea)) (hb : PE X b (semE g E eb)) : PI X tg (.Call (.Name "range" p) [a, b, .Constant (.int 2) k p1] [] pos) (semI g E fun ρ S => (ea ρ S).bind fun x S => (eb ρ S).bind fun y S => (match x, y with
    | .d (.int i), .d (.int j) => if (-(2 ^ 60) ≤ i ∧ i < 2 ^ 60) ∧ -(2 ^ 60) ≤ j ∧ j < 2 ^ 60 then .ok ⟨rngL i 2 ((j - i + 1) / 2).toNat, []⟩ S else .bad
    | _, _ => .bad)) := PIw (pi_range3 hg hm (wscons_ok (g := g) (E := E) hs ha (wscons_ok hs2 hb (wscons_ok rfl (con_ok (d := .int 2) rfl) wsnil_ok))) (star_one hs) (star_any (by unfold noStars; rw [hs2]; rfl))) fun σ H R ⟨θ, ρ, S, eo, rs, q⟩ => ⟨θ, ρ, S, eo, rs, by
  dsimp only at q ⊢
  cases hr : ea ρ S with
  | bad => rw [hr] at q; exact q.elim
  | ex C fs S' => rw [hr] at q; (try dsimp only); (try rw [hr]); exact q
  | ok w S1 =>
    rw [hr] at q
    show CaseR g θ H (((eb ρ S1).bind fun d S => (Res.ok [.d (.int 2)] S).bind fun ds S => .ok (d :: ds) S).bind fun ds S => .ok (w :: ds) S) E _
    dsimp only [Res.bind] at q
    cases hr2 : eb ρ S1 with
    | bad => rw [hr2] at q; exact q.elim
    | ex C fs S' => rw [hr2] at q; exact q
    | ok w2 S2 =>
      rw [hr2] at q
      dsimp only [Res.bind] at q
      intro θ1 H1 st1 rs1 vs hv
      cases hv with
      | cons hx hv =>
        obtain ⟨z, z2, rfl, hz, hz2⟩ := ws2 hv
        split at q
        · rename_i i j
          split at q
          · rename_i hj
            exact ⟨i, j, 2, ((j - i + 1) / 2).toNat, by rw [int_of hx, int_of hz, int_of hz2], RgC.two hj.1.1 hj.1.2 hj.2.1 hj.2.2, q θ1 H1 st1 rs1 _ wk_rngC⟩
          · exact q.elim
        · exact q.elim⟩
theorem rev_ok (hK : X.K = g.K) (hg : Gl X "reversed") (hm : X.mg "reversed" = none) (hs : notStar e = true) (he : PE X e (semE g E ea)) : PI X tg (.Call (.Name "reversed" p) [e] [] pos) (semI g E fun ρ S => (ea ρ S).bind fun w S => PyI.opt ((match lsrc w S with
    | some p => some ⟨p.1.reverse, p.2⟩
    | none => (tupOf w).map fun l => ⟨l.reverse, []⟩) : Option Wk) S) := PIw (RT.pi_revA hg hm he (star_one hs)) fun σ H R ⟨θ, ρ, S, eo, rs, q⟩ => ⟨θ, ρ, S, eo, rs, by
  refine q.bind.mono fun wx S1 θ1 H1 st1 rs1 c1 x hx => ?_
  obtain ⟨k, ek, q⟩ := c1.opt'
  split at ek
  · rename_i pr hp
    cases ek
    obtain ⟨a, rfl, hl⟩ := lsrc_ok rs1 hx hp
    obtain ⟨xs, hq, hv⟩ := hl θ1 H1 S1 Step.refl rs1 (stays_self hp)
    refine ⟨a, xs, rfl, .inl ⟨by rw [hK]; exact hq, ?_⟩⟩
    rw [hK, ← hv.length]
    exact q θ1 H1 Step.refl rs1 _ (wk_revL hl)
  · cases ht : tupOf wx with
    | none => rw [ht] at ek; cases ek
    | some l =>
      rw [ht] at ek
      cases ek
      obtain ⟨a, rfl, hl⟩ := tsrc_ok hx ht
      obtain ⟨xs, hq, hv⟩ := hl θ1 H1 Step.refl
      refine ⟨a, xs, rfl, .inr ⟨by rw [hK]; exact hq, ?_⟩⟩
      rw [hK, ← hv.length]
      exact q θ1 H1 Step.refl rs1 _ (wk_revT hl)⟩
theorem enum_ok {elts : List Expr} {kk : Nat} {tpos : Pos} (hK : X.K = g.K) (hg : Gl X "enumerate") (hm : X.mg "enumerate" = none) (hs : notStar e = true) (he : PE X e (semE g E ea)) : PI X (.Tuple elts kk tpos) (.Call (.Name "enumerate" p) [e] [] pos) (semI g E fun ρ S => (ea ρ S).bind fun w S => PyI.opt ((lsrc w S).map fun p => (⟨enumL p.1, p.2⟩ : Wk)) S) := PIw (pi_enum hg hm (wscons_ok hs he wsnil_ok) (star_one hs)) fun σ H R ⟨θ, ρ, S, eo, rs, q⟩ => ⟨θ, ρ, S, eo, rs, by
  dsimp only at q ⊢
  cases hr : ea ρ S with
  | bad => rw [hr] at q; exact q.elim
  | ex C fs S' => rw [hr] at q; (try dsimp only); (try rw [hr]); exact q
  | ok w S1 =>
    rw [hr] at q
    obtain ⟨k, ek, q⟩ := CaseR.opt' (show CaseR g θ H (PyI.opt ((lsrc w S1).map fun p => (⟨enumL p.1, p.2⟩ : Wk)) S1) E _ from q)
    cases hp : lsrc w S1 with
    | none => rw [hp] at ek; cases ek
    | some pr =>
      rw [hp] at ek
      cases ek
      intro θ1 H1 st1 rs1 vs hv
      obtain ⟨x, rfl, hx⟩ := ws1 hv
      obtain ⟨a, rfl, hl⟩ := lsrc_ok rs1 hx hp
      obtain ⟨xs, hq, _⟩ := hl θ1 H1 S1 Step.refl rs1 (stays_self hp)
      exact ⟨a, xs, rfl, by rw [hK]; exact hq, by rw [hK]; exact q θ1 H1 st1 rs1 _ (wk_enum hl)⟩⟩
theorem zip_ok {elts : List Expr} {kk : Nat} {tpos : Pos} (hK : X.K = g.K) (hg : Gl X "zip") (hm : X.mg "zip" = none) (hs : notStar a = true) (hs2 : notStar b = true) (ha : PE X a (semE g E ea)) (hb : PE X b (semE g E eb)) : PI X (.Tuple elts kk tpos) (.Call (.Name "zip" p) [a, b] [] pos) (semI g E fun ρ S => (ea ρ S).bind fun x S => (eb ρ S).bind fun y S => PyI.opt ((match lsrc x S with
    | some p => (lsrc y S).map fun q => ⟨zipL p.1 q.1, p.2 ++ q.2⟩
    | none => (tupOf x).bind fun l => (tupOf y).map fun m => ⟨zipL l m, []⟩) : Option Wk) S) := PIw (RZ.pi_zipA hg hm (wscons_ok hs ha (wscons_ok hs2 hb wsnil_ok)) (star_one hs) (star_any (by simp [noStars, hs2]))) fun σ H R ⟨θ, ρ, S, eo, rs, q⟩ => ⟨θ, ρ, S, eo, rs, by
  dsimp only at q ⊢
  cases hr : ea ρ S with
  | bad => rw [hr] at q; exact q.elim
  | ex C fs S' => rw [hr] at q; (try dsimp only); (try rw [hr]); exact q
  | ok w S1 =>
    rw [hr] at q
    show CaseR g θ H (((eb ρ S1).bind fun d S => (Res.ok [] S).bind fun ds S => .ok (d :: ds) S).bind fun ds S => .ok (w :: ds) S) E _
    dsimp only [Res.bind] at q
    cases hr2 : eb ρ S1 with
    | bad => rw [hr2] at q; exact q.elim
    | ex C fs S' => rw [hr2] at q; exact q
    | ok w2 S2 =>
      rw [hr2] at q
      obtain ⟨k, ek, q⟩ := CaseR.opt' (show CaseR g θ H (PyI.opt ((match lsrc w S2 with
        | some p => (lsrc w2 S2).map fun q => ⟨zipL p.1 q.1, p.2 ++ q.2⟩
        | none => (tupOf w).bind fun l => (tupOf w2).map fun m => ⟨zipL l m, []⟩) : Option Wk) S2) E _ from q)
      intro θ1 H1 st1 rs1 vs hv
      obtain ⟨x, z, rfl, hx, hz⟩ := ws2 hv
      split at ek
      · rename_i pr hp
        cases hp2 : lsrc w2 S2 with
        | none => rw [hp2] at ek; cases ek
        | some pr2 =>
          rw [hp2] at ek
          cases ek
          obtain ⟨a, rfl, hl⟩ := lsrc_ok rs1 hx hp
          obtain ⟨xs, hq, _⟩ := hl θ1 H1 S2 Step.refl rs1 (stays_self hp)
          obtain ⟨b, rfl, hl2⟩ := lsrc_ok rs1 hz hp2
          obtain ⟨ys, hq2, _⟩ := hl2 θ1 H1 S2 Step.refl rs1 (stays_self hp2)
          exact ⟨a, b, xs, ys, rfl, .inl ⟨by rw [hK]; exact hq, by rw [hK]; exact hq2, by rw [hK]; exact q θ1 H1 st1 rs1 _ (wk_zipL hl hl2)⟩⟩
      · cases ht : tupOf w with
        | none => rw [ht] at ek; cases ek
        | some l =>
          rw [ht] at ek
          cases ht2 : tupOf w2 with
          | none => rw [ht2] at ek; cases ek
          | some m =>
            rw [ht2] at ek
            cases ek
            obtain ⟨a, rfl, hl⟩ := tsrc_ok hx ht
            obtain ⟨xs, hq, _⟩ := hl θ1 H1 Step.refl
            obtain ⟨b, rfl, hl2⟩ := tsrc_ok hz ht2
            obtain ⟨ys, hq2, _⟩ := hl2 θ1 H1 Step.refl
            exact ⟨a, b, xs, ys, rfl, .inr ⟨by rw [hK]; exact hq, by rw [hK]; exact hq2, by rw [hK]; exact q θ1 H1 st1 rs1 _ (wk_zipT hl hl2)⟩⟩⟩
end
end PyI

set_option maxRecDepth 100000
set_option maxHeartbeats 2000000
/-! PyI: list(reversed(a list)). -/
namespace RT
open PySem PySem.Spec PyProof.Rows L2
section
variable {prog : Program} {w : World} {A : Around} {E : Value → Shared → Prop} {s : Shared}
abbrev LO (xs : Array Value) (n : Nat) : Obj := { cls := .type "list", data := .seq xs n }
abbrev RI (xs : Array Value) : Nat → Value → Prop := fun i v => xs[xs.size - 1 - i]? = some v
theorem ext_rv {R : Result → Shared → Prop} {it l S : Addr} {xs : Array Value} {res : Value} {c : Nat} (hh : A.handled = none) (hS : s.heap.get? S = some (LO #[] c)) (hit : s.heap.IsRevIter it l ((xs.size : Int) - 1))
    (hl : s.heap.IsList l xs) (hne : l ≠ it) (hSi : S ≠ it) (hSl : S ≠ l) (hn : xs.size ≤ sizeLine)
    (hR : ∀ (h' : Heap) (tk : Nat) (ys : Array Value) (n : Nat), (∀ b o, b ≠ S → b ≠ it → s.heap.get? b = some o → h'.get? b = some o) → h'.get? S = some (LO ys n) → ItemsOf (RI xs) ys xs.size → R (.ok (.ret res)) { s with heap := h', toks := tk }) :
    wpAny (model prog w) A.in1 (Builtin.List.listExtendWith (.ref S) (.ref it) res)
      (fun fin s' => match fin with
        | .done f => R (.ok f) s'
        | .again c' => c'.quiet = true ∧ codeAny (model prog w) A c' R s') (fun e s' => R (.error e) s') s := by
  have wk := (Walks.listRev (prog := prog) (w := w) (A := A.in1) hh it l hne xs).toS
  have out : S ∉ [it, l] := by simp [hSi, hSl]
  have ty := hit.typeIs
  have same : Builtin.List.listSameRef (.ref S) (.ref it) = false := by simp [Builtin.List.listSameRef, hSi]
  unfold Builtin.List.listExtendWith
  refine wpAny_bind (wpAny_typeOf ty ?_)
  rw [if_neg (by rw [same]; decide)]
  refine wpAny_bind (wpAny_pyIter_revIter hit (wpAny_bind (wpAny_holding ?_)))
  unfold Builtin.List.listLengthHint
  refine wpAny_bind (wpAny_specialOf ty nolen_lri (wpAny_bind (wpAny_specialOf ty hint_lri ?_)))
  generalize gid : ("list_reverseiterator.__length_hint__" : String) = id1
  wp_delta
  rw [show splitId id1 = some ("list_reverseiterator", "__length_hint__") by subst gid; decide +kernel]
  subst gid
  refine wpAny_bind (wpAny_isInstance (b := true) ty (by rw [isSubtype_type]; kernel_rfl) (wpAny_pure ?_))
  rw [if_neg (by decide)]
  have z : ((xs.size : Nat) : Int) - 1 - ((0 : Nat) : Int) = (xs.size : Int) - 1 := by omega
  refine wpAny_pure ⟨plainId_quiet F.plain_extend_loop _, codeAny_extend_loopS wk hn _ out _ xs.size 0 _ _ _ rfl (Nat.zero_le _) ⟨Nat.zero_le _, by rw [z]; exact hit, hl⟩ hS (ItemsOf.nil _) fun s1 ys n mv hy hi => ?_⟩
  rw [Moved.eq_with mv]
  refine hR s1.heap s1.toks ys n (fun b o h1 h2 e => mv.heap b o (fun m => ?_) e) hy hi
  rcases List.mem_cons.mp m with q | q
  · exact h1 q
  · exact h2 (List.mem_singleton.mp q)
theorem init_rv {R : Result → Shared → Prop} {it l S : Addr} {xs : Array Value} (hh : A.handled = none) (hS : s.heap.get? S = some (LO #[] 0)) (hit : s.heap.IsRevIter it l ((xs.size : Int) - 1))
    (hl : s.heap.IsList l xs) (hne : l ≠ it) (hSi : S ≠ it) (hSl : S ≠ l) (hn : xs.size ≤ sizeLine)
    (hR : ∀ (h' : Heap) (tk : Nat) (ys : Array Value) (n : Nat), (∀ b o, b ≠ S → b ≠ it → s.heap.get? b = some o → h'.get? b = some o) → h'.get? S = some (LO ys n) → ItemsOf (RI xs) ys xs.size → R (.ok (.ret .none)) { s with heap := h', toks := tk }) :
    wpAny (model prog w) A.in1 (Builtin.«list.__init__» ⟨[.ref S, .ref it], []⟩)
      (fun fin s' => match fin with
        | .done f => R (.ok f) s'
        | .again c' => c'.quiet = true ∧ codeAny (model prog w) A c' R s') (fun e s' => R (.error e) s') s := by
  show wpAny _ _ (do
    let old ← Builtin.List.listItems (.ref S)
    Builtin.List.listUpdate (.ref S) (fun _ => #[])
    letGo old.toList.reverse
    Builtin.List.listExtendWith (.ref S) (.ref it) .none) _ _ s
  refine wpAny_bind ?_
  unfold Builtin.List.listItems
  refine wpAny_bind (wpAny_seqItems hS rfl (wpAny_pure ?_))
  show wpAny _ _ (updateSeq S (fun _ => #[]) >>= fun _ =>
    letGo (#[] : Array Value).toList.reverse >>= fun _ =>
    Builtin.List.listExtendWith (.ref S) (.ref it) .none) _ _ s
  refine wpAny_bind (wpAny_updateSeq hS rfl (wpAny_bind (wpAny_letGo ?_)))
  have kp : ∀ b o, b ≠ S → s.heap.get? b = some o → (s.heap.update S (Obj.mapSeq (fun _ => (#[] : Array Value)))).get? b = some o := fun b o hb e => by
    rw [Heap.get?_update_other _ _ (Ne.symm hb)]
    exact e
  have hS2 := Heap.get?_update_self (Obj.mapSeq (fun _ => (#[] : Array Value))) hS rfl
  obtain ⟨ol, el, cl⟩ := id hl
  refine ext_rv hh hS2 (hit.at fun o e => kp it o (Ne.symm hSi) e) ⟨ol, kp l ol (Ne.symm hSl) el, cl⟩ hne hSi hSl hn fun h' tk ys n k hy hi => ?_
  exact hR h' tk ys n (fun b o h1 h2 e => k b o h1 h2 (kp b o h1 e)) hy hi
theorem call_list_rv {it l : Addr} {xs : Array Value} {Q : Value → Shared → Prop} (hh : A.handled = none) (hit : s.heap.IsRevIter it l ((xs.size : Int) - 1)) (hl : s.heap.IsList l xs) (hne : l ≠ it) (hn : xs.size ≤ sizeLine)
    (hQ : ∀ (h' : Heap) (tk : Nat) (ys : Array Value) (n : Nat), (∀ b o, b ≠ it → s.heap.get? b = some o → h'.get? b = some o) → h'.get? s.heap.objs.size = some (LO ys n) → ItemsOf (RI xs) ys xs.size →
      Q (.ref s.heap.objs.size) { s with heap := h', toks := tk }) :
    wpAny (model prog w) A (call (.type "list") [.ref it]) Q E s := by
  obtain ⟨oi, ei, ci⟩ := id hit
  obtain ⟨ol, el, cl⟩ := id hl
  refine callType_codes (Q₁ := fun obj s1 => obj = .ref s.heap.objs.size ∧ s1 = { s with heap := s.heap.push (LO #[] 0) }) F.called_list (F.typeCall_list_1 _) F.entry_list_init
    (code_list_new _ ⟨rfl, rfl⟩) fun obj s1 h1 => ?_
  obtain ⟨rfl, rfl⟩ := h1
  have hS : (s.heap.push (LO #[] 0)).get? s.heap.objs.size = some (LO #[] 0) := Heap.get?_push_size _ rfl
  refine ⟨⟨_, hS, rfl⟩, F.args_list_init_2 _ _, ?_⟩
  refine init_rv (A := A.in1) hh hS (hit.at fun o e => Heap.get?_push_of_some _ e) (hl.push _) hne (Nat.ne_of_gt (Heap.lt_size ei)) (Nat.ne_of_gt (Heap.lt_size el)) hn fun h' tk ys n k hy hi => ⟨rfl, ?_⟩
  exact hQ h' tk ys n (fun b o hb e => k b o (Nat.ne_of_lt (Heap.lt_size e)) hb (Heap.get?_push_of_some _ e)) hy hi
end
/-- list(reversed(e)), e a list -/
def tLRev (K : PySem.W.Frag) (te : TE) : TE := fun σ H Q => te σ H fun v H1 => ∃ (a : Addr) (xs : List V), v = .ref a ∧ SqL K H1 a xs ∧ ∀ q, H1 q = none → Q (.ref q) (upd H1 q (.lst xs.reverse))
theorem pe_lrev {X : Cx} {e : Expr} {te : TE} {p p2 pos pos2 : Pos} (hc : X.calm = true) (hg : Gl X "list") (hm : X.mg "list" = none) (hg2 : Gl X "reversed") (hm2 : X.mg "reversed" = none) (he : PE X e te)
    (hs : starEach [e] X.env = (false, eval e X.env) :: starEach [] X.env) :
    PE X (.Call (.Name "list" p) [.Call (.Name "reversed" p2) [e] [] pos2] [] pos) (tLRev X.K te) := by
  refine ⟨fun pins s σ H Q I h => ?_⟩
  refine Call_ (ld_blt I hg hm boot_list (callWith_type1 (args_cons (Call_ ?_) rfl) rfl rfl))
  refine ld_blt I hg2 hm2 boot_reversed (callWith_type1 (args_cons (thn (he.run pins s σ H _ I h) fun u s1 hx => args_nil ?_) hs) hs rfl)
  obtain ⟨v, H1, I1, r1, a, xs, rfl, hq, q⟩ := hx
  obtain rfl : u = Value.ref a := r1
  obtain ⟨its, rv, pl, hz⟩ := I1.list hq
  have hl := pl.isList
  refine call_reversed_list hl (args_nil ?_)
  obtain ⟨ol, el, _⟩ := id hl
  have I2 : Inv X pins σ H1 { s1 with heap := s1.heap.push (revObj a ((its.toArray.size : Int) - 1)) } := I1.kept (t' := s1.toks) fun b o e => Heap.get?_push_of_some _ e
  have fp := I1.fpOk (H' := H1) (b := s1.heap.objs.size) (Nat.le_refl _) (I1.hok.fresh (Nat.le_refl _))
  have sz : its.toArray.size ≤ sizeLine := by rw [List.size_toArray, ← rv.length]; exact hz
  refine call_list_rv (s := { s1 with heap := s1.heap.push (revObj a ((its.toArray.size : Int) - 1)) }) (I1.ok.hd hc) ⟨_, Heap.get?_push_size _ rfl, rfl, rfl⟩ (hl.push _) (Nat.ne_of_lt (Heap.lt_size el)) sz fun h' tk ys n hk hy hi => ?_
  have fr := I2.hok.fresh (Nat.le_refl _)
  refine ⟨.ref _, _, I2.turnedNew (t' := tk) (ch := [s1.heap.objs.size]) (ob := .lst xs.reverse) (fun b o hb e => hk b o (fun z => hb (by simp [z])) e) (fun b hb => by rw [List.mem_singleton.mp hb]; exact fp) (Nat.le_refl _) ?_, rfl, q _ fr⟩
  exact ⟨by rw [List.length_reverse]; exact hz, ys.toList, n, vals_rev rv hi, by rw [Array.toArray_toList]; exact hy⟩
end RT

set_option maxRecDepth 100000
set_option maxHeartbeats 1000000
/-! PyI: makes, built-ins. -/
namespace PyI
open PySem PySem.Spec PyProof.Rows L2
section
variable {X : Cx} {g : Gd} {T : Tb} {c : Cb2} {sc : Scope} {E : XK} {e a b o : Expr} {es : List Expr} {pos p : Pos} {ea eb ec : Env → Sto → Res W} {ed : Env → Sto → Res (List D)} {ew : Env → Sto → Res (List W)}
theorem make_ok {n : Nat} {x : Str} (C : CtxE X g T c E sc) (hx : gloB sc x = true) (hp : plainN x = true) (hs : noStars es = true) (hf : T.clN n = some x) (ha : PA X es (semDs g E ed)) (hn : es = [] → ed = fun _ S => .ok [] S) :
    PE X (.Call (.Name x p) es [] pos) (semE g E fun ρ S => (ed ρ S).bind fun ds S => mkObj c.ci c.ini n ds S) := by
  obtain ⟨i, k, f, fd, ps, hi, hm, M, F, hr, hb⟩ := C.make n x hf
  refine ⟨fun pins s σ H Q I h => ?_⟩
  refine wpAny_Call_Name_kw (ld_glob I (C.glo x hx) hm ?_ (plainN_db hp).1)
  obtain ⟨θ, ρ, S, eo, rs, q⟩ := h
  refine cw_ok (first := []) (k := fun vs H1 => ∀ x dx, H1 x = none → H1 dx = none → dx ≠ x → spC g c.ci i (.ref x :: vs) (upd (upd H1 dx (.own x)) x (.ins (g.ca n) dx [])) (fun v H2 => v = .non ∧ Q (.ref x) H2) E) M.kp hs ha hn I
    ⟨θ, ρ, S, eo, rs, q.bind.mono fun ds S1 θ1 H1 st1 rs1 c1 vs hv x dx hx hdx hne => ?_⟩ fun vs H1 s1 us hq I1 r => ?_
  · dsimp only at c1
    unfold mkObj at c1
    rw [C.ini, hi] at c1
    have hx2 : (upd H1 dx (.own x)) x = none := by rw [upd_ne (Ne.symm hne)]; exact hx
    have st2 : Step g.K θ1 H1 θ1 (upd (upd H1 dx (.own x)) x (.ins (g.ca n) dx [])) := (Step.new hdx).trans (Step.new hx2)
    have rs2 : RelS g θ1 (upd (upd H1 dx (.own x)) x (.ins (g.ca n) dx [])) S1 := (rs1.new hdx).new hx2
    have st3 := st2.hold hx
    have rs3 : RelS g (θ1 ++ [x]) (upd (upd H1 dx (.own x)) x (.ins (g.ca n) dx [])) (S1 ++ [.ins n []]) := rs2.hold upd_same (rs1.new_notin hx) ⟨dx, [], rfl, .nil⟩
    refine ⟨θ1 ++ [x], S1 ++ [.ins n []], .ref S1.length :: ds, HasDs.cons (HasD.ref_iff.mpr ⟨x, hold_at rs1, rfl⟩) (hv.step st3), rs3, (CaseR.from st3 c1).bind.mono fun w S' θ' H' st' rs' h v hw => ?_⟩
    split at h
    · refine ⟨non_of hw, h θ' H' Step.refl rs' _ (wd (HasD.ref_iff.mpr ⟨x, st'.pre _ _ (hold_at rs1), rfl⟩))⟩
    · exact h.elim
  · exact run_make (dvs := []) (ds := []) M F hr hb .nil C.pass I1 r (by rw [List.append_nil]; exact hq)
/-! ### built-in functions -/
theorem blt_boot {b : Blt} {p : Str × Bool × String} (h : b.py = some p) : bootBuiltins p.1 = some (if p.2.1 = true then .type p.2.2 else .builtin p.2.2) := by
  cases b <;> first
    | (cases h; done)
    | (cases h; decide +kernel)
theorem blt_ok {bl : Blt} {q : Str × Bool × String} (C : CtxE X g T c E sc) (hx : gloB sc q.1 = true) (hp : plainN q.1 = true) (hs : noStars es = true) (hne : es ≠ []) (hpy : bl.py = some q) (hfr : T.free q.1 = true) (ha : PA X es (semWs g E ew)) :
    PE X (.Call (.Name q.1 p) es [] pos) (semE g E fun ρ S => (ew ρ S).bind fun ws S => PyI.opt (bltW bl ws S) S) := by
  obtain ⟨h1, h2, h3⟩ := plainN_db hp
  have hv := blt_boot hpy
  have hval : bl.val = some (if q.2.1 = true then .type q.2.2 else .builtin q.2.2) := by
    unfold Blt.val
    rw [hpy]
    rfl
  have hcr := call_blt C.K C.calm bl _ hval (X := X)
  have key : ∀ σ H Q, semE g E (fun ρ S => (ew ρ S).bind fun ws S => PyI.opt (bltW bl ws S) S) σ H Q → tCB (rB g (bltW bl)) (semWs g E ew) σ H Q := fun σ H Q ⟨θ, ρ, S, eo, rs, q⟩ => by
    refine ⟨θ, ρ, S, eo, rs, q.bind.mono fun ws S1 θ1 H1 st1 rs1 c1 vs hv => ?_⟩
    obtain ⟨w, ew, q⟩ := c1.opt'
    exact ⟨θ1, S1, ws, w, H, rs1, hv, ew, fun v H2 st2 rs2 hw => q θ1 H2 st2 rs2 v (hw.early st1 rs1)⟩
  cases es with
  | nil => exact absurd rfl hne
  | cons e es =>
    have hs1 : notStar e = true ∧ noStars es = true := by simpa [noStars] using hs
    by_cases z : q.2.1 = true
    · rw [if_pos z] at hv hcr
      exact PEw (pe_callTy hcr (C.glo _ hx) (C.blt _ hfr) hv ha h3 h1 (star_one hs1.1) (star_any hs1.2)) key
    · rw [if_neg z] at hv hcr
      exact PEw (pe_callB hcr (C.glo _ hx) (C.blt _ hfr) hv ha h3 h1 (star_one hs1.1) (star_any hs1.2)) key
/-! ### isinstance -/
theorem tyOf_ok {θ : List Addr} {H H₀ : Hp} {S : Sto} {w : W} {x : V} {t : Ty} (rs : RelS g θ H S) (h : HasW g H₀ θ H w x) (e : tyOf w S = some t) : TyX g.K H x (.type t.name) := by
  cases w with
  | o ob =>
    obtain ⟨a, ho, rfl, e1, _, q, _⟩ := h
    cases ob with
    | lst l => cases e; obtain ⟨vs, rfl, _⟩ := q; exact .base (.lst e1)
    | dK l => cases e; obtain ⟨vs, rfl, _⟩ := q; exact .base (.dK e1)
    | dT l => cases e; obtain ⟨vs, rfl, _⟩ := q; exact .base (.dT e1)
    | ins _ _ => cases e
  | d y =>
    cases y with
    | non => cases e; rw [non_of h]; exact .base .non
    | bl b => cases e; rw [bl_of h]; exact .base (.bl b)
    | int i => cases e; rw [int_of h]; exact .base (.int i)
    | str s => cases e; rw [str_of h]; exact .base (.str _)
    | tup l => cases e; obtain ⟨a, vs, rfl, e1, _⟩ := HasD.tup_iff.mp h; exact .base (.tup e1)
    | rol b l =>
      cases b with
      | true =>
        cases e
        obtain ⟨a, vs, rfl, ⟨o, _, _, e1, e2, _⟩, _⟩ := HasD.ktp_iff.mp h
        exact .kTuple e1 e2
      | false =>
        cases e
        obtain ⟨a, vs, rfl, e1, _⟩ := HasD.rol_iff.mp h
        rcases e1 with ⟨o, e1⟩ | ⟨o, _, _, e1, e2, _⟩
        · exact .base (.frz e1)
        · exact .kList e1 e2
    | ref n =>
      obtain ⟨a, ea, rfl⟩ := HasD.ref_iff.mp (HasW.dd h)
      unfold tyOf at e
      dsimp only at e
      split at e
      · rename_i l hl
        cases e
        obtain ⟨b, ho, e1, e2, vs, rfl, _⟩ := rs.at_ n _ hl
        rw [ea] at e1; cases e1
        exact .base (.lst e2)
      · rename_i l hl
        cases e
        obtain ⟨b, ho, e1, e2, vs, rfl, _⟩ := rs.at_ n _ hl
        rw [ea] at e1; cases e1
        exact .base (.dK e2)
      · rename_i l hl
        cases e
        obtain ⟨b, ho, e1, e2, vs, rfl, _⟩ := rs.at_ n _ hl
        rw [ea] at e1; cases e1
        exact .base (.dT e2)
      · cases e
theorem kitB_ok (t u : Ty) : kitB t.name u.name = some (t.sub u) := by cases t <;> cases u <;> decide +kernel
theorem boot_ty (u : Ty) (h : u ≠ .none) : bootBuiltins (Str.ofString u.name) = some (.type u.name) := by
  cases u <;> first
    | (exact absurd rfl h)
    | decide +kernel
theorem isT_ok {u : Ty} {p2 : Pos} (C : CtxE X g T c E sc) (hu : u ≠ .none) (hx : gloB sc "isinstance" = true) (hf : T.free "isinstance" = true) (hs : notStar e = true) (hx2 : gloB sc (Str.ofString u.name) = true) (hf2 : T.free (Str.ofString u.name) = true) (hp2 : plainN (Str.ofString u.name) = true) (he : PE X e (semE g E ea)) :
    PE X (.Call (.Name "isinstance" p) [e, .Name (Str.ofString u.name) p2] [] pos) (semE g E fun ρ S => (ea ρ S).bind fun x S => PyI.opt ((tyOf x S).map fun t => W.d (.bl ([u].any fun u => t.sub u))) S) := by
  have ht : PE X (.Name (Str.ofString u.name) p2) (tC (.ty u.name)) := ⟨fun pins s σ H Q I h => ld_blt I (C.glo _ hx2) (C.blt _ hf2) (boot_ty u hu) ⟨.ty u.name, H, I, rfl, h⟩ (plainN_db hp2).2.2 (plainN_db hp2).1⟩
  refine PEw (pe_callB call_isi (C.glo _ hx) (C.blt _ hf) PyProof.Rows.boot_isinstance (pa_cons he (pa_cons ht pa_nil (star_one rfl)) (star_one hs)) (by decide) (by decide) (star_one hs) (star_any rfl)) fun σ H Q ⟨θ, ρ, S, eo, rs, q⟩ => ?_
  refine ⟨θ, ρ, S, eo, rs, q.bind.mono fun w S1 θ1 H1 st1 rs1 c1 x hx => ?_⟩
  obtain ⟨r, er, q⟩ := c1.opt'
  cases et : tyOf w S1 with
  | none => rw [et] at er; cases er
  | some t =>
    rw [et] at er
    cases er
    refine ⟨x, .ty u.name, .type t.name, .type u.name, t.sub u, rfl, .ty _, by rw [C.K]; exact tyOf_ok rs1 hx et, kit_ty (kitB_ok t u), ?_⟩
    have := q θ1 H1 Step.refl rs1 (.bl (t.sub u)) (by
      show HasD g.K θ1 H1 _ _
      rw [HasD.bl_iff]
      simp)
    exact this
/-! ### methods of built-in types -/
def Kd.ty : Kd → String
  | .list => "list"
  | .str => "str"
  | .dict => "dict"
theorem bmt_fact {m : Bmt} {q : Str × String × String} (h : m.py = some q) : q.2.1 = m.kd.ty ∧ PlainAttrs q.2.1 ∧ Slot q.2.1 q.1 q.2.2 ∧ typeOf (.builtin q.2.2) = pure (.type "method_descriptor") := by
  cases m <;> first
    | (cases h; done)
    | (cases h
       first
        | exact ⟨rfl, F.plainAttrs_list, F.slot_list_append, F.type_list_append⟩
        | exact ⟨rfl, F.plainAttrs_list, F.slot_list_extend, F.type_list_extend⟩
        | exact ⟨rfl, F.plainAttrs_list, F.slot_list_pop, F.type_list_pop⟩
        | exact ⟨rfl, F.plainAttrs_str, F.slot_str_join, F.type_str_join⟩
        | exact ⟨rfl, F.plainAttrs_str, F.slot_str_upper, F.type_str_upper⟩
        | exact ⟨rfl, F.plainAttrs_dict, F.slot_dict_get, F.type_dict_get⟩)
theorem kd_ok {θ : List Addr} {H H₀ : Hp} {S : Sto} {w : W} {x : V} {k : Kd} (rs : RelS g θ H S) (h : HasW g H₀ θ H w x) (e : kdOk k w S = true) : tyV g.K k.ty x H := by
  cases k with
  | list =>
    cases el : lstOf w S with
    | none => unfold kdOk at e; rw [el] at e; cases e
    | some l =>
      obtain ⟨a, vs, rfl, hs, _⟩ := lstOf_ok rs h el
      exact .inl ⟨rfl, vs, hs⟩
  | str =>
    unfold kdOk at e
    dsimp only at e
    split at e
    · rw [str_of h]; rfl
    · cases e
  | dict =>
    unfold kdOk at e
    dsimp only at e
    cases w with
    | o ob =>
      obtain ⟨a, ho, rfl, e1, _, q, _⟩ := h
      cases ob with
      | dK l => obtain ⟨vs, rfl, _⟩ := q; exact .inr (.inr (.inl ⟨rfl, .inl ⟨vs, e1⟩⟩))
      | dT l => obtain ⟨vs, rfl, _⟩ := q; exact .inr (.inr (.inl ⟨rfl, .inr ⟨vs, e1⟩⟩))
      | _ => cases e
    | d y =>
      cases y with
      | ref n =>
        obtain ⟨a, ea, rfl⟩ := HasD.ref_iff.mp (HasW.dd h)
        unfold dicOf at e
        dsimp only at e
        split at e
        · rename_i l hl
          obtain ⟨b, ho, e1, e2, vs, rfl, _⟩ := rs.at_ n _ hl
          rw [ea] at e1; cases e1
          exact .inr (.inr (.inl ⟨rfl, .inl ⟨vs, e2⟩⟩))
        · rename_i l hl
          obtain ⟨b, ho, e1, e2, vs, rfl, _⟩ := rs.at_ n _ hl
          rw [ea] at e1; cases e1
          exact .inr (.inr (.inl ⟨rfl, .inr ⟨vs, e2⟩⟩))
        · cases e
      | _ => cases e
theorem nilW_of {σ : L2.St} {H : Hp} {Q : List V → Hp → Prop} (h : semWs g E (fun _ S => .ok [] S) σ H Q) : Q [] H := by
  obtain ⟨θ, ρ, S, eo, rs, q⟩ := h
  exact q θ H Step.refl rs [] .nil
theorem bmtW_ok {m : Bmt} {q : Str × String × String} {ap : Pos} (hK : X.K = g.K) (hpy : m.py = some q) (hk : m.keeps = false) (hb : noSuper o = true) (hl : line1 ap pos = true) (hs : noStars es = true) (hlen : decide (es.length < 29) = true) (ho : PE X o (semE g E ea)) (ha : PA X es (semWs g E ew)) (hn : es = [] → ew = fun _ S => .ok [] S) :
    PE X (.Call (.Attribute o q.1 ap) es [] pos) (semE g E fun ρ S => (ea ρ S).bind fun x S => if kdOk m.kd x S = true then (ew ρ S).bind fun ws S => bmtW m x ws S else .bad) := by
  obtain ⟨et, pa, sl, ty⟩ := bmt_fact hpy
  cases es with
  | nil =>
    have e := hn rfl
    subst e
    refine PEw (pe_bm0 pa sl ty (mt_W (E := E) hK m q hpy hk) ho (base_of hb) hl) fun σ H Q ⟨θ, ρ, S, eo, rs, q⟩ => ?_
    refine ⟨θ, ρ, S, eo, rs, q.bind.mono fun w S1 θ1 H1 st1 rs1 c1 x hx => ?_⟩
    dsimp only at c1
    split at c1
    · rename_i hkd
      exact ⟨by rw [hK, et]; exact kd_ok rs1 hx hkd, θ1, S1, w, [], H, rs1, hx, .nil, CaseR.mono (show CaseR g θ1 H1 (bmtW m w [] S1) E _ from c1) fun w' S' θ' H' st rs' h v hv => h v (hv.early st1 rs1)⟩
    · exact c1.elim
  | cons e es =>
    have hs1 : notStar e = true ∧ noStars es = true := by simpa [noStars] using hs
    refine PEw (pe_bm pa sl ty (mt_W (E := E) hK m q hpy hk) ho ha (base_of hb) (by
      have := form_of (pos := pos) hs hlen X.env
      exact this) hl (star_one hs1.1) (star_any hs1.2)) fun σ H Q ⟨θ, ρ, S, eo, rs, q⟩ => ?_
    refine ⟨θ, ρ, S, eo, rs, q.bind.mono fun w S1 θ1 H1 st1 rs1 c1 x hx => ?_⟩
    dsimp only at c1
    split at c1
    · rename_i hkd
      refine ⟨by rw [hK, et]; exact kd_ok rs1 hx hkd, θ1, ρ, S1, eo.step st1, rs1, c1.bind.mono fun ws S2 θ2 H2 st2 rs2 c2 vs hv => ?_⟩
      exact ⟨θ2, S2, w, ws, H, rs2, hx.step st2, hv.earlyW st1 rs1, c2.mono fun w' S' θ' H' st rs' h v hv => h v ((hv.early st2 rs2).early st1 rs1)⟩
    · exact c1.elim
theorem bmtD_ok {m : Bmt} {q : Str × String × String} {ap : Pos} (hK : X.K = g.K) (hu : X.A.units + 70 < cLine) (hpy : m.py = some q) (hk : m.keeps = true) (hb : noSuper o = true) (hl : line1 ap pos = true) (hs : noStars es = true) (hlen : decide (es.length < 29) = true) (ho : PE X o (semE g E ea)) (ha : PA X es (semDs g E ed)) (hn : es = [] → ed = fun _ S => .ok [] S) :
    PE X (.Call (.Attribute o q.1 ap) es [] pos) (semE g E fun ρ S => (ea ρ S).bind fun x S => if kdOk m.kd x S = true then (ed ρ S).bind fun ds S => bmtD m x ds S else .bad) := by
  obtain ⟨et, pa, sl, ty⟩ := bmt_fact hpy
  cases es with
  | nil =>
    have e := hn rfl
    subst e
    refine PEw (pe_bm0 pa sl ty (mt_D (E := E) hK hu m q hpy hk) ho (base_of hb) hl) fun σ H Q ⟨θ, ρ, S, eo, rs, q⟩ => ?_
    refine ⟨θ, ρ, S, eo, rs, q.bind.mono fun w S1 θ1 H1 st1 rs1 c1 x hx => ?_⟩
    dsimp only at c1
    split at c1
    · rename_i hkd
      exact ⟨by rw [hK, et]; exact kd_ok rs1 hx hkd, θ1, S1, w, [], H, rs1, hx, HasDs.nil, CaseR.mono (show CaseR g θ1 H1 (bmtD m w [] S1) E _ from c1) fun w' S' θ' H' st rs' h v hv => h v (hv.early st1 rs1)⟩
    · exact c1.elim
  | cons e es =>
    have hs1 : notStar e = true ∧ noStars es = true := by simpa [noStars] using hs
    refine PEw (pe_bm pa sl ty (mt_D (E := E) hK hu m q hpy hk) ho ha (base_of hb) (by
      have := form_of (pos := pos) hs hlen X.env
      exact this) hl (star_one hs1.1) (star_any hs1.2)) fun σ H Q ⟨θ, ρ, S, eo, rs, q⟩ => ?_
    refine ⟨θ, ρ, S, eo, rs, q.bind.mono fun w S1 θ1 H1 st1 rs1 c1 x hx => ?_⟩
    dsimp only at c1
    split at c1
    · rename_i hkd
      refine ⟨by rw [hK, et]; exact kd_ok rs1 hx hkd, θ1, ρ, S1, eo.step st1, rs1, c1.bind.mono fun ds S2 θ2 H2 st2 rs2 c2 vs hv => ?_⟩
      exact ⟨θ2, S2, w, ds, H, rs2, hx.step st2, hv, c2.mono fun w' S' θ' H' st rs' h v hv => h v ((hv.early st2 rs2).early st1 rs1)⟩
    · exact c1.elim
/-! ### list(reversed(..)), dict displays -/
theorem lrev_ok {p2 pos2 : Pos} (C : CtxE X g T c E sc) (h1 : gloB sc "list" = true) (h2 : gloB sc "reversed" = true) (f1 : T.free "list" = true) (f2 : T.free "reversed" = true) (hs : notStar e = true) (he : PE X e (semE g E ea)) :
    PE X (.Call (.Name "list" p) [.Call (.Name "reversed" p2) [e] [] pos2] [] pos) (semE g E fun ρ S => (ea ρ S).bind fun w S => PyI.opt ((lsrc w S).map fun p => W.o (.lst p.1.reverse)) S) :=
  PEw (RT.pe_lrev C.calm (C.glo _ h1) (C.blt _ f1) (C.glo _ h2) (C.blt _ f2) he (star_one hs)) fun σ H Q ⟨θ, ρ, S, eo, rs, q⟩ => by
    refine ⟨θ, ρ, S, eo, rs, q.bind.mono fun w S1 θ1 H1 st1 rs1 c1 x hx => ?_⟩
    obtain ⟨r, er, q⟩ := c1.opt'
    cases hp : lsrc w S1 with
    | none => rw [hp] at er; cases er
    | some pr =>
      rw [hp] at er
      cases er
      obtain ⟨a, rfl, hl⟩ := lsrc_ok rs1 hx hp
      obtain ⟨xs, hq, hv⟩ := hl θ1 H1 S1 Step.refl rs1 (stays_self hp)
      exact ⟨a, xs, rfl, by rw [C.K]; exact hq, fun b hb => q θ1 _ (Step.new hb) (rs1.new hb) _ (HasW.early st1 rs1 (hasNewL rs1 hb hv.reverse))⟩
theorem trev_ok {p2 pos2 : Pos} (C : CtxE X g T c E sc) (h1 : gloB sc "tuple" = true) (h2 : gloB sc "reversed" = true) (f1 : T.free "tuple" = true) (f2 : T.free "reversed" = true) (hs : notStar e = true) (he : PE X e (semE g E ea)) :
    PE X (.Call (.Name "tuple" p) [.Call (.Name "reversed" p2) [e] [] pos2] [] pos) (semE g E fun ρ S => (ea ρ S).bind fun w S => PyI.opt ((lsrc w S).map fun p => W.d (.tup p.1.reverse)) S) :=
  PEw (RT.pe_tupRev C.calm (C.glo _ h1) (C.blt _ f1) (C.glo _ h2) (C.blt _ f2) he (star_one hs) (star_one rfl)) fun σ H Q ⟨θ, ρ, S, eo, rs, q⟩ => by
    refine ⟨θ, ρ, S, eo, rs, q.bind.mono fun w S1 θ1 H1 st1 rs1 c1 x hx => ?_⟩
    obtain ⟨r, er, q⟩ := c1.opt'
    cases hp : lsrc w S1 with
    | none => rw [hp] at er; cases er
    | some pr =>
      rw [hp] at er
      cases er
      obtain ⟨a, rfl, hl⟩ := lsrc_ok rs1 hx hp
      obtain ⟨xs, hq, hv⟩ := hl θ1 H1 S1 Step.refl rs1 (stays_self hp)
      exact ⟨a, xs, rfl, by rw [C.K]; exact hq, fun b hb => q θ1 _ (Step.new hb) (rs1.new hb) _ (hasNewT hb hv.reverse)⟩
theorem truW_ok {H₀ : Hp} {w : W} {x : V} {k : Bool} {θ : List Addr} {H : Hp} (hK : X.K = g.K) (h : HasW g H₀ θ H w x) (e : truW w = some k) : TruV X.K x H k := by
  cases w with
  | o ob => cases e
  | d y =>
    cases y with
    | non =>
      cases e
      rw [HasD.non_iff.mp (HasW.dd h)]
      exact rfl
    | tup l =>
      cases e
      obtain ⟨a, vs, rfl, t, r⟩ := HasD.tup_iff.mp (HasW.dd h)
      refine .inr (.inl ⟨vs, .of t, ?_⟩)
      have := r.length
      cases l <;> cases vs <;> first | rfl | (simp at this)
    | _ => cases e
/-- a or b by truth -/
theorem orv_ok {y : Expr} {eb : Env → Sto → Res W} (hK : X.K = g.K) (ha : PE X e (semE g E ea)) (hb : PE X y (semE g E eb)) : PE X (.BoolOp .Or [e, y] pos) (semE g E fun ρ S => (ea ρ S).bind fun x S => (match truW x with
    | some true => .ok x S
    | some false => eb ρ S
    | none => .bad)) := PEw (pe_orT ha (pe_one hb)) fun σ H Q ⟨θ, ρ, S, eo, rs, q⟩ => by
  refine ⟨θ, ρ, S, eo, rs, q.bind.mono fun w S1 θ1 H1 st1 rs1 c1 x hx => ?_⟩
  dsimp only at c1
  split at c1
  · rename_i ht
    refine ⟨true, truW_ok hK hx ht, ?_⟩
    rw [if_pos rfl]
    exact c1 θ1 H1 Step.refl rs1 x hx
  · rename_i ht
    refine ⟨false, truW_ok hK hx ht, ?_⟩
    rw [if_neg (by decide)]
    exact tail_E st1 rs1 eo c1
  · exact c1.elim
def semPr (g : Gd) (E : XK) (ev : Env → Sto → Res (List D)) : L2.St → Hp → (List (V × V) → Hp → Prop) → Prop := fun σ H Q => semR g E ev (fun _ ds _ θ' H' => ∀ ps : List (V × V), HasDs g.K θ' H' ds (ps.flatMap fun p => [p.1, p.2]) → Q ps H') σ H
theorem prnil_ok {σ : L2.St} {H : Hp} {Q : List (V × V) → Hp → Prop} (h : semPr g E (fun _ S => .ok [] S) σ H Q) : tPairs [] σ H Q := by
  obtain ⟨θ, ρ, S, eo, rs, q⟩ := h
  exact q θ H Step.refl rs [] HasDs.nil
theorem prcons_ok {ek ev : Env → Sto → Res W} {trs : List (TE × TE)} (hr : ∀ σ H Q, semPr g E ed σ H Q → tPairs trs σ H Q) : ∀ σ H Q, semPr g E (fun ρ S => (ek ρ S).al.bind fun d S => ((ev ρ S).al.bind fun d' S => (ed ρ S).bind fun ds S => .ok (d' :: ds) S).bind fun ds S => .ok (d :: ds) S) σ H Q → tPairs ((semE g E ek, semE g E ev) :: trs) σ H Q := by
  rintro σ H Q ⟨θ, ρ, S, eo, rs, q⟩
  refine ⟨θ, ρ, S, eo, rs, q.bind.al.mono fun w S1 θ1 H1 st1 rs1 c1 x hx => ?_⟩
  obtain ⟨d, S2, θ2, st2, rs2, hd, c2⟩ := c1 x hx
  refine ⟨θ2, ρ, S2, eo.step st2, rs2, c2.bind.bind.al.mono fun w' S3 θ3 H3 st3 rs3 c3 y hy => ?_⟩
  obtain ⟨d', S4, θ4, st4, rs4, hd', c4⟩ := c3 y hy
  refine hr _ _ _ ⟨θ4, ρ, S4, (eo.step st2).step st4, rs4, c4.bind.mono fun ds S5 θ5 H5 st5 rs5 c5 ps hps => ?_⟩
  exact (c5 θ5 H5 Step.refl rs5) θ5 H5 Step.refl rs5 ((x, y) :: ps) (HasDs.cons ((hd.step st4).step st5) (HasDs.cons (hd'.step st5) hps))
theorem pairUp_ok {θ : List Addr} {H : Hp} : ∀ {ds : List D} {dp : List (D × D)} {ps : List (V × V)}, pairUp ds = some dp → HasDs g.K θ H ds (ps.flatMap fun p => [p.1, p.2]) → dp.all (fun p => p.1.keyK) = true →
    ∃ kvs : List (Key × V), ps = kvs.map (fun kv => (kV kv.1, kv.2)) ∧ kvs.length = dp.length ∧ RelK g.K θ H dp kvs
  | [], dp, ps, e, h, _ => by
    cases e
    cases ps with
    | nil => exact ⟨[], rfl, rfl, .nil⟩
    | cons p r => exact absurd h.of_nil (by simp)
  | [d], dp, ps, e, _, _ => by cases e
  | k :: v :: r, dp, ps, e, h, hk => by
    simp only [pairUp] at e
    cases er : pairUp r with
    | none => rw [er] at e; cases e
    | some dr =>
      rw [er] at e
      cases e
      cases ps with
      | nil => exact absurd h (by simp [HasDs])
      | cons p ps =>
        have h' : HasDs g.K θ H (k :: v :: r) (p.1 :: p.2 :: ps.flatMap fun p => [p.1, p.2]) := h
        obtain ⟨h1, h4⟩ := h'.of_cons
        obtain ⟨h2, h3⟩ := h4.of_cons
        simp only [List.all_cons, Bool.and_eq_true] at hk
        obtain ⟨kvs, rfl, hl, rk⟩ := pairUp_ok er h3 hk.2
        obtain ⟨q, e1, e2⟩ := keyK_ok h1 hk.1
        refine ⟨(q, p.2) :: kvs, ?_, by simp [hl], .cons ⟨e1, h2⟩ rk⟩
        obtain ⟨p1, p2⟩ := p
        rw [List.map_cons]
        simp only at e2
        rw [e2]
theorem merge_ok {θ : List Addr} {H : Hp} : ∀ {dp : List (D × D)} {kvs : List (Key × V)} {acc : List (D × D)} {kacc : List (Key × V)}, RelK g.K θ H dp kvs → RelK g.K θ H acc kacc → RelK g.K θ H (dp.foldl (fun acc p => put acc p.1 p.2) acc) (mergeK kacc kvs)
  | _, _, _, _, .nil, h => h
  | (k, d) :: dp, (q, v) :: kvs, acc, kacc, .cons h t, ha => by
    obtain ⟨h1, h2⟩ := h
    have h1 : k = keyD q := h1
    subst h1
    show RelK g.K θ H (dp.foldl (fun acc p => put acc p.1 p.2) (put acc (keyD q) d)) (mergeK (putK kacc q v) kvs)
    exact merge_ok (dp := dp) (kvs := kvs) t (put_ok keyD_inj q h2 ha)
theorem mono_ownK {K : PySem.W.Frag} {θ : List Addr} {H : Hp} {a : Addr} {vs : List (Key × V)} {o : HO} (h : H a = some (.dK vs)) : Mono K θ H θ (upd H a o) :=
  ⟨fun _ _ e => e, fun b xs e => by
    rw [upd_ne (fun w => by subst w; rw [h] at e; cases e)]; exact e, fun b xs e => by
    rcases e with ⟨u, e⟩ | e
    · exact .inl ⟨u, by rw [upd_ne (fun w => by subst w; rw [h] at e; cases e)]; exact e⟩
    · exact .inr e⟩
theorem own_new {K : PySem.W.Frag} {θ θ' : List Addr} {H H' : Hp} {a : Addr} {o : HO} (st : Step K θ H θ' H') (f : H a = none) : Step K θ H θ' (upd H' a o) :=
  ⟨st.pre, fun b u e n => by rw [upd_ne (ne_of_none e f)]; exact st.keep b u e n, st.free, fun b xs e => by rw [upd_ne (ne_of_none e f)]; exact st.tup b xs e, fun b xs e => by
    rcases e with ⟨u, e⟩ | e
    · rcases st.fz b xs (.inl ⟨u, e⟩) with ⟨u', q⟩ | q
      · exact .inl ⟨u', by rw [upd_ne (ne_of_none e f)]; exact q⟩
      · exact .inr q
    · exact .inr e⟩
theorem own_relK {θ : List Addr} {H : Hp} {S : Sto} {a : Addr} {vs : List (Key × V)} {o : HO} (r : RelS g θ H S) (h : H a = some (.dK vs)) (n : a ∉ θ) : RelS g θ (upd H a o) S :=
  ⟨r.len, r.nd, fun m u e => by
    obtain ⟨b, ho, e1, e2, e3⟩ := r.at_ m u e
    exact ⟨b, ho, e1, by rw [upd_ne (fun w => n (by rw [← w]; exact List.mem_of_getElem? e1))]; exact e2, e3.mono (mono_ownK h)⟩⟩
theorem own_stay {K : PySem.W.Frag} {θ θ' : List Addr} {H H' : Hp} {a : Addr} {o : HO} (st : Step K θ H θ' H') (h : H a = some o) (n : a ∉ θ) : H' a = some o ∧ a ∉ θ' :=
  ⟨st.keep a o h n, fun m => by
    rcases st.free a m with z | z
    · exact n z
    · rw [h] at z; cases z⟩
theorem dic_ok {keys : List (Option Expr)} {values : List Expr} {trs : List (TE × TE)} (hp : PPs X pos keys values trs) (ht : ∀ σ H Q, semPr g E ed σ H Q → tPairs trs σ H Q) (hall : keys.all (·.isSome) = true) (hl : keys.length = values.length) (h0 : keys ≠ []) (h15 : keys.length ≤ 15) :
    PE X (.Dict keys values pos) (semE g E fun ρ S => (ed ρ S).bind fun ds S => PyI.opt (dicW ds) S) :=
  PEw (pe_disp hp hall hl h0 h15) fun σ H Q ⟨θ, ρ, S, eo, rs, q⟩ p hf => by
    have hn := rs.new_notin hf
    refine ht _ _ _ ⟨θ, ρ, S, eo.step (Step.new hf), rs.new hf, ?_⟩
    dsimp only at q
    cases hr : ed ρ S with
    | bad => rw [hr] at q; exact q.elim
    | ex C' fs S' =>
      rw [hr] at q
      exact CaseR.from (Step.new hf) q
    | ok ds S1 =>
      rw [hr] at q
      obtain ⟨w, ew, q⟩ := CaseR.opt' (show CaseR g θ H (PyI.opt (dicW ds) S1) E _ from q)
      intro θ1 H1 st1 rs1 ps hps
      obtain ⟨hp1, hn1⟩ := own_stay st1 upd_same hn
      unfold dicW at ew
      split at ew
      · rename_i dp hdp
        split at ew
        · rename_i hk
          cases ew
          obtain ⟨kvs, rfl, hlen, rk⟩ := pairUp_ok hdp hps hk.1
          refine ⟨hp1, kvs, rfl, by rw [hlen]; exact hk.2, ?_⟩
          have st2 : Step g.K θ H θ1 (upd H1 p (.dK (mergeK [] kvs))) := by
            refine own_new ⟨st1.pre, fun b u e n => st1.keep b u (by rw [upd_ne (ne_of_none e hf)]; exact e) n, fun b m => ?_, fun b xs e => st1.tup b xs (by rw [upd_ne (ne_of_none e hf)]; exact e), fun b xs e => st1.fz b xs (fzL_upd hf e)⟩ hf
            rcases st1.free b m with z | z
            · exact .inl z
            · by_cases hb : b = p
              · subst hb; exact .inr hf
              · rw [upd_ne hb] at z; exact .inr z
          exact q θ1 _ st2 (own_relK rs1 hp1 hn1) (.ref p) ⟨p, _, rfl, upd_same, hn1, ⟨_, rfl, Paired.imp (fun a b z => ⟨z.1, z.2.mono (mono_ownK hp1)⟩) (merge_ok rk .nil)⟩, hf⟩
        · cases ew
      · cases ew
end
end PyI

set_option maxRecDepth 100000
set_option maxHeartbeats 1000000
/-! PyI: targets, comprehensions. -/
namespace PyI
open PySem PySem.Spec PyProof.Rows L2
/-! ### slots forgotten -/
theorem wipe_get (σ : L2.St) (j : Nat) : ∀ vs : List Nat, (wipe σ vs)[j]? = if j ∈ vs then (σ[j]?).map (fun _ => none) else σ[j]?
  | [] => by simp [wipe]
  | v :: vs => by
    unfold wipe
    rw [List.getElem?_set, wipe_get σ j vs, wipe_length]
    by_cases h : v = j
    · subst h
      rw [if_pos rfl]
      by_cases h2 : v < σ.length
      · rw [if_pos h2, if_pos List.mem_cons_self, List.getElem?_eq_getElem h2]
        rfl
      · rw [if_neg h2, if_pos List.mem_cons_self, List.getElem?_eq_none (by omega)]
        rfl
    · rw [if_neg h]
      by_cases h3 : j ∈ vs
      · rw [if_pos h3, if_pos (List.mem_cons_of_mem _ h3)]
      · rw [if_neg h3, if_neg]
        intro z
        rcases List.mem_cons.mp z with z | z
        · exact h z.symm
        · exact h3 z
theorem wipe_idem (σ : L2.St) (vs : List Nat) : wipe (wipe σ vs) vs = wipe σ vs := by
  apply List.ext_getElem?
  intro j
  rw [wipe_get, wipe_get]
  split
  · cases σ[j]? <;> rfl
  · rfl
theorem wipe_put (σ : L2.St) {vs : List Nat} {i : Nat} {x : Option V} (h : i ∈ vs) : wipe (σ.set i x) vs = wipe σ vs := by
  apply List.ext_getElem?
  intro j
  rw [wipe_get, wipe_get, List.getElem?_set]
  by_cases hij : i = j
  · subst hij
    rw [if_pos h, if_pos h, if_pos rfl]
    by_cases hl : i < σ.length
    · rw [if_pos hl, List.getElem?_eq_getElem hl]
      rfl
    · rw [if_neg hl, List.getElem?_eq_none (by omega)]
  · rw [if_neg hij]
/-! ### targets -/
def gL : List Nat → TGs
  | [] => gNil
  | i :: is => gCons (gName i) (gL is)
def gT (K : PySem.W.Frag) : Tg → TG
  | .nm i => gName i
  | .tp is => gTup K is.length (gL is)
section
variable {K : PySem.W.Frag} {θ : List Addr} {H : Hp} {Q : L2.St → Hp → Prop}
theorem gL_of : ∀ {is : List Nat} {ds : List D} {xs : List V} {σ : L2.St} {ρ : Env}, ds.length = is.length → HasDs K θ H ds xs → EnvOk K θ H σ ρ → (∀ σ', EnvOk K θ H σ' (putEs ρ is ds) → (∀ vs, (∀ i ∈ is, i ∈ vs) → wipe σ' vs = wipe σ vs) → Q σ' H) → gL is xs σ H Q
  | [], [], xs, σ, ρ, _, hv, eo, q => ⟨hv.of_nil, q σ eo fun _ _ => rfl⟩
  | i :: is, d :: ds, xs, σ, ρ, hl, hv, eo, q => by
    obtain ⟨v, r, rfl, h1, h2⟩ := hv.of_cons'
    refine ⟨v, r, rfl, gL_of (by simpa using hl) h2 (eo.set i h1) fun σ' eo' hw => q σ' eo' fun vs hm => ?_⟩
    rw [hw vs fun j hj => hm j (List.mem_cons_of_mem _ hj)]
    exact wipe_put σ (hm i List.mem_cons_self)
  | [], _ :: _, _, _, _, hl, _, _, _ => by cases hl
  | _ :: _, [], _, _, _, hl, _, _, _ => by cases hl
theorem gT_of {t : Tg} {d : D} {v : V} {ρ ρ' : Env} {σ : L2.St} (eo : EnvOk K θ H σ ρ) (hd : HasD K θ H d v) (hp : t.put d ρ = some ρ') (q : ∀ σ', EnvOk K θ H σ' ρ' → (∀ vs, slotsIn t vs = true → wipe σ' vs = wipe σ vs) → Q σ' H) : gT K t v σ H Q := by
  cases t with
  | nm i =>
    cases hp
    refine q _ (eo.set i hd) fun vs hs => wipe_put σ ?_
    unfold slotsIn at hs
    simpa using hs
  | tp is =>
    unfold Tg.put at hp
    dsimp only at hp
    split at hp
    · rename_i ds
      split at hp
      · rename_i hl
        cases hp
        obtain ⟨a, xs, rfl, ht, hv⟩ := HasD.tup_iff.mp hd
        refine ⟨a, xs, rfl, .inl (.inl ht), by rw [← hv.length, hl], gL_of hl hv eo fun σ' eo' hw => q σ' eo' fun vs hs => hw vs fun i hi => ?_⟩
        unfold slotsIn at hs
        have := List.all_eq_true.mp hs i hi
        simpa using this
      · cases hp
    · cases hp
end
section
variable {X : Cx} {g : Gd} {T : Tb} {c : Cb2} {sc : Scope} {E : XK}
theorem nm_ok {tg : Expr} {i : Nat} (C : CtxE X g T c E sc) (h : nmB X.N sc i tg = true) : PG X tg (gName i) := by
  unfold nmB at h
  split at h
  · rw [Bool.and_eq_true] at h
    exact pg_name C.nd (sqB_ok h.1) (C.wr _ h.2).1 (C.wr _ h.2).2
  · cases h
theorem nms_each {env : PySem.Env} : ∀ {is : List Nat} {es : List Expr}, nmsB X.N sc is es = true → (assignEach es env).length = is.length ∧ (assignEach es env).findIdx? (·.1) = none
  | [], [], _ => ⟨rfl, rfl⟩
  | i :: is, e :: es, h => by
    unfold nmsB at h
    rw [Bool.and_eq_true] at h
    obtain ⟨h1, h2⟩ := nms_each (env := env) h.2
    have h0 := h.1
    unfold nmB at h0
    split at h0
    · refine ⟨?_, ?_⟩
      · show (assignEach es env).length + 1 = _
        rw [List.length_cons, h1]
      · rename_i x p
        show List.findIdx? (·.1) ((false, assign (.Name x p) env) :: assignEach es env) = none
        rw [List.findIdx?_cons, h2]
        rfl
    · cases h0
  | [], _ :: _, h => by cases h
  | _ :: _, [], h => by cases h
theorem nms_ok (C : CtxE X g T c E sc) : ∀ {is : List Nat} {es : List Expr}, nmsB X.N sc is es = true → PGs X es (gL is)
  | [], [], _ => pgs_nil
  | i :: is, e :: es, h => by
    unfold nmsB at h
    rw [Bool.and_eq_true] at h
    refine pgs_cons (nm_ok C h.1) (nms_ok C h.2) ?_
    have h0 := h.1
    unfold nmB at h0
    split at h0
    · rfl
    · cases h0
  | [], _ :: _, h => by cases h
  | _ :: _, [], h => by cases h
theorem tg_ok {t : Tg} {tg : Expr} (C : CtxE X g T c E sc) (h : chkT X.N sc t tg = true) : PG X tg (gT X.K t) := by
  cases t with
  | nm i => exact nm_ok C h
  | tp is =>
    unfold chkT at h
    dsimp only at h
    split at h
    · obtain ⟨h1, h2⟩ := nms_each (env := X.env) h
      exact pg_tup C.calm (nms_ok C h) h1 h2
    · cases h
/-! ### the context of a block -/
def E0 : XK := fun _ _ _ => False
theorem lk_rel {sc : Scope} : ∀ {names : List (Str × NameKind)} {x : Str} {k : NameKind}, names.lookup x = some k →
    ∃ k', (names.map fun (n, k) => if (k == NameKind.free && sc.kind == .function && sc.names.lookup n == some .cell) then (n, NameKind.cell) else (n, k)).lookup x = some k' ∧ (k' = k ∨ (k = .free ∧ k' = .cell))
  | [], _, _, h => by cases h
  | (n, k₀) :: r, x, k, h => by
    show ∃ k', List.lookup x ((if (k₀ == NameKind.free && sc.kind == .function && sc.names.lookup n == some .cell) = true then (n, NameKind.cell) else (n, k₀)) :: (r.map _)) = some k' ∧ _
    cases hx : x == n with
    | true =>
      rw [List.lookup_cons, hx] at h
      cases h
      split
      · rename_i hc
        rw [Bool.and_eq_true, Bool.and_eq_true] at hc
        exact ⟨.cell, by rw [List.lookup_cons, hx], .inr ⟨eq_of_beq hc.1.1, rfl⟩⟩
      · exact ⟨k₀, by rw [List.lookup_cons, hx], .inl rfl⟩
    | false =>
      rw [List.lookup_cons, hx] at h
      obtain ⟨k', h1, h2⟩ := lk_rel (sc := sc) h
      refine ⟨k', ?_, h2⟩
      split <;> (rw [List.lookup_cons, hx]; exact h1)
theorem CtxE.blk {s : Shared} {H : Hp} {Ca : Addr} {cl : List (Str × Addr)} {fp : List Addr} {sc' : Scope} (C : CtxE X g T c E sc) (hkf : sc'.kind = .function) : CtxE (X.blk s H sc' (compEnvC sc' cl Ca X.env) fp) g T c E0 sc' where
  K := C.K
  calm := C.calm
  nd := C.nd
  hu := C.hu
  loc := fun x h => by
    unfold visB at h
    split at h
    · rename_i e
      exact .inl (lookup_relS_keep (by decide) e)
    · rename_i e
      exact .inr (.inl (lookup_relS_keep (by decide) e))
    · rename_i e
      obtain ⟨k', h1, h2⟩ := lk_rel (sc := X.env.scope) e
      rcases h2 with rfl | ⟨_, rfl⟩
      · exact .inr (.inr h1)
      · exact .inr (.inl h1)
    · cases h
  wr := fun x h => by
    unfold locB at h
    split at h
    · rename_i e
      have := lookup_relS_keep (sc := X.env.scope) (by decide) e
      exact ⟨.inl this, .inr this⟩
    · rename_i e
      refine ⟨.inr (lookup_relS_keep (by decide) e), .inl ?_⟩
      show (sc'.names.lookup x == some .cell) = true
      rw [e]
      rfl
    · cases h
  glo := fun x h => by
    unfold gloB at h
    split at h
    · rename_i e
      exact lookup_relS_keep (sc := X.env.scope) (by decide) e
    · cases h
  cel := fun x h => by
    rcases h with h | h
    · exact .inl (lookup_relS_keep (by decide) h)
    · obtain ⟨k', h1, h2⟩ := lk_rel (sc := X.env.scope) h
      rcases h2 with rfl | ⟨_, rfl⟩
      · exact .inr h1
      · exact .inl h1
  kf := hkf
  exa := fun x k hk h => lookup_relS_keep (sc := X.env.scope) hk h
  own := fun e s1 h => h.elim
  nm := C.nm
  ini := C.ini
  pass := fun pins σ H s e s' I ⟨_, _, _, _, _, _, _, _, _, _, _, _, h⟩ => h
  fn := C.fn
  meth := C.meth
  make := C.make
  attr := C.attr
  blt := C.blt
  glbs := C.glbs
theorem blk_of {sc' : Scope} {own : List (Str × Nat)} (C : CtxE X g T c E sc) (h : blkC X.N sc sc' own = true) : BlkOk X.N X.env.scope sc' own := by
  obtain ⟨h1, h2, h3, h4, h5⟩ := blkOk_by h
  exact ⟨h1, h2, h3, fun y hy e => C.cel _ (h4 y hy e), h5⟩
/-! ### the list of its own -/
theorem Step.own {K : PySem.W.Frag} {θ θ' : List Addr} {H H' : Hp} {a : Addr} {o : HO} (st : Step K θ H θ' H') (f : H a = none) : Step K θ H θ' (upd H' a o) :=
  ⟨st.pre, fun b u e n => by rw [upd_ne (ne_of_none e f)]; exact st.keep b u e n, st.free, fun b xs e => by rw [upd_ne (ne_of_none e f)]; exact st.tup b xs e, fun b xs e => by
    rcases e with ⟨u, e⟩ | e
    · rcases st.fz b xs (.inl ⟨u, e⟩) with ⟨u', q⟩ | q
      · exact .inl ⟨u', by rw [upd_ne (ne_of_none e f)]; exact q⟩
      · exact .inr q
    · exact .inr e⟩
theorem mono_own {K : PySem.W.Frag} {θ : List Addr} {H : Hp} {a : Addr} {vs : List V} {o : HO} (h : H a = some (.lst vs)) : Mono K θ H θ (upd H a o) :=
  ⟨fun _ _ e => e, fun b xs e => by
    rw [upd_ne (fun w => by subst w; rw [h] at e; cases e)]; exact e, fun b xs e => by
    rcases e with ⟨u, e⟩ | e
    · exact .inl ⟨u, by rw [upd_ne (fun w => by subst w; rw [h] at e; cases e)]; exact e⟩
    · exact .inr e⟩
theorem RelS.own {θ : List Addr} {H : Hp} {S : Sto} {a : Addr} {vs : List V} {o : HO} (r : RelS g θ H S) (h : H a = some (.lst vs)) (n : a ∉ θ) : RelS g θ (upd H a o) S :=
  ⟨r.len, r.nd, fun m u e => by
    obtain ⟨b, ho, e1, e2, e3⟩ := r.at_ m u e
    exact ⟨b, ho, e1, by rw [upd_ne (fun w => n (by rw [← w]; exact List.mem_of_getElem? e1))]; exact e2, e3.mono (mono_own h)⟩⟩
theorem Step.stayN {K : PySem.W.Frag} {θ θ' : List Addr} {H H' : Hp} {a : Addr} {o : HO} (st : Step K θ H θ' H') (h : H a = some o) (n : a ∉ θ) : H' a = some o ∧ a ∉ θ' :=
  ⟨st.keep a o h n, fun m => by
    rcases st.free a m with z | z
    · exact n z
    · rw [h] at z; cases z⟩
/-! ### comprehensions -/
def lcF (ec : Env → Sto → Res Bool) (ee : Env → Sto → Res W) (t : Tg) (ρ : Env) (x : D) (S : Sto) : Res (Option D) := Res.nox (match t.put x ρ with
    | some ρ' => (ec ρ' S).bind fun b S => if b = true then (ee ρ' S).al.bind fun y S => .ok (some y) S else .ok none S
    | none => .bad)
theorem nox_ok {α : Type} {r : Res α} {a : α} {S : Sto} (h : r.nox = .ok a S) : r = .ok a S := by
  cases r with
  | ok a' S' => exact h
  | ex C fs S' => cases h
  | bad => cases h
theorem nox_ex {α : Type} {r : Res α} {C : Nat} {fs : List (Nat × D)} {S : Sto} (h : r.nox = .ex C fs S) : False := by
  cases r <;> cases h
theorem lc_of {vs : List Nat} {t : Tg} {ei : Env → Sto → Res Wk} {ec : Env → Sto → Res Bool} {ee : Env → Sto → Res W} (hK : X.K = g.K) (hsl : slotsIn t vs = true) : ∀ σ H Q, semE g E (fun ρ S => (ei ρ S).bind fun k S => lcGo k (lcF ec ee t (wipeE ρ vs)) k.items [] S) σ H Q → tLc (semI g E ei) (gT X.K t) (semT g E0 ec) (semE g E0 ee) vs σ H Q := by
  rintro σ H Q ⟨θ, ρ, S, eo, rs, q⟩
  refine ⟨θ, ρ, S, eo, rs, q.bind.mono fun k S1 θ1 H1 st1 rs1 c1 J hJ D hD => ?_⟩
  have hD0 : H D = none := st1.back rs1 hD
  refine ⟨fun i m Hh => i ≤ k.items.length ∧ m = k.items.length - i ∧ ∃ θ' S' acc xs, Step g.K θ1 H1 θ' Hh ∧ RelS g θ' Hh S' ∧ Hh D = some (.lst xs) ∧ D ∉ θ' ∧ HasDs g.K θ' Hh acc xs ∧
    CaseR g θ1 H1 (lcGo k (lcF ec ee t (wipeE ρ vs)) (k.items.drop i) acc S') E fun w _ θ' H' => ∀ v, HasW g H θ' H' w v → Q v H', ⟨_, Nat.zero_le _, rfl, θ1, S1, [], [], Step.new hD, rs1.new hD, upd_same, rs1.new_notin hD, HasDs.nil, c1⟩, ?_⟩
  rintro i m Hh ⟨hi, rfl, θ', S', acc, xs, st, rs', hDh, hn, hacc, cc⟩
  cases ex : k.items[i]? with
  | none =>
    have hl := List.getElem?_eq_none_iff.mp ex
    rw [List.drop_eq_nil_of_le hl] at cc
    unfold lcGo at cc
    split at cc
    · rename_i hst
      exact .inl ⟨hJ.stop θ' Hh S' i st rs' hst ex, cc θ' Hh st rs' (.ref D) ⟨D, .lst xs, rfl, hDh, hn, ⟨xs, rfl, hacc⟩, hD0⟩⟩
    · exact cc.elim
  | some x =>
    have hl := (List.getElem?_eq_some_iff.mp ex).1
    have hdr : k.items.drop i = x :: k.items.drop (i + 1) := by
      rw [List.drop_eq_getElem_cons hl]
      rw [List.getElem?_eq_getElem hl] at ex
      cases ex
      rfl
    rw [hdr] at cc
    unfold lcGo at cc
    split at cc
    · rename_i hst
      refine .inr ⟨hJ.go θ' Hh S' i x st rs' hst ex, fun Hn => i + 1 ≤ k.items.length ∧ ∃ θ' S' acc xs, Step g.K θ1 H1 θ' Hn ∧ RelS g θ' Hn S' ∧ Hn D = some (.lst xs) ∧ D ∉ θ' ∧ HasDs g.K θ' Hn acc xs ∧
        CaseR g θ1 H1 (lcGo k (lcF ec ee t (wipeE ρ vs)) (k.items.drop (i + 1)) acc S') E fun w _ θ' H' => ∀ v, HasW g H θ' H' w v → Q v H', fun Hn ⟨h1, h2⟩ => ⟨k.items.length - (i + 1), by omega, h1, rfl, h2⟩, fun y Hy hy => ?_⟩
      obtain ⟨sty, rsy, hxy⟩ := hJ.yld θ' Hh S' i x y Hy st rs' hst ex hy
      obtain ⟨hDy, _⟩ := sty.stayN hDh hn
      cases hF : lcF ec ee t (wipeE ρ vs) x S' with
      | bad => rw [hF] at cc; exact cc.elim
      | ex C' fs S3 => exact (nox_ex hF).elim
      | ok r S'' =>
        rw [hF] at cc
        dsimp only [Res.bind] at cc
        have hI := nox_ok hF
        cases hp : t.put x (wipeE ρ vs) with
        | none => rw [hp] at hI; cases hI
        | some ρ' =>
          rw [hp] at hI
          have cy : CaseR g θ' Hy ((ec ρ' S').bind fun b S => if b = true then (ee ρ' S).al.bind fun y S => .ok (some y) S else .ok none S) E0 fun r' S3 _ _ => r' = r ∧ S3 = S'' := by
            dsimp only at hI
            rw [hI]
            exact fun _ _ _ _ => ⟨rfl, rfl⟩
          rw [hK]
          refine gT_of (((eo.step st1).step (st.trans sty)).wipe vs) hxy hp fun σ2 eo2 hw => ⟨by rw [hw vs hsl, wipe_idem], θ', ρ', S', eo2, rsy, cy.bind.mono fun b S3 θ3 H3 st3 rs3 c3 => ?_⟩
          have st13 := (st.trans sty).trans st3
          obtain ⟨hD3, hn3⟩ := st3.stayN hDy (sty.stayN hDh hn).2
          cases b with
          | false =>
            dsimp only at c3 ⊢
            rw [if_neg (by decide)]
            rw [if_neg (by decide)] at c3
            obtain ⟨rfl, rfl⟩ := c3 θ3 H3 Step.refl rs3
            exact ⟨by omega, θ3, S3, acc, xs, st13, rs3, hD3, hn3, hacc.step (sty.trans st3), cc⟩
          | true =>
            dsimp only at c3 ⊢
            rw [if_pos rfl]
            rw [if_pos rfl] at c3
            refine ⟨θ3, ρ', S3, eo2.step st3, rs3, c3.bind.al.mono fun w S4 θ4 H4 st4 rs4 c4 y hy => ?_⟩
            obtain ⟨d, S5, θ5, st5, rs5, hd, c5⟩ := c4 y hy
            obtain ⟨rfl, rfl⟩ := c5 θ5 H4 Step.refl rs5
            dsimp only at cc
            split at cc
            · rename_i hlen
              obtain ⟨hD5, hn5⟩ := st5.stayN hD3 hn3
              have hacc5 := hacc.step ((sty.trans st3).trans st5)
              have hmo := mono_own (K := g.K) (θ := θ5) (o := .lst (xs ++ [y])) hD5
              exact ⟨xs, hD5, line_lt (by rw [← hacc.length]; exact hlen), by omega, θ5, S5, acc ++ [d], xs ++ [y], (st13.trans st5).own hD, rs5.own hD5 hn5, upd_same, hn5, (hacc5.append (HasDs.cons hd HasDs.nil)).mono hmo, cc⟩
            · exact cc.elim
    · exact cc.elim
theorem lc_ok {vs : List Nat} {t : Tg} {sc' : Scope} {tg iter elt : Expr} {ifs : List Expr} {pos : Pos} {ei : Env → Sto → Res Wk} {ec : Env → Sto → Res Bool} {ee : Env → Sto → Res W} (C : CtxE X g T c E sc) (hi : PI X tg iter (semI g E ei)) (hb : blkC X.N sc sc' (ownOf X.N vs) = true)
    (hv : ((ownOf X.N vs).map (·.2) == vs) = true) (htg : chkT X.N sc' t tg = true) (hsl : slotsIn t vs = true) (hs : ∀ x, foldedSetIterable iter X.env x = pure x)
    (hc : ∀ X', X'.N = X.N → CtxE X' g T c E0 sc' → PTs X' ifs (semT g E0 ec)) (he : ∀ X', X'.N = X.N → CtxE X' g T c E0 sc' → PE X' elt (semE g E0 ee)) :
    PE X (.ListComp elt [⟨tg, iter, ifs, 0⟩] sc' pos) (semE g E fun ρ S => (ei ρ S).bind fun k S => lcGo k (lcF ec ee t (wipeE ρ vs)) k.items [] S) := by
  have hv' : (ownOf X.N vs).map (·.2) = vs := eq_of_beq hv
  have hbk := (blk_of C hb).kind
  refine PEw (pe_lc (g := gT X.K t) C.calm C.nd hi (blk_of C hb) (fun s H Ca cl fp => tg_ok (C.blk hbk) htg) (fun s H Ca cl fp => hc _ rfl (C.blk hbk)) (fun s H Ca cl fp => he _ rfl (C.blk hbk)) hs) ?_
  rw [hv']
  exact lc_of C.K hsl
end
end PyI

set_option maxRecDepth 100000
set_option maxHeartbeats 2000000
/-! PyI: every expression. -/
namespace PyI
open PySem PySem.Spec PyProof.Rows L2
def plainT : Expr → Bool
  | .UnaryOp .Not _ _ => false
  | .BoolOp _ _ _ => false
  | .IfExp _ _ _ _ => false
  | .Compare _ _ _ _ => false
  | _ => true
def boB : Expr → Bool
  | .BoolOp _ _ _ => true
  | _ => false
theorem isTrue_of {e : Expr} (h : plainT e = true) (env : PySem.Env) (whole : Sem Value) : PySem.isTrue e env whole = (do let v ← whole; standAt e.pos; holding [v] (truthy v)) := by
  unfold PySem.isTrue
  split <;> first
    | rfl
    | cases h
def OkE (X : Cx) (g : Gd) (E : XK) (pe : Expr) (ev : Env → Sto → Res W) : Prop := PE X pe (semE g E ev) ∧ PT X pe (semT g E (tst ev)) ∧ (boB pe = true → PW X pe (semT g E (tst ev)))
section
variable {X : Cx} {g : Gd} {E : XK} {pe a b : Expr} {ev ea eb : Env → Sto → Res W}
theorem OkE.plain (h : PE X pe (semE g E ev)) (hp : plainT pe = true) : OkE X g E pe ev := by
  refine ⟨h, pt_of (pt_val h (isTrue_of hp X.env)), fun z => ?_⟩
  cases pe <;> first
    | (cases z; done)
    | (cases hp; done)
theorem OkE.test (h : PE X pe (semE g E ev)) (ht : PT X pe (semT g E (tst ev))) (hp : boB pe = false) : OkE X g E pe ev := ⟨h, ht, fun z => by rw [hp] at z; cases z⟩
theorem bin_of {f : W → W → Sto → Option W} {σ : L2.St} {H : Hp} {Q : VK} : semE g E (fun ρ S => (ea ρ S).bind fun x S => (eb ρ S).bind fun y S => PyI.opt (f x y S) S) σ H Q → tOp (rW g f) (semE g E ea) (semE g E eb) σ H Q := fun ⟨θ, ρ, S, eo, rs, q⟩ => by
  refine ⟨θ, ρ, S, eo, rs, q.bind.mono fun wx S1 θ1 H1 st1 rs1 c1 x hx => ?_⟩
  refine ⟨θ1, ρ, S1, eo.step st1, rs1, c1.bind.mono fun wy S2 θ2 H2 st2 rs2 c2 y hy => ?_⟩
  obtain ⟨w, ew, q⟩ := c2.opt'
  exact ⟨θ2, S2, wx, wy, w, H, rs2, hx.step st2, hy.early st1 rs1, ew, fun v H3 st3 rs3 hv => q θ2 H3 st3 rs3 v (hv.early (st1.trans st2) rs2)⟩
theorem and_ok {rest : List Expr} {p : Pos} (ha : OkE X g E a ea) (hb : PE X (.BoolOp .And (b :: rest) p) (semE g E eb)) (hw : PW X (.BoolOp .And (b :: rest) p) (semT g E (tst eb))) : OkE X g E (.BoolOp .And (a :: b :: rest) p) (andE ea eb) := by
  have w : PW X (.BoolOp .And (a :: b :: rest) p) (semT g E (tst (andE ea eb))) := PWw (pw_and ha.2.1 hw) fun _ _ _ => tAnd_of
  exact ⟨PEw (pe_and ha.1 (bl_ok hb)) fun _ _ _ => tAndV_of, w.pt, fun _ => w⟩
theorem or_ok {rest : List Expr} {p : Pos} (ha : OkE X g E a ea) (hb : PE X (.BoolOp .Or (b :: rest) p) (semE g E eb)) (hw : PW X (.BoolOp .Or (b :: rest) p) (semT g E (tst eb))) : OkE X g E (.BoolOp .Or (a :: b :: rest) p) (orE ea eb) := by
  have w : PW X (.BoolOp .Or (a :: b :: rest) p) (semT g E (tst (orE ea eb))) := PWw (pw_or ha.2.1 hw) fun _ _ _ => tOr_of
  exact ⟨PEw (pe_or ha.1 (bl_ok hb)) fun _ _ _ => tOrV_of, w.pt, fun _ => w⟩
end
theorem notSet_I {T : Tb} {N : List Str} {it : Itx} {sc : Scope} {tp : Bool} {pe : Expr} (h : chkI T N it sc tp pe = true) (env : PySem.Env) (x : Value) : foldedSetIterable pe env x = pure x := by
  cases pe <;> first
    | rfl
    | (cases it <;> simp [chkI] at h)
theorem chkEs_star {T : Tb} {N : List Str} {sc : Scope} : ∀ {es : Exs} {xs : List Expr}, chkEs T N es sc xs = true → noStars xs = true
  | .nil, [], _ => rfl
  | .nil, _ :: _, h => by simp [chkEs] at h
  | .cons e r, [], h => by simp [chkEs] at h
  | .cons e r, x :: xs, h => by
    simp only [chkEs, Bool.and_eq_true] at h
    unfold noStars
    rw [h.1, chkEs_star h.2.2]
    rfl
theorem chkEs_nilD {T : Tb} {N : List Str} {sc : Scope} {cb ci : Cb} {ini : Nat → Option Nat} {es : Exs} {xs : List Expr} (h : chkEs T N es sc xs = true) (e : xs = []) : evDs cb ci ini es = fun _ S => .ok [] S := by
  subst e
  cases es with
  | nil => rfl
  | cons e r => simp [chkEs] at h
theorem chkEs_nilW {T : Tb} {N : List Str} {sc : Scope} {cb ci : Cb} {ini : Nat → Option Nat} {es : Exs} {xs : List Expr} (h : chkEs T N es sc xs = true) (e : xs = []) : evWs cb ci ini es = fun _ S => .ok [] S := by
  subst e
  cases es with
  | nil => rfl
  | cons e r => simp [chkEs] at h
theorem tPTs {X : Cx} {ifs : List Expr} {t t' : TT} (h : PTs X ifs t) (w : ∀ σ H Q, t' σ H Q → t σ H Q) : PTs X ifs t' := ⟨fun pins s σ H Q I q => h.run pins s σ H Q I (w _ _ _ q)⟩
mutual
theorem exp_ok {T : Tb} {g : Gd} {c : Cb2} : ∀ (e : Ex) {X : Cx} {E : XK} {sc : Scope} {pe : Expr}, CtxE X g T c E sc → chkE T X.N e sc pe = true → OkE X g E pe (evE c.cb c.ci c.ini e)
  | .con d, X, E, sc, pe, C, h => by
    simp only [chkE] at h
    split at h
    · exact .plain (con_ok h) rfl
    · split at h
      · rename_i j
        rw [show j = -_ from eq_of_beq h]
        exact .plain negc_ok rfl
      · cases h
    · cases h
  | .var i, X, E, sc, pe, C, h => by
    simp only [chkE] at h
    split at h
    · simp only [Bool.and_eq_true] at h
      have hp := plainN_db h.2.2
      exact .plain (var_ok (pe_var (sqB_ok h.1) (C.loc _ h.2.1) hp.1 (by simpa using hp.2.1))) rfl
    · cases h
  | .glb y d, X, E, sc, pe, C, h => by
    simp only [chkE] at h
    split at h
    · simp only [Bool.and_eq_true] at h
      obtain ⟨u, v, hm, hr, hd⟩ := C.glbs _ _ h.2.2.1
      exact .plain (pure_ok (pe_glob (C.glo _ h.2.1) hm hr (plainN_db h.2.2.2).1) hd) rfl
    · cases h
  | .bin o a b, X, E, sc, pe, C, h => by
    simp only [chkE] at h
    split at h
    · simp only [Bool.and_eq_true, decide_eq_true_eq] at h
      obtain ⟨rfl, h1, h2⟩ := h
      exact .plain (PEw (pe_op (op_binW C.K o) (exp_ok a C h1).1 (exp_ok b C h2).1) fun _ _ _ => bin_of) rfl
    · cases h
  | .neg a, X, E, sc, pe, C, h => by
    simp only [chkE] at h
    split at h
    · exact .plain (neg_ok (exp_ok a C h).1) rfl
    · cases h
  | .cmp o a b, X, E, sc, pe, C, h => by
    simp only [chkE] at h
    split at h
    · simp only [Bool.and_eq_true, decide_eq_true_eq] at h
      obtain ⟨rfl, h0, h1, h2⟩ := h
      have ha := (exp_ok a C h1).1
      have hb := (exp_ok b C h2).1
      exact .test (PEw (pe_cmpR (op_cmpW C.K C.hu o) ha hb (mark_of h0)) fun _ _ _ => bin_of) (PTw (pt_cmpR (op_cmpW C.K C.hu o) ha hb (mark_of h0)) fun _ _ _ => tTest_of fun _ _ _ => bin_of) rfl
    · cases h
  | .chain o o' a b d, X, E, sc, pe, C, h => by
    simp only [chkE] at h
    split at h
    · simp only [Bool.and_eq_true, decide_eq_true_eq] at h
      obtain ⟨rfl, rfl, h0, h00, h1, h2, h3⟩ := h
      have ha := (exp_ok a C h1).1
      have hb := (exp_ok b C h2).1
      have hd := (exp_ok d C h3).1
      exact .test (PEw (pe_chain (op_cmpW C.K C.hu o) (op_cmpW C.K C.hu o') ha hb hd (mark_of h00)) (chain_ok C.K C.hu ha hb hd)) (PTw (pt_chain (op_cmpW C.K C.hu o) (op_cmpW C.K C.hu o') ha hb hd (mark_of h00)) fun _ _ _ => tTest_of (chain_ok C.K C.hu ha hb hd)) rfl
    · cases h
  | .band a b, X, E, sc, pe, C, h => by
    simp only [chkE] at h
    split at h
    · rename_i x y rest p
      simp only [Bool.and_eq_true] at h
      obtain ⟨h1, h2⟩ := h
      split at h2
      · have hb := exp_ok b C h2
        exact and_ok (exp_ok a C h1) (pe_one hb.1) (pw_and1 hb.2.1)
      · have hb := exp_ok b C h2
        exact and_ok (exp_ok a C h1) hb.1 (hb.2.2 rfl)
    · cases h
  | .bor a b, X, E, sc, pe, C, h => by
    simp only [chkE] at h
    split at h
    · rename_i x y rest p
      simp only [Bool.and_eq_true] at h
      obtain ⟨h1, h2⟩ := h
      split at h2
      · have hb := exp_ok b C h2
        exact or_ok (exp_ok a C h1) (pe_one hb.1) (pw_or1 hb.2.1)
      · have hb := exp_ok b C h2
        exact or_ok (exp_ok a C h1) hb.1 (hb.2.2 rfl)
    · cases h
  | .bnot a, X, E, sc, pe, C, h => by
    simp only [chkE] at h
    split at h
    · have ha := exp_ok a C h
      exact .test (not_ok ha.1) (PTw (pt_not ha.2.1) fun _ _ _ => tNot_of) rfl
    · cases h
  | .ite d a b, X, E, sc, pe, C, h => by
    simp only [chkE] at h
    split at h
    · simp only [Bool.and_eq_true] at h
      have hd := exp_ok d C h.1
      have ha := exp_ok a C h.2.1
      have hb := exp_ok b C h.2.2
      exact .test (ite_ok hd.2.1 ha.1 hb.1) (pt_ite hd.2.1 ha.2.1 hb.2.1) rfl
    · cases h
  | .tup es, X, E, sc, pe, C, h => by
    simp only [chkE] at h
    split at h
    · exact .plain (tup_ok (exps_ok es C h).1) rfl
    · cases h
  | .lst es, X, E, sc, pe, C, h => by
    simp only [chkE] at h
    split at h
    · exact .plain (lst_ok (exps_ok es C h).1) rfl
    · cases h
  | .dnewK, X, E, sc, pe, C, h => by
    simp only [chkE] at h
    split at h
    · exact .plain dnewK_ok rfl
    · cases h
  | .dnewT, X, E, sc, pe, C, h => by
    simp only [chkE] at h
    split at h
    · exact .plain dnewT_ok rfl
    · cases h
  | .dic kvs, X, E, sc, pe, C, h => by
    simp only [chkE] at h
    split at h
    · rename_i ks vs p
      simp only [Bool.and_eq_true, decide_eq_true_eq] at h
      obtain ⟨h1, h2, h3⟩ := h
      obtain ⟨trs, hp, ht, ha, hl⟩ := prs_ok (pos := p) kvs C h3
      exact .plain (dic_ok hp ht ha hl (fun z => by rw [z] at h1; cases h1) h2) rfl
    · cases h
  | .lrev e, X, E, sc, pe, C, h => by
    simp only [chkE] at h
    split at h
    · simp only [Bool.and_eq_true] at h
      obtain ⟨h1, h2, h3, h4, h5, h6, h7, h8⟩ := h
      rw [eq_of_beq h1] at h3 h5 ⊢
      rw [eq_of_beq h2] at h4 h6 ⊢
      exact .plain (lrev_ok C h3 h4 h5 h6 h7 (exp_ok e C h8).1) rfl
    · cases h
  | .orv a b d, X, E, sc, pe, C, h => by
    simp only [chkE] at h
    split at h
    · simp only [Bool.and_eq_true] at h
      exact .plain (idx_ok (pe_ix (ix_W C.K C.hu) (orv_ok C.K (exp_ok a C h.2.1).1 (exp_ok b C h.2.2.1).1) (exp_ok d C h.2.2.2).1 (plainIx_of h.1)) fun x y H Q θ S wx k d H₀ rs hx hk ed q => ⟨θ, S, wx, k, d, H₀, rs, hx, hk, ed, q⟩) rfl
    · cases h
  | .trev e, X, E, sc, pe, C, h => by
    simp only [chkE] at h
    split at h
    · simp only [Bool.and_eq_true] at h
      obtain ⟨h1, h2, h3, h4, h5, h6, h7, h8⟩ := h
      rw [eq_of_beq h1] at h3 h5 ⊢
      rw [eq_of_beq h2] at h4 h6 ⊢
      exact .plain (trev_ok C h3 h4 h5 h6 h7 (exp_ok e C h8).1) rfl
    · cases h
  | .idx a b, X, E, sc, pe, C, h => by
    simp only [chkE] at h
    split at h
    · simp only [Bool.and_eq_true] at h
      exact .plain (idx_ok (pe_ix (ix_W C.K C.hu) (exp_ok a C h.2.1).1 (exp_ok b C h.2.2).1 (plainIx_of h.1)) fun x y H Q θ S wx k d H₀ rs hx hk ed q => ⟨θ, S, wx, k, d, H₀, rs, hx, hk, ed, q⟩) rfl
    · cases h
  | .slc a lo hi, X, E, sc, pe, C, h => by
    simp only [chkE] at h
    split at h
    · simp only [Bool.and_eq_true] at h
      exact .plain (slc_ok C.K (exp_ok a C h.1).1 (opt_ok lo C h.2.1) (opt_ok hi C h.2.2)) rfl
    · cases h
  | .fld a f cs, X, E, sc, pe, C, h => by
    simp only [chkE] at h
    split at h
    · simp only [Bool.and_eq_true] at h
      obtain ⟨h0, h1, h2, h3⟩ := h
      rw [← show T.mthN f = _ from eq_of_beq h0]
      exact .plain (fld_ok C h1 h2 (exp_ok a C h3).1) rfl
    · cases h
  | .isT ts a, X, E, sc, pe, C, h => by
    simp only [chkE] at h
    split at h
    · simp only [Bool.and_eq_true] at h
      obtain ⟨h0, h1, h2, h3, h4, h5, h6⟩ := h
      unfold tysB at h5
      split at h5
      · split at h5
        · simp only [Bool.and_eq_true] at h5
          obtain ⟨k0, k1, k2, k3, k4⟩ := h5
          rw [eq_of_beq h0] at h1 h2 ⊢
          rename_i u _ y p2
          rw [eq_of_beq k0] at k1 k2 k3 ⊢
          have hu : u ≠ .none := by simpa using k4
          exact .plain (isT_ok C hu h1 h2 h3 k1 k2 k3 (exp_ok a C h6).1) rfl
        · cases h5
      · cases h5
    · cases h
  | .call f es, X, E, sc, pe, C, h => by
    simp only [chkE] at h
    split at h
    · simp only [Bool.and_eq_true, callN] at h
      obtain ⟨⟨h0, h1, h2, h3⟩, h4, h5⟩ := h
      rw [List.isEmpty_iff] at h0
      subst h0
      exact .plain (call_ok C h1 h2 h3 (sqB_ok h4) (exps_ok es C h5).1 (chkEs_nilD h5)) rfl
    · cases h
  | .meth o m dis es, X, E, sc, pe, C, h => by
    simp only [chkE] at h
    split at h
    · simp only [Bool.and_eq_true] at h
      obtain ⟨h0, h1, h2, h3, h4, h5, h6, h7, h8⟩ := h
      rw [List.isEmpty_iff] at h3
      subst h3
      rw [← show T.mthN m = _ from eq_of_beq h0]
      exact .plain (meth_ok C h1 h2 h4 h5 h6 (exp_ok o C h7).1 (exps_ok es C h8).1 (chkEs_nilD h8)) rfl
    · cases h
  | .make n es, X, E, sc, pe, C, h => by
    simp only [chkE] at h
    split at h
    · simp only [Bool.and_eq_true, callN] at h
      obtain ⟨⟨h0, h1, h2, h3⟩, h4, h5⟩ := h
      rw [List.isEmpty_iff] at h0
      subst h0
      exact .plain (make_ok C h1 h2 h3 (sqB_ok h4) (exps_ok es C h5).1 (chkEs_nilD h5)) rfl
    · cases h
  | .blt b es, X, E, sc, pe, C, h => by
    simp only [chkE] at h
    split at h
    · rename_i x p xs kws pos
      simp only [Bool.and_eq_true, callN] at h
      obtain ⟨⟨h0, h1, h2, h3⟩, h4, h5, h6, h7⟩ := h
      rw [List.isEmpty_iff] at h0
      subst h0
      split at h5
      · rename_i q hq
        rw [← show _ = x from eq_of_beq h5] at h1 h2 h6 ⊢
        exact .plain (blt_ok C h1 h2 h3 (by intro z; subst z; cases h4) hq h6 (exps_ok es C h7).2) rfl
      · cases h5
    · cases h
  | .bmt m o es, X, E, sc, pe, C, h => by
    simp only [chkE] at h
    split at h
    · rename_i x y ap xs kws p
      simp only [Bool.and_eq_true] at h
      obtain ⟨h0, h1, h2, h3, h4, h5, h6, h7⟩ := h
      rw [List.isEmpty_iff] at h3
      subst h3
      split at h0
      · rename_i q hq
        rw [← show _ = y from eq_of_beq h0]
        by_cases hk : m.keeps = true
        · have := bmtD_ok C.K C.hu hq hk h1 h2 h4 h5 (exp_ok o C h6).1 (exps_ok es C h7).1 (chkEs_nilD h7)
          refine .plain ?_ rfl
          show PE X _ (semE g E fun ρ S => (evE c.cb c.ci c.ini o ρ S).bind fun x S => if kdOk m.kd x S = true then (if m.keeps = true then (evDs c.cb c.ci c.ini es ρ S).bind fun ds S => bmtD m x ds S else (evWs c.cb c.ci c.ini es ρ S).bind fun ws S => bmtW m x ws S) else .bad)
          simp only [hk, if_true]
          exact this
        · have hk' : m.keeps = false := by simpa using hk
          have := bmtW_ok C.K hq hk' h1 h2 h4 h5 (exp_ok o C h6).1 (exps_ok es C h7).2 (chkEs_nilW h7)
          refine .plain ?_ rfl
          show PE X _ (semE g E fun ρ S => (evE c.cb c.ci c.ini o ρ S).bind fun x S => if kdOk m.kd x S = true then (if m.keeps = true then (evDs c.cb c.ci c.ini es ρ S).bind fun ds S => bmtD m x ds S else (evWs c.cb c.ci c.ini es ρ S).bind fun ws S => bmtW m x ws S) else .bad)
          simp only [hk', Bool.false_eq_true, if_false]
          exact this
      · cases h0
    · cases h
  | .lc vs t it d e, X, E, sc, pe, C, h => by
    simp only [chkE] at h
    split at h
    · simp only [Bool.and_eq_true] at h
      obtain ⟨h1, h2, h3, h4, h5, h6, h7⟩ := h
      exact .plain (lc_ok C (itx_ok it C h1) h2 h3 h4 h5 (notSet_I h1 X.env) (fun X' hN C' => cnd_ok d C' (by rw [hN]; exact h6)) (fun X' hN C' => (exp_ok e C' (by rw [hN]; exact h7)).1)) rfl
    · cases h
theorem exps_ok {T : Tb} {g : Gd} {c : Cb2} : ∀ (es : Exs) {X : Cx} {E : XK} {sc : Scope} {xs : List Expr}, CtxE X g T c E sc → chkEs T X.N es sc xs = true → PA X xs (semDs g E (evDs c.cb c.ci c.ini es)) ∧ PA X xs (semWs g E (evWs c.cb c.ci c.ini es))
  | .nil, X, E, sc, [], C, h => ⟨dsnil_ok, wsnil_ok⟩
  | .nil, X, E, sc, _ :: _, C, h => by simp [chkEs] at h
  | .cons e r, X, E, sc, [], C, h => by simp [chkEs] at h
  | .cons e r, X, E, sc, x :: xs, C, h => by
    simp only [chkEs, Bool.and_eq_true] at h
    exact ⟨dscons_ok h.1 (exp_ok e C h.2.1).1 (exps_ok r C h.2.2).1, wscons_ok h.1 (exp_ok e C h.2.1).1 (exps_ok r C h.2.2).2⟩
theorem prs_ok {T : Tb} {g : Gd} {c : Cb2} {pos : Pos} : ∀ (kvs : Exs) {X : Cx} {E : XK} {sc : Scope} {ks : List (Option Expr)} {vs : List Expr}, CtxE X g T c E sc → chkPs T X.N kvs sc ks vs = true →
    ∃ trs, PPs X pos ks vs trs ∧ (∀ σ H Q, semPr g E (evDs c.cb c.ci c.ini kvs) σ H Q → tPairs trs σ H Q) ∧ ks.all (·.isSome) = true ∧ ks.length = vs.length
  | .nil, X, E, sc, ks, vs, C, h => by
    simp only [chkPs, Bool.and_eq_true, List.isEmpty_iff] at h
    obtain ⟨rfl, rfl⟩ := h
    exact ⟨[], pps_nil, fun _ _ _ => prnil_ok, rfl, rfl⟩
  | .cons _ .nil, X, E, sc, ks, vs, C, h => by simp [chkPs] at h
  | .cons k (.cons v r), X, E, sc, ks, vs, C, h => by
    simp only [chkPs] at h
    split at h
    · simp only [Bool.and_eq_true] at h
      obtain ⟨trs, hp, ht, ha, hl⟩ := prs_ok r C h.2.2
      exact ⟨_, pps_cons (exp_ok k C h.1).1 (exp_ok v C h.2.1).1 hp, prcons_ok ht, by simpa using ha, by simpa using hl⟩
    · cases h
theorem opt_ok {T : Tb} {g : Gd} {c : Cb2} : ∀ (o : Oex) {X : Cx} {E : XK} {sc : Scope} {x : Option Expr}, CtxE X g T c E sc → chkO T X.N o sc x = true → PO X x (semO g E (evO c.cb c.ci c.ini o))
  | .no, X, E, sc, x, C, h => by
    simp only [chkO, Option.isNone_iff_eq_none] at h
    subst h
    exact ono_ok
  | .ya e, X, E, sc, none, C, h => by simp [chkO] at h
  | .ya e, X, E, sc, some x, C, h => by
    simp only [chkO] at h
    exact oya_ok (exp_ok e C h).1
theorem cnd_ok {T : Tb} {g : Gd} {c : Cb2} : ∀ (o : Oex) {X : Cx} {E : XK} {sc : Scope} {l : List Expr}, CtxE X g T c E sc → chkC T X.N o sc l = true → PTs X l (semT g E (evC c.cb c.ci c.ini o))
  | .no, X, E, sc, l, C, h => by
    simp only [chkC, List.isEmpty_iff] at h
    subst h
    exact tPTs pts_nil fun σ H Q ⟨θ, ρ, S, eo, rs, q⟩ => q θ H Step.refl rs
  | .ya e, X, E, sc, l, C, h => by
    simp only [chkC] at h
    split at h
    · exact pts_one (exp_ok e C h).2.1
    · cases h
theorem itx_ok {T : Tb} {g : Gd} {c : Cb2} : ∀ (it : Itx) {X : Cx} {E : XK} {sc : Scope} {tg pe : Expr}, CtxE X g T c E sc → chkI T X.N it sc (isTup tg) pe = true → PI X tg pe (semI g E (evI c.cb c.ci c.ini it))
  | .seq e, X, E, sc, tg, pe, C, h => by
    simp only [chkI, Bool.and_eq_true] at h
    exact seq_ok C.K (exp_ok e C h.1).1
  | .rng1 a, X, E, sc, tg, pe, C, h => by
    simp only [chkI] at h
    split at h
    · simp only [Bool.and_eq_true, callN, noStars] at h
      obtain ⟨hx, ⟨h0, h1, h2, h3, _⟩, h4, h5⟩ := h
      rw [List.isEmpty_iff] at h0
      subst h0
      rw [eq_of_beq hx] at h1 h4 ⊢
      exact rng1_ok (C.glo _ h1) (C.blt _ h4) h3 (exp_ok a C h5).1
    · cases h
  | .rng2 a b, X, E, sc, tg, pe, C, h => by
    simp only [chkI] at h
    split at h
    · simp only [Bool.and_eq_true, callN, noStars] at h
      obtain ⟨hx, ⟨h0, h1, h2, h3, h3', _⟩, h4, h5, h6⟩ := h
      rw [List.isEmpty_iff] at h0
      subst h0
      rw [eq_of_beq hx] at h1 h4 ⊢
      exact rng2_ok (C.glo _ h1) (C.blt _ h4) h3 h3' (exp_ok a C h5).1 (exp_ok b C h6).1
    · cases h
  | .rngD a b, X, E, sc, tg, pe, C, h => by
    simp only [chkI] at h
    split at h
    · simp only [Bool.and_eq_true, callN, noStars] at h
      obtain ⟨hx, ⟨h0, h1, h2, h3, h3', _⟩, h4, h5, h6⟩ := h
      rw [List.isEmpty_iff] at h0
      subst h0
      rw [eq_of_beq hx] at h1 h4 ⊢
      exact rngD_ok (C.glo _ h1) (C.blt _ h4) h3 h3' (exp_ok a C h5).1 (exp_ok b C h6).1
    · cases h
  | .rngT a b, X, E, sc, tg, pe, C, h => by
    simp only [chkI] at h
    split at h
    · simp only [Bool.and_eq_true, callN, noStars] at h
      obtain ⟨hx, ⟨h0, h1, h2, h3, h3', _⟩, h4, h5, h6⟩ := h
      rw [List.isEmpty_iff] at h0
      subst h0
      rw [eq_of_beq hx] at h1 h4 ⊢
      exact rngT_ok (C.glo _ h1) (C.blt _ h4) h3 h3' (exp_ok a C h5).1 (exp_ok b C h6).1
    · cases h
  | .rev e, X, E, sc, tg, pe, C, h => by
    simp only [chkI] at h
    split at h
    · simp only [Bool.and_eq_true, callN, noStars] at h
      obtain ⟨hx, ⟨h0, h1, h2, h3, _⟩, h4, h5⟩ := h
      rw [List.isEmpty_iff] at h0
      subst h0
      rw [eq_of_beq hx] at h1 h4 ⊢
      exact rev_ok C.K (C.glo _ h1) (C.blt _ h4) h3 (exp_ok e C h5).1
    · cases h
  | .enum e, X, E, sc, tg, pe, C, h => by
    simp only [chkI] at h
    split at h
    · simp only [Bool.and_eq_true, callN, noStars] at h
      obtain ⟨hx, ⟨h0, h1, h2, h3, _⟩, h4, ht, h5⟩ := h
      rw [List.isEmpty_iff] at h0
      subst h0
      rw [eq_of_beq hx] at h1 h4 ⊢
      cases tg <;> first | (cases ht; done) | exact enum_ok C.K (C.glo _ h1) (C.blt _ h4) h3 (exp_ok e C h5).1
    · cases h
  | .zip a b, X, E, sc, tg, pe, C, h => by
    simp only [chkI] at h
    split at h
    · simp only [Bool.and_eq_true, callN, noStars] at h
      obtain ⟨hx, ⟨h0, h1, h2, h3, h3', _⟩, h4, ht, h5, h6⟩ := h
      rw [List.isEmpty_iff] at h0
      subst h0
      rw [eq_of_beq hx] at h1 h4 ⊢
      cases tg <;> first | (cases ht; done) | exact zip_ok C.K (C.glo _ h1) (C.blt _ h4) h3 h3' (exp_ok a C h5).1 (exp_ok b C h6).1
    · cases h
end
end PyI

set_option maxRecDepth 100000
set_option maxHeartbeats 2000000
/-! PyI: statements. -/
namespace PyI
open PySem PySem.Spec PyProof.Rows L2
inductive Out where
  | nx (ρ : Env) | rt (w : W) | bk (ρ : Env) | ct (ρ : Env)
def setD (x k v : D) (S : Sto) : Option Sto := match x with
  | .ref n => (match S[n]? with
    | some (.lst l) => (match k with
      | .int i => (ixI l.length i).map fun j => S.set n (.lst (l.set j v))
      | _ => none)
    | some (.dK l) => if k.keyK = true ∧ l.length < LINE then some (S.set n (.dK (put l k v))) else none
    | some (.dT l) => if k.keyT = true ∧ l.length < LINE then some (S.set n (.dT (put l k v))) else none
    | _ => none)
  | _ => none
def setF (x : D) (f : Nat) (cs : List Nat) (v : D) (S : Sto) : Option Sto := match x with
  | .ref n => (match S[n]? with
    | some (.ins C fs) => if cs.contains C = true ∧ fs.length < 1000 then some (S.set n (.ins C (putFs f v fs))) else none
    | _ => none)
  | _ => none
def forGo (k : Wk) (f : D → Env → Sto → Res Out) : List D → Env → Sto → Res Out
  | [], ρ, S => if k.stays S = true then .ok (.nx ρ) S else .bad
  | x :: xs, ρ, S => if k.stays S = true then (f x ρ S).bind fun o S => (match o with
    | .nx ρ => forGo k f xs ρ S
    | .ct ρ => forGo k f xs ρ S
    | .bk ρ => .ok (.nx ρ) S
    | .rt w => .ok (.rt w) S) else .bad
def whlGo (c : Env → Sto → Res Bool) (b : Env → Sto → Res Out) : Nat → Env → Sto → Res Out
  | 0, _, _ => .bad
  | n + 1, ρ, S => (c ρ S).bind fun t S => if t = true then (b ρ S).bind fun o S => (match o with
    | .nx ρ => whlGo c b n ρ S
    | .ct ρ => whlGo c b n ρ S
    | .bk ρ => .ok (.nx ρ) S
    | .rt w => .ok (.rt w) S) else .ok (.nx ρ) S
def forF (t : Tg) (b : Env → Sto → Res Out) (x : D) (ρ : Env) (S : Sto) : Res Out := match t.put x ρ with
  | some ρ' => b ρ' S
  | none => .bad
section
variable (fu : Nat) (cb ci : Cb) (ini : Nat → Option Nat)
mutual
def evS : Stm → Env → Sto → Res Out
  | .set t e, ρ, S => (evE cb ci ini e ρ S).al.bind fun d S => (match t.put d ρ with
    | some ρ' => .ok (.nx ρ') S
    | none => .bad)
  | .par i j a b, ρ, S => (evE cb ci ini a ρ S).al.bind fun d S => (evE cb ci ini b ρ S).al.bind fun d' S => .ok (.nx ((ρ.set i (some d)).set j (some d'))) S
  | .sfld o f cs e, ρ, S => (evE cb ci ini e ρ S).al.bind fun v S => (evE cb ci ini o ρ S).al.bind fun x S => (match setF x f cs v S with
    | some S' => .ok (.nx ρ) S'
    | none => .bad)
  | .ssub o i e, ρ, S => (evE cb ci ini e ρ S).al.bind fun v S => (evE cb ci ini o ρ S).al.bind fun x S => (evE cb ci ini i ρ S).al.bind fun k S => (match setD x k v S with
    | some S' => .ok (.nx ρ) S'
    | none => .bad)
  | .expr e, ρ, S => (evE cb ci ini e ρ S).bind fun _ S => .ok (.nx ρ) S
  | .ret e, ρ, S => (evE cb ci ini e ρ S).bind fun w S => .ok (.rt w) S
  | .retN, _, S => .ok (.rt (.d .non)) S
  | .ite c a b, ρ, S => (tst (evE cb ci ini c) ρ S).bind fun t S => if t = true then evSs a ρ S else evSs b ρ S
  | .whl c b, ρ, S => whlGo (tst (evE cb ci ini c)) (evSs b) fu ρ S
  | .for t it b, ρ, S => (evI cb ci ini it ρ S).bind fun k S => forGo k (forF t (evSs b)) k.items ρ S
  | .brk, ρ, S => .ok (.bk ρ) S
  | .cnt, ρ, S => .ok (.ct ρ) S
  | .pass, ρ, S => .ok (.nx ρ) S
  | .raise _ _, _, _ => .bad
def evSs : Sts → Env → Sto → Res Out
  | .nil, ρ, S => .ok (.nx ρ) S
  | .cons s r, ρ, S => (evS s ρ S).bind fun o S => (match o with
    | .nx ρ => evSs r ρ S
    | .rt w => .ok (.rt w) S
    | .bk ρ => .ok (.bk ρ) S
    | .ct ρ => .ok (.ct ρ) S)
end
end
/-! ### the look -/
def isComp : Expr → Bool
  | .ListComp _ _ _ _ => true
  | .SetComp _ _ _ _ => true
  | .DictComp _ _ _ _ _ => true
  | _ => false
/-- a store that is a plain one, or that of a list comprehension by its own -/
def stoB (sc : Scope) (tg value : Expr) : Bool := match value with
  | .ListComp _ _ s vp => (match tg with
    | .Name y py => (match sc.names.lookup y with
      | some .local => (py.line == vp.line) && !(s.names.any fun (n, k) => n == y && (k == .local || k == .cell))
      | some .cell => true
      | _ => false)
    | _ => true)
  | .SetComp _ _ _ _ => false
  | .DictComp _ _ _ _ _ => false
  | .Tuple vs _ _ => (match tg with
    | .Tuple ts _ _ => decide (3 < ts.length)
    | _ => true)
  | _ => true
section
variable (T : Tb) (N : List Str)
mutual
def chkS : Stm → Scope → Stmt → Bool
  | .set t e, sc, st => (match st with
    | .Assign [tg] v _ => stoB sc tg v && (chkT N sc t tg && chkE T N e sc v)
    | _ => false)
  | .par i j a b, sc, st => (match st with
    | .Assign [.Tuple [.Name x px, .Name y py] _ _] (.Tuple [va, vb] _ _) _ => decide (i ≠ j) && (sqB N[i]? x && (sqB N[j]? y && (decide (sc.names.lookup x = some .local) && (decide (sc.names.lookup y = some .local) && (decide (x ≠ y) && ((py.line == px.line) &&
        (!foldedForSure 8 va && (!constantsAlone 8 va && (notStar va && (notStar vb && (chkE T N a sc va && chkE T N b sc vb)))))))))))
    | _ => false)
  | .sfld o f cs e, sc, st => (match st with
    | .Assign [.Attribute x y _] v _ => (T.mthN f == y) && ((cs.all fun C => T.fok C f) && (!isComp v && (chkE T N e sc v && chkE T N o sc x)))
    | _ => false)
  | .ssub o i e, sc, st => (match st with
    | .Assign [.Subscript x y _] v _ => notSlice y && (!isComp v && (chkE T N e sc v && (chkE T N o sc x && chkE T N i sc y)))
    | _ => false)
  | .expr e, sc, st => (match st with
    | .Expr v _ => !isComp v && chkE T N e sc v
    | _ => false)
  | .ret e, sc, st => (match st with
    | .Return (some v) _ => chkE T N e sc v
    | _ => false)
  | .retN, _, st => (match st with
    | .Return none _ => true
    | _ => false)
  | .ite c a b, sc, st => (match st with
    | .If t x y _ => chkE T N c sc t && (chkSs a sc x && chkSs b sc y)
    | _ => false)
  | .whl c b, sc, st => (match st with
    | .While t x [] _ => chkE T N c sc t && chkSs b sc x
    | _ => false)
  | .for t it b, sc, st => (match st with
    | .For tg iter x [] _ => chkI T N it sc (isTup tg) iter && (chkT N sc t tg && chkSs b sc x)
    | _ => false)
  | .brk, _, st => (match st with
    | .Break _ => true
    | _ => false)
  | .cnt, _, st => (match st with
    | .Continue _ => true
    | _ => false)
  | .pass, _, st => (match st with
    | .Pass _ => true
    | .Expr (.Constant (.str _) _ _) _ => true
    | _ => false)
  | .raise _ _, _, _ => true
def chkSs : Sts → Scope → List Stmt → Bool
  | .nil, _, l => l.isEmpty
  | .cons s r, sc, l => (match l with
    | x :: xs => chkS s sc x && chkSs r sc xs
    | [] => false)
end
end
/-! ### readings -/
def outK (g : Gd) (D : Ends) (H₀ : Hp) (o : Out) (θ : List Addr) (H : Hp) : Prop := match o with
  | .nx ρ => ∀ σ, EnvOk g.K θ H σ ρ → D.nx σ H
  | .rt w => ∀ v, HasW g H₀ θ H w v → D.rt v H
  | .bk ρ => ∀ σ, EnvOk g.K θ H σ ρ → D.bk σ H
  | .ct ρ => ∀ σ, EnvOk g.K θ H σ ρ → D.ct σ H
def semS (g : Gd) (E : XK) (ev : Env → Sto → Res Out) : TS := fun D σ H => semR g E ev (fun H₀ o _ θ' H' => outK g D H₀ o θ' H') σ H
section
variable {X : Cx} {g : Gd} {T : Tb} {c : Cb2} {sc : Scope} {E : XK} {ea eb eo ei : Env → Sto → Res W} {tg e a b o i : Expr} {pos p : Pos}
theorem outK.early {D : Ends} {θ θ' θ'' : List Addr} {H H' H'' : Hp} {S : Sto} {ot : Out} (st : Step g.K θ H θ' H') (rs : RelS g θ' H' S) (h : outK g D H ot θ'' H'') : outK g D H' ot θ'' H'' := by
  cases ot with
  | rt w => exact fun v hv => h v (hv.early st rs)
  | _ => exact h
theorem tail_S {D : Ends} {ev : Env → Sto → Res Out} {θ θ1 : List Addr} {H H1 : Hp} {S1 : Sto} {σ : L2.St} {ρ : Env} (st : Step g.K θ H θ1 H1) (rs1 : RelS g θ1 H1 S1) (eo : EnvOk g.K θ1 H1 σ ρ) (q : CaseR g θ1 H1 (ev ρ S1) E fun o _ θ' H' => outK g D H o θ' H') : semS g E ev D σ H1 :=
  ⟨θ1, ρ, S1, eo, rs1, q.mono fun ot S' θ' H' _ _ h => h.early st rs1⟩
theorem asg_of {t : Tg} (hK : X.K = g.K) {D : Ends} {σ : L2.St} {H : Hp} : semS g E (fun ρ S => (ea ρ S).al.bind fun d S => (match t.put d ρ with
    | some ρ' => .ok (.nx ρ') S
    | none => .bad)) D σ H → tAsg (semE g E ea) (gT X.K t) D σ H := fun ⟨θ, ρ, S, eo, rs, q⟩ => by
  refine ⟨θ, ρ, S, eo, rs, q.bind.al.mono fun w S1 θ1 H1 st1 rs1 c1 x hx => ?_⟩
  obtain ⟨d, S2, θ2, st2, rs2, hd, c2⟩ := c1 x hx
  dsimp only at c2
  split at c2
  · rename_i ρ' hp
    rw [hK]
    exact gT_of (eo.step st2) hd hp fun σ' eo' _ => c2 θ2 H1 Step.refl rs2 σ' eo'
  · exact c2.elim
theorem chkT_form {N : List Str} {t : Tg} (h : chkT N sc t tg = true) : (∃ i x p, t = .nm i ∧ tg = .Name x p ∧ locB sc x = true) ∨ ∃ es k p, tg = .Tuple es k p := by
  cases t with
  | nm i =>
    left
    unfold chkT nmB at h
    dsimp only at h
    split at h
    · rw [Bool.and_eq_true] at h
      exact ⟨_, _, _, rfl, rfl, h.2⟩
    · cases h
  | tp is =>
    right
    unfold chkT at h
    dsimp only at h
    split at h
    · exact ⟨_, _, _, rfl⟩
    · cases h
theorem noswap {v : Expr} {l : Nat} {env : PySem.Env} {t : Option Expr} (h : isComp v = false) : swapsWith v t l env = pure false := by
  cases v <;> first
    | (cases h; done)
    | rfl
end
end PyI

set_option maxRecDepth 100000
set_option maxHeartbeats 2000000
/-! PyI: statements are sound. -/
namespace PyI
open PySem PySem.Spec PyProof.Rows L2
section
variable {X : Cx} {g : Gd} {T : Tb} {c : Cb2} {sc : Scope} {E : XK} {ea eb eo ei : Env → Sto → Res W} {tg e a b o i v : Expr} {pos p : Pos}
theorem nst_name {x : Str} {p : Pos} {env : PySem.Env} : swappedStores [.Name x p] v env = pure none := by cases v <;> rfl
theorem nst_tup {es : List Expr} {k : Nat} {p : Pos} {env : PySem.Env} (h : stoB sc (.Tuple es k p) v = true) : swappedStores [.Tuple es k p] v env = pure none := by
  cases v <;> first
    | rfl
    | (unfold stoB at h
       dsimp only at h
       have h3 : 3 < es.length := of_decide_eq_true h
       have h2 : (es.length == 2 || es.length == 3) = false := by
         rw [Bool.or_eq_false_iff]
         exact ⟨beq_eq_false_iff_ne.mpr (by omega), beq_eq_false_iff_ne.mpr (by omega)⟩
       unfold swappedStores
       simp only [h2, Bool.not_false, Bool.true_or, if_true])
theorem nsw_tup {es : List Expr} {k : Nat} {p : Pos} {l : Nat} {env : PySem.Env} : swapsWith v (some (.Tuple es k p)) l env = pure false := by cases v <;> rfl
theorem nsw_cell {elt : Expr} {gs : List Comprehension} {s : Scope} {vp p : Pos} {x : Str} {l : Nat} {env : PySem.Env} (h : env.scope.names.lookup x = some .cell) : swapsWith (.ListComp elt gs s vp) (some (.Name x p)) l env = pure false := by
  have k : env.kindOf x = some .cell := h
  unfold swapsWith
  simp only [k]
  have : ((some NameKind.cell == some NameKind.local) = false) := rfl
  simp only [this, Bool.and_false, Bool.false_and]
theorem sole {l : Nat} {env : PySem.Env} (h : swapsWith v (some tg) l env = pure false) : swapsWithSole [tg] v l env = pure false := by
  unfold swapsWithSole
  exact h
theorem set_ok {t : Tg} {x : Ex} (C : CtxE X g T c E sc) (hs : stoB sc tg v = true) (ht : chkT X.N sc t tg = true) (hv : chkE T X.N x sc v = true) :
    PS X (.Assign [tg] v pos) (semS g E fun ρ S => (evE c.cb c.ci c.ini x ρ S).al.bind fun d S => (match t.put d ρ with
      | some ρ' => .ok (.nx ρ') S
      | none => .bad)) := by
  have hg := tg_ok C ht
  rcases chkT_form ht with ⟨i, y, py, rfl, rfl, hl⟩ | ⟨es, k, p, rfl⟩
  · by_cases hc : isComp v = true
    · cases v <;> first
        | (cases hc; done)
        | (cases hs; done)
        | skip
      rename_i elt gs s vp
      unfold stoB at hs
      dsimp only at hs
      split at hs
      · rename_i hloc
        rw [Bool.and_eq_true, Bool.not_eq_true'] at hs
        cases x <;> first
          | (simp [chkE] at hv; done)
          | skip
        rename_i vs t' it d e'
        simp only [chkE] at hv
        split at hv
        · rename_i el tg' iter ifs sc' p' heq
          cases heq
          simp only [Bool.and_eq_true] at hv
          obtain ⟨h1, h2, h3, h4, h5, h6, h7⟩ := hv
          have hv' : (ownOf X.N vs).map (·.2) = vs := eq_of_beq h3
          have hbk := (blk_of C h2).kind
          have hN : X.N[i]? = some y := by
            unfold chkT nmB at ht
            dsimp only at ht
            rw [Bool.and_eq_true] at ht
            exact sqB_ok ht.1
          refine PSw (ps_setLc (g := gT X.K t') (te := semE g E0 (evE c.cb c.ci c.ini e')) C.calm C.nd hN (C.exa _ _ (by decide) hloc) (sw_true C.kf (C.exa _ _ (by decide) hloc) hs.1 hs.2) (itx_ok it C h1) (blk_of C h2) (fun s H Ca cl fp => tg_ok (C.blk hbk) h4) (fun s H Ca cl fp => cnd_ok d (C.blk hbk) h6) (fun s H Ca cl fp => (exp_ok e' (C.blk hbk) h7).1) (notSet_I h1 X.env)) fun D σ H h => ?_
          rw [hv']
          exact lc_of C.K h5 _ _ _ (asg_of (t := .nm i) C.K h)
        · cases hv
      · rename_i hcell
        exact PSw (ps_asg (exp_ok x C hv).1 hg (sole (nsw_cell (C.exa _ _ (by decide) hcell))) nst_name rfl) fun D σ H h => asg_of C.K h
      · cases hs
    · exact PSw (ps_asg (exp_ok x C hv).1 hg (sole (noswap (by simpa using hc))) nst_name rfl) fun D σ H h => asg_of C.K h
  · exact PSw (ps_asg (exp_ok x C hv).1 hg (sole nsw_tup) (nst_tup hs) rfl) fun D σ H h => asg_of C.K h
theorem par_ok {k j : Nat} {x y : Str} {px py pt pt2 : Pos} {kt k2 : Nat} (C : CtxE X g T c E sc) (hij : k ≠ j) (hx : X.N[k]? = some x) (hy : X.N[j]? = some y) (lx : sc.names.lookup x = some .local) (ly : sc.names.lookup y = some .local) (hxy : x ≠ y) (hl : (py.line == px.line) = true)
    (f1 : foldedForSure 8 a = false) (f2 : constantsAlone 8 a = false) (sa : notStar a = true) (sb : notStar b = true) (ha : PE X a (semE g E ea)) (hb : PE X b (semE g E eb)) :
    PS X (.Assign [.Tuple [.Name x px, .Name y py] kt pt] (.Tuple [a, b] k2 pt2) pos) (semS g E fun ρ S => (ea ρ S).al.bind fun d S => (eb ρ S).al.bind fun d' S => .ok (.nx ((ρ.set k (some d)).set j (some d'))) S) := by
  have kx : X.env.kindOf x = some .local := C.exa _ _ (by decide) lx
  have ky : X.env.kindOf y = some .local := C.exa _ _ (by decide) ly
  have hb0 : X.env.blockKind = .function := by unfold Env.blockKind; rw [C.kf]; rfl
  have hw : swappedStores [.Tuple [.Name x px, .Name y py] kt pt] (.Tuple [a, b] k2 pt2) X.env = pure (some [x, y]) := by
    unfold swappedStores
    have e1 : ([a, b].all (foldedForSure 8)) = false := by simp [f1]
    have e2 : ([a, b].all (constantsAlone 8)) = false := by simp [f2]
    have e4 : ([x, y].eraseDups).length = 2 := by
      have : (y == x) = false := beq_eq_false_iff_ne.mpr (Ne.symm hxy)
      simp [List.eraseDups_cons, this]
    refine (if_neg (by rw [hb0]; exact Bool.false_ne_true)).trans ((if_neg ?_).trans ?_)
    · rw [Bool.not_eq_true, List.any_eq_false]
      intro z hz
      rcases List.mem_cons.mp hz with rfl | hz
      · cases z <;> first
          | (cases sa; done)
          | exact Bool.false_ne_true
      · rcases List.mem_cons.mp hz with rfl | hz
        · cases z <;> first
            | (cases sb; done)
            | exact Bool.false_ne_true
        · cases hz
    · have z1 : (px.line == px.line) = true := beq_self_eq_true _
      simp only [List.filterMap_cons, kx, ky, List.head?_cons, Option.map_some, Option.getD_some, Expr.pos, z1, hl, beq_self_eq_true, Bool.and_self, if_true, List.filterMap_nil, e1, e2, e4]
      rfl
  refine PSw (ps_par C.calm C.nd hx hy hij kx ky (dscons_ok (g := g) (E := E) sa ha (dscons_ok sb hb dsnil_ok)) hw) fun D σ H ⟨θ, ρ, S, eo, rs, q⟩ => ⟨θ, ρ, S, eo, rs, ?_⟩
  dsimp only at q ⊢
  cases hr : (ea ρ S).al with
  | bad => rw [hr] at q; exact q.elim
  | ex C' fs S' => rw [hr] at q; exact q
  | ok d S1 =>
    rw [hr] at q
    dsimp only [Res.bind] at q ⊢
    cases hr2 : (eb ρ S1).al with
    | bad => rw [hr2] at q; exact q.elim
    | ex C' fs S' => rw [hr2] at q; exact q
    | ok d' S2 =>
      rw [hr2] at q
      dsimp only [Res.bind] at q ⊢
      intro θ1 H1 st1 rs1 vs hv
      obtain ⟨v, vs, rfl, h1, h2⟩ := HasDs.of_cons' hv
      obtain ⟨w, vs, rfl, h4, h3⟩ := HasDs.of_cons' h2
      obtain rfl := h3.of_nil
      exact ⟨v, w, rfl, q θ1 H1 st1 rs1 _ (((eo.step st1).set k h1).set j h4)⟩
theorem putFs_ok {θ : List Addr} {H : Hp} {f : Nat} {d : D} {y : V} (hd : HasD g.K θ H d y) : ∀ {fs : List (Nat × D)} {fs' : List (Str × V)}, RelF g θ H fs fs' → RelF g θ H (putFs f d fs) (putF (g.nm f) y fs')
  | _, _, .nil => .cons ⟨rfl, hd⟩ .nil
  | (k, x) :: r, (s, v) :: r', .cons h t => by
    have h1 : s = g.nm k := h.1
    unfold putFs putF
    by_cases e : k = f
    · subst e
      rw [if_pos rfl, if_pos h1]
      exact .cons ⟨h1, hd⟩ t
    · rw [if_neg e, if_neg (fun z => e (g.inj _ _ (h1.symm.trans z)))]
      exact .cons h (putFs_ok hd t)
theorem sfld_ok {f : Nat} {cs : List Nat} {p' : Pos} (C : CtxE X g T c E sc) (hc : cs.all (fun C => T.fok C f) = true) (hv : isComp v = false) (he : PE X v (semE g E ea)) (ho : PE X o (semE g E eo)) :
    PS X (.Assign [.Attribute o (T.mthN f) p'] v pos) (semS g E fun ρ S => (ea ρ S).al.bind fun v S => (eo ρ S).al.bind fun x S => (match setF x f cs v S with
      | some S' => .ok (.nx ρ) S'
      | none => .bad)) :=
  PSw (ps_fld ho he (noswap hv)) fun D σ H ⟨θ, ρ, S, eo, rs, q⟩ => by
    refine ⟨θ, ρ, S, eo, rs, q.bind.al.mono fun w S1 θ1 H1 st1 rs1 c1 y hy => ?_⟩
    obtain ⟨d, S2, θ2, st2, rs2, hd, c2⟩ := c1 y hy
    refine ⟨θ2, ρ, S2, eo.step st2, rs2, c2.bind.al.mono fun w2 S3 θ3 H3 st3 rs3 c3 x hx => ?_⟩
    obtain ⟨dx, S4, θ4, st4, rs4, hdx, c4⟩ := c3 x hx
    dsimp only at c4
    split at c4
    · rename_i S' hS
      unfold setF at hS
      split at hS
      · rename_i n
        split at hS
        · rename_i C' fs hn
          split at hS
          · rename_i hcd
            cases hS
            obtain ⟨a', dxx, fs', rfl, ean, e2, r⟩ := ins_of rs4 hdx hn
            obtain ⟨k1, k2⟩ := C.attr C' f (List.all_eq_true.mp hc C' (by simpa using hcd.1))
            have hd4 := hd.step st4
            refine ⟨a', g.ca C', dxx, fs', rfl, e2, by rw [C.K]; exact C.K ▸ k1, by rw [C.K]; exact C.K ▸ k2, by rw [← Paired.length r]; exact hcd.2, ?_⟩
            have st5 := Step.write (h' := .ins (g.ca C') dxx (putF (T.mthN f) y fs')) rs4 hn ean
            refine c4 θ4 _ st5 (RelS.write rs4 hn ean ⟨dxx, _, rfl, ?_⟩) σ (((eo.step st2).step st4).step st5)
            rw [← C.nm]
            exact putFs_ok hd4 r
          · cases hS
        · cases hS
      · cases hS
    · exact c4.elim
def rSet (g : Gd) : TSet := fun o i v H Q => ∃ θ S x k d S', RelS g θ H S ∧ HasD g.K θ H x o ∧ HasD g.K θ H k i ∧ HasD g.K θ H d v ∧ PyI.setD x k d S = some S' ∧ ∀ H', Step g.K θ H θ H' → RelS g θ H' S' → Q H'
theorem set_W (hK : X.K = g.K) (hu : X.A.units + 70 < cLine) : PSet X (rSet g) := by
  intro pins s σ H o i v ov iv u Q I ro ri rv ⟨θ, S, x, k, d, S', rs, hx, hk, hd, e, q⟩
  unfold PyI.setD at e
  split at e
  · rename_i n
    obtain ⟨a, ea, rfl⟩ := HasD.ref_iff.mp hx
    split at e
    · rename_i l hl
      split at e
      · rename_i j
        obtain ⟨b, ho, e1, e2, vs, rfl, hv⟩ := rs.at_ n _ hl
        rw [ea] at e1; cases e1
        cases ej : ixI l.length j with
        | none => rw [ej] at e; cases e
        | some m =>
          rw [ej] at e
          cases e
          refine set_list pins s σ H _ _ _ ov iv u Q I ro ri rv ⟨a, vs, j, m, rfl, HasD.int_iff.mp hk, e2, ?_, q _ (Step.write rs hl ea) (RelS.write rs hl ea ⟨_, rfl, hv.set m hd⟩)⟩
          rw [← hv.length]
          exact ej
      · cases e
    · rename_i l hl
      split at e
      · rename_i hkk
        cases e
        obtain ⟨b, ho, e1, e2, kvs, rfl, hv⟩ := rs.at_ n _ hl
        rw [ea] at e1; cases e1
        obtain ⟨z, rfl, rfl⟩ := keyK_ok hk hkk.1
        have hlen : kvs.length < sizeLine := by rw [← Paired.length hv]; exact line_lt hkk.2
        exact set_dict (by omega) pins s σ H _ _ _ ov iv u Q I ro ri rv ⟨a, _, rfl, DPut.k e2 hlen, q _ (Step.write rs hl ea) (RelS.write rs hl ea ⟨_, rfl, put_ok keyD_inj z hd hv⟩)⟩
      · cases e
    · rename_i l hl
      split at e
      · rename_i hkk
        cases e
        obtain ⟨b, ho, e1, e2, kvs, rfl, hv⟩ := rs.at_ n _ hl
        rw [ea] at e1; cases e1
        obtain ⟨z, b, rfl, rfl, hb⟩ := keyT_ok hk hkk.1
        have hlen : kvs.length < sizeLine := by rw [← Paired.length hv]; exact line_lt hkk.2
        exact set_dict (by omega) pins s σ H _ _ _ ov iv u Q I ro ri rv ⟨a, _, rfl, DPut.t e2 hb hlen, q _ (Step.write rs hl ea) (RelS.write rs hl ea ⟨_, rfl, put_ok (f := keyT) keyT_inj z hd hv⟩)⟩
      · cases e
    · cases e
  · cases e
theorem asub {env : PySem.Env} (h : notSlice i = true) : ∀ v, assign (.Subscript o i pos) env v = (do
      let ov ← holding [v] (eval o env)
      let iv ← holding [v, ov] (eval i env)
      standAt pos
      holding [v, ov, iv] (setItem ov iv v)
      release [v, ov, iv] []) := by
  intro v
  cases i <;> first
    | (cases h; done)
    | rfl
theorem ssub_ok {p' : Pos} (C : CtxE X g T c E sc) (hi : notSlice i = true) (hv : isComp v = false) (he : PE X v (semE g E ea)) (ho : PE X o (semE g E eo)) (hx : PE X i (semE g E ei)) :
    PS X (.Assign [.Subscript o i p'] v pos) (semS g E fun ρ S => (ea ρ S).al.bind fun v S => (eo ρ S).al.bind fun x S => (ei ρ S).al.bind fun k S => (match PyI.setD x k v S with
      | some S' => .ok (.nx ρ) S'
      | none => .bad)) := by
  refine PSw (ps_asg he (pg_sub ho hx (set_W C.K C.hu) (asub hi)) (sole (noswap hv)) (by cases v <;> rfl) rfl) fun D σ H ⟨θ, ρ, S, eo, rs, q⟩ => ?_
  refine ⟨θ, ρ, S, eo, rs, q.bind.al.mono fun w S1 θ1 H1 st1 rs1 c1 y hy => ?_⟩
  obtain ⟨d, S2, θ2, st2, rs2, hd, c2⟩ := c1 y hy
  refine ⟨θ2, ρ, S2, eo.step st2, rs2, c2.bind.al.mono fun w2 S3 θ3 H3 st3 rs3 c3 x hx => ?_⟩
  obtain ⟨dx, S4, θ4, st4, rs4, hdx, c4⟩ := c3 x hx
  refine ⟨θ4, ρ, S4, (eo.step st2).step st4, rs4, c4.bind.al.mono fun w5 S5 θ5 H5 st5 rs5 c5 z hz => ?_⟩
  obtain ⟨dk, S6, θ6, st6, rs6, hdk, c6⟩ := c5 z hz
  dsimp only at c6
  split at c6
  · rename_i S' hS
    exact ⟨θ6, S6, dx, dk, d, S', rs6, hdx.step st6, hdk, (hd.step st4).step st6, hS, fun H' st' rs' => c6 θ6 H' st' rs' σ ((((eo.step st2).step st4).step st6).step st')⟩
  · exact c6.elim
end
end PyI

set_option maxRecDepth 100000
set_option maxHeartbeats 2000000
/-! PyI: every statement. -/
namespace PyI
open PySem PySem.Spec PyProof.Rows L2
section
variable {X : Cx} {g : Gd} {T : Tb} {c : Cb2} {sc : Scope} {E : XK} {ea : Env → Sto → Res W} {tg e o i v : Expr} {pos p : Pos}
theorem expr_ok (hv : isComp v = false) (he : PE X v (semE g E ea)) : PS X (.Expr v pos) (semS g E fun ρ S => (ea ρ S).bind fun _ S => .ok (.nx ρ) S) :=
  PSw (ps_expr he (noswap hv)) fun D σ H ⟨θ, ρ, S, eo, rs, q⟩ => ⟨θ, ρ, S, eo, rs, q.bind.mono fun w S1 θ1 H1 st1 rs1 c1 x hx => c1 θ1 H1 Step.refl rs1 σ (eo.step st1)⟩
theorem ret_ok (he : PE X v (semE g E ea)) : PS X (.Return (some v) pos) (semS g E fun ρ S => (ea ρ S).bind fun w S => .ok (.rt w) S) :=
  PSw (ps_ret he) fun D σ H ⟨θ, ρ, S, eo, rs, q⟩ => ⟨θ, ρ, S, eo, rs, q.bind.mono fun w S1 θ1 H1 st1 rs1 c1 x hx => c1 θ1 H1 Step.refl rs1 x hx⟩
theorem retN_ok : PS X (.Return none pos) (semS g E fun _ S => .ok (.rt (.d .non)) S) :=
  PSw ps_retN fun D σ H ⟨θ, ρ, S, eo, rs, q⟩ => q θ H Step.refl rs .non (wd (HasD.non_iff.mpr rfl))
theorem nx_ok {st : Stmt} (h : PS X st tNext) : PS X st (semS g E fun ρ S => .ok (.nx ρ) S) :=
  PSw h fun D σ H ⟨θ, ρ, S, eo, rs, q⟩ => q θ H Step.refl rs σ eo
theorem brk_ok : PS X (.Break pos) (semS g E fun ρ S => .ok (.bk ρ) S) :=
  PSw ps_break fun D σ H ⟨θ, ρ, S, eo, rs, q⟩ => q θ H Step.refl rs σ eo
theorem cnt_ok : PS X (.Continue pos) (semS g E fun ρ S => .ok (.ct ρ) S) :=
  PSw ps_continue fun D σ H ⟨θ, ρ, S, eo, rs, q⟩ => q θ H Step.refl rs σ eo
theorem nil_ok : PSs X [] (semS g E fun ρ S => .ok (.nx ρ) S) :=
  PSsw pss_nil fun D σ H ⟨θ, ρ, S, eo, rs, q⟩ => q θ H Step.refl rs σ eo
theorem cons_ok {st : Stmt} {r : List Stmt} {f h : Env → Sto → Res Out} (hf : PS X st (semS g E f)) (hr : PSs X r (semS g E h)) : PSs X (st :: r) (semS g E fun ρ S => (f ρ S).bind fun o S => (match o with
    | .nx ρ => h ρ S
    | .rt w => .ok (.rt w) S
    | .bk ρ => .ok (.bk ρ) S
    | .ct ρ => .ok (.ct ρ) S)) :=
  PSsw (pss_cons hf hr) fun D σ H ⟨θ, ρ, S, eo, rs, q⟩ => ⟨θ, ρ, S, eo, rs, q.bind.mono fun ot S1 θ1 H1 st1 rs1 c1 => by
    cases ot with
    | nx ρ' => exact fun σ' eo' => tail_S st1 rs1 eo' c1
    | rt w => exact c1 θ1 H1 Step.refl rs1
    | bk ρ' => exact c1 θ1 H1 Step.refl rs1
    | ct ρ' => exact c1 θ1 H1 Step.refl rs1⟩
theorem if_ok {t : Expr} {x y : List Stmt} {ec : Env → Sto → Res Bool} {f h : Env → Sto → Res Out} (hc : PT X t (semT g E ec)) (hf : PSs X x (semS g E f)) (hr : PSs X y (semS g E h)) : PS X (.If t x y pos) (semS g E fun ρ S => (ec ρ S).bind fun t S => if t = true then f ρ S else h ρ S) :=
  PSw (ps_if hc hf hr) fun D σ H ⟨θ, ρ, S, eo, rs, q⟩ => ⟨θ, ρ, S, eo, rs, q.bind.mono fun t S1 θ1 H1 st1 rs1 c1 => by
    dsimp only at c1 ⊢
    cases t with
    | true => exact tail_S st1 rs1 (eo.step st1) c1
    | false => exact tail_S st1 rs1 (eo.step st1) c1⟩
theorem while_ok {n : Nat} {t : Expr} {x : List Stmt} {ec : Env → Sto → Res Bool} {f : Env → Sto → Res Out} (hp : PassesOwn (model X.prog X.w) X.A X.env X.xe) (hc : PT X t (semT g E ec)) (hf : PSs X x (semS g E f)) : PS X (.While t x [] pos) (semS g E fun ρ S => whlGo ec f n ρ S) :=
  PSw (ps_while hp hc hf) fun D σ H ⟨θ, ρ, S, eo, rs, q⟩ => by
    refine ⟨fun m σ' H' => ∃ θ' ρ' S', EnvOk g.K θ' H' σ' ρ' ∧ RelS g θ' H' S' ∧ Step g.K θ H θ' H' ∧ CaseR g θ' H' (whlGo ec f m ρ' S') E fun o _ θ' H' => outK g D H o θ' H', ⟨n, θ, ρ, S, eo, rs, Step.refl, q⟩, ?_⟩
    rintro m σ' H' ⟨θ', ρ', S', eo', rs', st', cc⟩
    cases m with
    | zero => exact cc.elim
    | succ m =>
      unfold whlGo at cc
      refine ⟨θ', ρ', S', eo', rs', cc.bind.mono fun t S1 θ1 H1 st1 rs1 c1 => ?_⟩
      dsimp only at c1 ⊢
      cases t with
      | false => exact c1 θ1 H1 Step.refl rs1 σ' (eo'.step st1)
      | true =>
        rw [if_pos rfl] at c1 ⊢
        refine ⟨_, fun σ2 H2 h => ⟨m, Nat.lt_succ_self _, h⟩, θ1, ρ', S1, eo'.step st1, rs1, c1.bind.mono fun ot S2 θ2 H2 st2 rs2 c2 => ?_⟩
        have st := (st'.trans st1).trans st2
        cases ot with
        | nx ρ2 => exact fun σ2 eo2 => ⟨θ2, ρ2, S2, eo2, rs2, st, c2⟩
        | ct ρ2 => exact fun σ2 eo2 => ⟨θ2, ρ2, S2, eo2, rs2, st, c2⟩
        | bk ρ2 => exact fun σ2 eo2 => c2 θ2 H2 Step.refl rs2 σ2 eo2
        | rt w => exact fun v hv => c2 θ2 H2 Step.refl rs2 v (hv.early (st'.trans st1) rs1)
theorem for_ok {iter : Expr} {t : Tg} {x : List Stmt} {ei : Env → Sto → Res Wk} {f : Env → Sto → Res Out} (C : CtxE X g T c E sc) (hi : PI X tg iter (semI g E ei)) (hg : PG X tg (gT X.K t)) (hf : PSs X x (semS g E f)) (hs : ∀ x, foldedSetIterable iter X.env x = pure x) :
    PS X (.For tg iter x [] pos) (semS g E fun ρ S => (ei ρ S).bind fun k S => forGo k (forF t f) k.items ρ S) :=
  PSw (ps_for C.own C.calm hi hg hf hs) fun D σ H ⟨θ, ρ, S, eo, rs, q⟩ => by
    refine ⟨θ, ρ, S, eo, rs, q.bind.mono fun k S1 θ1 H1 st1 rs1 c1 J hJ => ?_⟩
    refine ⟨fun i m σ' H' => i ≤ k.items.length ∧ m = k.items.length - i ∧ ∃ θ' ρ' S', EnvOk g.K θ' H' σ' ρ' ∧ RelS g θ' H' S' ∧ Step g.K θ1 H1 θ' H' ∧ CaseR g θ' H' (forGo k (forF t f) (k.items.drop i) ρ' S') E fun o _ θ' H' => outK g D H o θ' H',
      ⟨_, Nat.zero_le _, rfl, θ1, ρ, S1, eo.step st1, rs1, Step.refl, c1⟩, ?_⟩
    rintro i m σ' H' ⟨hi, rfl, θ', ρ', S', eo', rs', st', cc⟩
    cases ex : k.items[i]? with
    | none =>
      have hl := List.getElem?_eq_none_iff.mp ex
      rw [List.drop_eq_nil_of_le hl] at cc
      unfold forGo at cc
      split at cc
      · rename_i hst
        exact .inl ⟨hJ.stop θ' H' S' i st' rs' hst ex, cc θ' H' Step.refl rs' σ' eo'⟩
      · exact cc.elim
    | some x =>
      have hl := (List.getElem?_eq_some_iff.mp ex).1
      have hdr : k.items.drop i = x :: k.items.drop (i + 1) := by
        rw [List.drop_eq_getElem_cons hl]
        rw [List.getElem?_eq_getElem hl] at ex
        cases ex
        rfl
      rw [hdr] at cc
      unfold forGo at cc
      split at cc
      · rename_i hst
        refine .inr ⟨hJ.go θ' H' S' i x st' rs' hst ex, fun σ2 H2 => i + 1 ≤ k.items.length ∧ ∃ θ' ρ' S', EnvOk g.K θ' H2 σ2 ρ' ∧ RelS g θ' H2 S' ∧ Step g.K θ1 H1 θ' H2 ∧ CaseR g θ' H2 (forGo k (forF t f) (k.items.drop (i + 1)) ρ' S') E fun o _ θ' H' => outK g D H o θ' H',
          fun σ2 H2 ⟨h1, h2⟩ => ⟨k.items.length - (i + 1), by omega, h1, rfl, h2⟩, fun y Hy hy => ?_⟩
        obtain ⟨sty, rsy, hxy⟩ := hJ.yld θ' H' S' i x y Hy st' rs' hst ex hy
        have cy := (CaseR.from sty cc).bind
        unfold forF at cy
        split at cy
        · rename_i ρ2 hp
          rw [C.K]
          refine gT_of (eo'.step sty) hxy hp fun σ2 eo2 _ => ⟨θ', ρ2, S', eo2, rsy, cy.mono fun ot S2 θ2 H2 st2 rs2 c2 => ?_⟩
          have st := (st'.trans sty).trans st2
          have hl' : i + 1 ≤ k.items.length := hl
          cases ot with
          | nx ρ3 => exact fun σ3 eo3 => ⟨hl', θ2, ρ3, S2, eo3, rs2, st, c2⟩
          | ct ρ3 => exact fun σ3 eo3 => ⟨hl', θ2, ρ3, S2, eo3, rs2, st, c2⟩
          | bk ρ3 => exact fun σ3 eo3 => c2 θ2 H2 Step.refl rs2 σ3 eo3
          | rt w => exact fun v hv => c2 θ2 H2 Step.refl rs2 v (hv.early (st1.trans (st'.trans sty)) rsy)
        · exact cy.elim
      · exact cc.elim
end
mutual
theorem stm_ok {T : Tb} {g : Gd} {c : Cb2} {fu : Nat} : ∀ (s : Stm) {X : Cx} {E : XK} {sc : Scope} {st : Stmt}, CtxE X g T c E sc → chkS T X.N s sc st = true → PS X st (semS g E (evS fu c.cb c.ci c.ini s))
  | .set t e, X, E, sc, st, C, h => by
    simp only [chkS] at h
    split at h
    · simp only [Bool.and_eq_true] at h
      exact set_ok C h.1 h.2.1 h.2.2
    · cases h
  | .par i j a b, X, E, sc, st, C, h => by
    simp only [chkS] at h
    split at h
    · simp only [Bool.and_eq_true, decide_eq_true_eq, Bool.not_eq_true'] at h
      obtain ⟨h1, h2, h3, h4, h5, h6, h7, h8, h9, h10, h11, h12, h13⟩ := h
      exact par_ok C h1 (sqB_ok h2) (sqB_ok h3) h4 h5 h6 h7 h8 h9 h10 h11 (exp_ok a C h12).1 (exp_ok b C h13).1
    · cases h
  | .sfld o f cs e, X, E, sc, st, C, h => by
    simp only [chkS] at h
    split at h
    · simp only [Bool.and_eq_true, Bool.not_eq_true'] at h
      obtain ⟨h1, h2, h3, h4, h5⟩ := h
      rw [← show T.mthN f = _ from eq_of_beq h1]
      exact sfld_ok C h2 h3 (exp_ok e C h4).1 (exp_ok o C h5).1
    · cases h
  | .ssub o i e, X, E, sc, st, C, h => by
    simp only [chkS] at h
    split at h
    · simp only [Bool.and_eq_true, Bool.not_eq_true'] at h
      obtain ⟨h1, h2, h3, h4, h5⟩ := h
      exact ssub_ok C h1 h2 (exp_ok e C h3).1 (exp_ok o C h4).1 (exp_ok i C h5).1
    · cases h
  | .expr e, X, E, sc, st, C, h => by
    simp only [chkS] at h
    split at h
    · simp only [Bool.and_eq_true, Bool.not_eq_true'] at h
      exact expr_ok h.1 (exp_ok e C h.2).1
    · cases h
  | .ret e, X, E, sc, st, C, h => by
    simp only [chkS] at h
    split at h
    · exact ret_ok (exp_ok e C h).1
    · cases h
  | .retN, X, E, sc, st, C, h => by
    simp only [chkS] at h
    split at h
    · exact retN_ok
    · cases h
  | .ite d a b, X, E, sc, st, C, h => by
    simp only [chkS] at h
    split at h
    · simp only [Bool.and_eq_true] at h
      exact if_ok (exp_ok d C h.1).2.1 (stms_ok a C h.2.1) (stms_ok b C h.2.2)
    · cases h
  | .whl d b, X, E, sc, st, C, h => by
    simp only [chkS] at h
    split at h
    · simp only [Bool.and_eq_true] at h
      exact while_ok C.own (exp_ok d C h.1).2.1 (stms_ok b C h.2)
    · cases h
  | .for t it b, X, E, sc, st, C, h => by
    simp only [chkS] at h
    split at h
    · simp only [Bool.and_eq_true] at h
      exact for_ok C (itx_ok it C h.1) (tg_ok C h.2.1) (stms_ok b C h.2.2) (notSet_I h.1 X.env)
    · cases h
  | .brk, X, E, sc, st, C, h => by
    simp only [chkS] at h
    split at h
    · exact brk_ok
    · cases h
  | .cnt, X, E, sc, st, C, h => by
    simp only [chkS] at h
    split at h
    · exact cnt_ok
    · cases h
  | .pass, X, E, sc, st, C, h => by
    simp only [chkS] at h
    split at h
    · exact nx_ok ps_pass
    · exact nx_ok ps_doc
    · cases h
  | .raise _ _, X, E, sc, st, C, h => ⟨fun _ _ σ H D I q => by
    obtain ⟨θ, ρ, S, eo, rs, q⟩ := q
    exact q.elim⟩
theorem stms_ok {T : Tb} {g : Gd} {c : Cb2} {fu : Nat} : ∀ (s : Sts) {X : Cx} {E : XK} {sc : Scope} {st : List Stmt}, CtxE X g T c E sc → chkSs T X.N s sc st = true → PSs X st (semS g E (evSs fu c.cb c.ci c.ini s))
  | .nil, X, E, sc, [], C, h => nil_ok
  | .nil, X, E, sc, _ :: _, C, h => by simp [chkSs] at h
  | .cons s r, X, E, sc, [], C, h => by simp [chkSs] at h
  | .cons s r, X, E, sc, x :: xs, C, h => by
    simp only [chkSs, Bool.and_eq_true] at h
    exact cons_ok (stm_ok s C h.1) (stms_ok r C h.2)
end
end PyI

set_option maxRecDepth 100000
set_option maxHeartbeats 2000000
/-! PyI: defs. -/
namespace PyI
open PySem PySem.Spec PyProof.Rows L2
/-- one def: its place and tree, its parameters, its slots' names, its body as data -/
structure FnI where
  d : He.DefD
  ps : List Str
  N : List Str
  b : Sts
structure Pg where
  fs : List FnI
  fnn : List (Option Str)
  cls : List Str
  nms : List Str
  flds : List (Nat × Nat)
  dis : List (Nat × Nat × Nat)
  ini : List (Nat × Nat)
  free : List Str
  glbs : List (Str × D)
def nmOf (l : List Str) (i : Nat) : Str := match l[i]? with
  | some x => x
  | none => ⟨Array.replicate (i + 1) 0⟩
def nmOk (l : List Str) : Bool := decide l.Nodup && l.all fun x => !x.cps.toList.contains 0
theorem nmOf_inj {l : List Str} (h : nmOk l = true) (i j : Nat) (e : nmOf l i = nmOf l j) : i = j := by
  unfold nmOk at h
  rw [Bool.and_eq_true, decide_eq_true_eq, List.all_eq_true] at h
  obtain ⟨h1, h2⟩ := h
  have k0 : ∀ (x : Str) (i : Nat), x ∈ l → x = ⟨Array.replicate (i + 1) 0⟩ → False := fun x i hx e => by
    have := h2 x hx
    rw [e] at this
    simp at this
  unfold nmOf at e
  cases hi : l[i]? with
  | some x =>
    rw [hi] at e
    cases hj : l[j]? with
    | some y =>
      rw [hj] at e
      obtain ⟨a1, b1⟩ := List.getElem?_eq_some_iff.mp hi
      obtain ⟨a2, b2⟩ := List.getElem?_eq_some_iff.mp hj
      exact (List.getElem_inj h1).mp (b1.trans (e.trans b2.symm))
    | none =>
      rw [hj] at e
      exact (k0 x j (List.mem_of_getElem? hi) e).elim
  | none =>
    rw [hi] at e
    cases hj : l[j]? with
    | some y =>
      rw [hj] at e
      exact (k0 y i (List.mem_of_getElem? hj) e.symm).elim
    | none =>
      rw [hj] at e
      have := congrArg (fun z : Str => z.cps.size) e
      simpa using this
def Pg.T (P : Pg) : Tb where
  fnN := fun n => (P.fnn[n]?).join
  clN := fun n => P.cls[n]?
  mthN := nmOf P.nms
  dis := fun m C => (P.dis.find? fun q => q.1 == m && q.2.1 == C).map (·.2.2)
  ini := fun C => P.ini.lookup C
  free := fun x => P.free.contains x
  glb := fun x d => P.glbs.any fun q => q.1 == x && decide (q.2 = d)
  fok := fun C f => P.flds.contains (C, f)
def Pg.cn (P : Pg) (C : Nat) : Str := P.cls.getD C "?"
/-- a def's slots at its begin -/
def envOf (F : FnI) (ds : List D) : Env := ds.map some ++ List.replicate (F.N.length - ds.length) none
def run0 (fu : Nat) (P : Pg) : Nat → Cb
  | 0 => fun _ _ _ => .bad
  | n + 1 => fun f ds S => (match P.fs[f]? with
    | some F => if ds.length = F.ps.length then (evSs fu (run0 fu P n) (run0 fu P n) P.T.ini F.b (envOf F ds) S).bind fun o S => (match o with
      | .nx _ => .ok (.d .non) S
      | .rt w => .ok w S
      | _ => .bad) else .bad
    | none => .bad)
/-- kept shut, so that no unifier runs the program -/
@[irreducible] def run (fu : Nat) (P : Pg) : Nat → Cb := run0 fu P
theorem run_zero {fu : Nat} {P : Pg} {f : Nat} {ds : List D} {S : Sto} : run fu P 0 f ds S = .bad := by
  unfold run
  rfl
theorem run_succ {fu n : Nat} {P : Pg} {f : Nat} {ds : List D} {S : Sto} : run fu P (n + 1) f ds S = (match P.fs[f]? with
    | some F => if ds.length = F.ps.length then (evSs fu (run fu P n) (run fu P n) P.T.ini F.b (envOf F ds) S).bind fun o S => (match o with
      | .nx _ => .ok (.d .non) S
      | .rt w => .ok w S
      | _ => .bad) else .bad
    | none => .bad) := by
  unfold run
  rfl
/-! ### what is looked at -/
def scB (N ps : List Str) (sc : Scope) : Bool := decide (sc.kind = .function) && (!sc.isCoroutine && (!sc.isGenerator && (decide N.Nodup && (decide (N.take ps.length = ps) && ((ps.all fun x => match sc.names.lookup x with
    | some .local => true
    | some .cell => true
    | _ => false) && sc.names.all fun y => decide (y.2 ≠ .free))))))
theorem scB_ok {N ps : List Str} {sc : Scope} (h : scB N ps sc = true) : FnScope N ps sc := by
  unfold scB at h
  simp only [Bool.and_eq_true, decide_eq_true_eq, Bool.not_eq_true', List.all_eq_true] at h
  obtain ⟨h1, h2, h3, h4, h5, h6, h7⟩ := h
  refine ⟨h1, h2, h3, h4, h5, fun x hx => ?_, h7⟩
  have := h6 x hx
  split at this
  · exact .inl (by assumption)
  · exact .inr (by assumption)
  · cases this
/-- one def agrees with its data -/
def FnI.ok (P : Pg) (F : FnI) : Bool := scB F.N F.ps F.d.scope && (chkSs P.T F.N F.b F.d.scope F.d.body && (F.d.dfl.isEmpty && F.d.kwd.isEmpty))
/-- the numbers agree with the places -/
def Pg.wf (P : Pg) : Bool := nmOk P.nms && ((P.fs.all fun F => F.ok P) && ((P.fnn.zipIdx.all fun q => match q.1 with
      | some x => (match P.fs[q.2]? with
        | some F => decide (F.d.at_ = (x, none))
        | none => false)
      | none => true) && ((P.dis.all fun q => match P.fs[q.2.2]? with
        | some F => decide (F.d.at_ = (P.cn q.2.1, some (nmOf P.nms q.1))) && decide (q.2.1 < P.cls.length)
        | none => false) && ((P.ini.all fun q => match P.fs[q.2]? with
        | some F => decide (F.d.at_ = (P.cn q.1, some ("__init__" : Str)))
        | none => false) && ((P.flds.all fun q => decide (q.1 < P.cls.length)) && (List.range P.cls.length).all fun i => (P.ini.lookup i).isSome)))))
/-- the facts asked of the heap -/
def Pg.fa (P : Pg) : List He.Fa := P.fnn.filterMap (fun o => o.map He.Fa.glo) ++ (P.cls.map He.Fa.glo ++ (P.cls.map He.Fa.cls ++ (P.flds.map (fun q => He.Fa.noat (P.cn q.1) (nmOf P.nms q.2)) ++ (P.dis.map (fun q => He.Fa.meth (P.cn q.2.1) (nmOf P.nms q.1)) ++ (P.ini.map (fun q => He.Fa.mkr (P.cn q.1)) ++ P.free.map He.Fa.free)))))
def Pg.fd (P : Pg) : List He.DefD := P.fs.map (·.d)
/-! ### constants of the module -/
mutual
def dB (K : PySem.W.Frag) : D → Value → Bool
  | .non, u => (match u with
    | .none => true
    | _ => false)
  | .bl b, u => (match u with
    | .bool c => b == c
    | _ => false)
  | .int i, u => (match u with
    | .int j _ => decide (i = j)
    | _ => false)
  | .str l, u => (match u with
    | .str x _ => decide (l = x.cps.toList)
    | _ => false)
  | .rol t l, u => (match u with
    | .ref a => (match K.lookup a with
      | some ⟨.type c, none, .seq its _, _⟩ => decide (c = if t then "tuple" else "list") && (decide (its.size ≤ sizeLine) && dsB K l its.toList)
      | _ => false)
    | _ => false)
  | .tup _, _ => false
  | .ref _, _ => false
def dsB (K : PySem.W.Frag) : List D → List Value → Bool
  | [], us => us.isEmpty
  | d :: ds, us => (match us with
    | u :: us => dB K d u && dsB K ds us
    | [] => false)
end
mutual
theorem dB_ok {K : PySem.W.Frag} : ∀ {d : D} {u : Value}, dB K d u = true → ∃ v, RelV v u ∧ ∀ θ H, HasD K θ H d v
  | .non, u, h => by
    simp only [dB] at h
    split at h
    · exact ⟨.non, rfl, fun θ H => HasD.non_iff.mpr rfl⟩
    · cases h
  | .bl b, u, h => by
    simp only [dB] at h
    split at h
    · rw [eq_of_beq h]
      exact ⟨.bl _, rfl, fun θ H => HasD.bl_iff.mpr rfl⟩
    · cases h
  | .int i, u, h => by
    simp only [dB] at h
    split at h
    · rw [of_decide_eq_true h]
      exact ⟨.int _, ⟨_, rfl⟩, fun θ H => HasD.int_iff.mpr rfl⟩
    · cases h
  | .str l, u, h => by
    simp only [dB] at h
    split at h
    · rw [of_decide_eq_true h]
      exact ⟨.str _, ⟨_, rfl⟩, fun θ H => HasD.str_iff.mpr rfl⟩
    · cases h
  | .rol t l, u, h => by
    simp only [dB] at h
    split at h
    · split at h
      · rename_i a _ c its n sl hk
        simp only [Bool.and_eq_true, decide_eq_true_eq] at h
        obtain ⟨h1, h2, h3⟩ := h
        obtain ⟨vs, r, k⟩ := dsB_ok h3
        refine ⟨.ref a, rfl, fun θ H => ?_⟩
        cases t with
        | true => exact HasD.ktp_iff.mpr ⟨a, vs, rfl, ⟨_, its, n, hk, congrArg Value.type h1, rfl, h2, r⟩, k θ H⟩
        | false => exact HasD.rol_iff.mpr ⟨a, vs, rfl, .inr ⟨_, its, n, hk, congrArg Value.type h1, rfl, rfl, h2, r⟩, k θ H⟩
      · cases h
    · cases h
  | .tup _, _, h => by simp [dB] at h
  | .ref _, _, h => by simp [dB] at h
theorem dsB_ok {K : PySem.W.Frag} : ∀ {ds : List D} {us : List Value}, dsB K ds us = true → ∃ vs, Vals vs us ∧ ∀ θ H, HasDs K θ H ds vs
  | [], us, h => by
    simp only [dsB, List.isEmpty_iff] at h
    subst h
    exact ⟨[], .nil, fun _ _ => HasDs.nil⟩
  | d :: ds, [], h => by simp [dsB] at h
  | d :: ds, u :: us, h => by
    simp only [dsB, Bool.and_eq_true] at h
    obtain ⟨v, r, k⟩ := dB_ok h.1
    obtain ⟨vs, rs, ks⟩ := dsB_ok h.2
    exact ⟨v :: vs, .cons r rs, fun θ H => HasDs.cons (k θ H) (ks θ H)⟩
end
def gB (K : PySem.W.Frag) (q : Str × D) : Bool := match PySem.W.nsIn K mainGlobals q.1 with
  | some (some u) => dB K q.2 u
  | _ => false
/-! ### the Hook -/
abbrev AlP : Type := He.AlD × Bool
def obsP (P : Pg) (K : PySem.W.Frag) : AlP := (He.obsD P.fa P.fd K, P.glbs.all (gB K))
def SaysP (P : Pg) (K : PySem.W.Frag) : Prop := obsP P K = (He.valD P.fd, true)
def obsPG (n : Nat) (P : Pg) (g : Addr → Option Obj) : AlP := obsP P (He.frG g (He.asD g n))
def hookP (n : Nat) (P : Pg) : PySem.W.Hook where
  α := AlP
  obs := fun s => obsPG n P s.heap.get?
  val := fun _ => (He.valD P.fd, true)
  says := fun _ h => ∃ K : PySem.W.Frag, K.In h ∧ SaysP P K
  of := fun _ _ e => ⟨_, He.frG_in, e⟩
  keeps := fun _ _ _ ⟨K, hK, c⟩ k => ⟨K, PySem.W.Frag.In.keeps hK k, c⟩
def obP (n : Nat) (P : Pg) (s : PySem.W.SharedT) : AlP := obsPG n P (HandSHeadRun.getT s)
theorem obP_eq (n : Nat) (P : Pg) (s : PySem.W.SharedT) : obP n P s = (hookP n P).obs s.abs := by
  have e : HandSHeadRun.getT s = s.abs.heap.get? := funext (HandSHeadRun.getT_eq s)
  show obsPG n P (HandSHeadRun.getT s) = obsPG n P s.abs.heap.get?
  rw [e]
end PyI

set_option maxRecDepth 100000
set_option maxHeartbeats 2000000
/-! PyI: every def keeps its promise. -/
namespace PyI
open PySem PySem.Spec PyProof.Rows L2
/-- the parameters of a def are bound by place -/
def Bnd (F : FnI) : Prop := ∀ (kV doc pm : Value) (an : Option Addr) (cdv ct : Value) (us : List Value), us.length = F.ps.length → bindArgs (PySem.W.fnOf F.d.name F.d.qual F.d.params F.d.body F.d.scope .none kV doc pm an cdv ct) ⟨us, []⟩ = pure (F.ps.zip us)
def AllB : List FnI → Prop
  | [] => True
  | F :: r => Bnd F ∧ AllB r
theorem AllB.get : ∀ {l : List FnI} {i : Nat} {F : FnI}, AllB l → l[i]? = some F → Bnd F
  | [], _, _, _, e => by simp at e
  | F :: r, 0, G, h, e => by
    simp at e
    subst e
    exact h.1
  | F :: r, i + 1, G, h, e => AllB.get h.2 (by simpa using e)
section
variable {P : Pg} {K : PySem.W.Frag} {mg : Str → Option Value} {h : Heap}
def Pg.g (P : Pg) (hw : nmOk P.nms = true) (K : PySem.W.Frag) : Gd := ⟨K, fun i => He.ga K (P.cn i), nmOf P.nms, nmOf_inj hw⟩
structure Wf (P : Pg) : Prop where
  nms : nmOk P.nms = true
  fs : ∀ F ∈ P.fs, F.ok P = true
  fnn : ∀ (n : Nat) (x : Str), (P.fnn[n]?).join = some x → ∃ F : FnI, P.fs[n]? = some F ∧ F.d.at_ = (x, none)
  dis : ∀ (m C n : Nat), P.T.dis m C = some n → (m, C, n) ∈ P.dis ∧ ∃ F : FnI, P.fs[n]? = some F ∧ F.d.at_ = (P.cn C, some (nmOf P.nms m)) ∧ C < P.cls.length
  ini : ∀ (C n : Nat), P.ini.lookup C = some n → (C, n) ∈ P.ini ∧ ∃ F : FnI, P.fs[n]? = some F ∧ F.d.at_ = (P.cn C, some ("__init__" : Str))
  flds : ∀ q ∈ P.flds, q.1 < P.cls.length
  iall : ∀ (i : Nat), i < P.cls.length → (P.ini.lookup i).isSome = true
theorem wf_of (w : P.wf = true) : Wf P := by
  unfold Pg.wf at w
  simp only [Bool.and_eq_true, List.all_eq_true] at w
  obtain ⟨h1, h2, h3, h4, h5, h6, h7⟩ := w
  refine ⟨h1, h2, fun n x e => ?_, fun m C n e => ?_, fun C n e => ?_, fun q hq => by simpa using h6 q hq, fun i hi => h7 i (List.mem_range.mpr hi)⟩
  · cases e1 : P.fnn[n]? with
    | none => rw [e1] at e; cases e
    | some o =>
      rw [e1] at e
      have e : o = some x := e
      subst e
      have hm : (some x, n) ∈ P.fnn.zipIdx := by
        rw [List.mem_zipIdx_iff_getElem?]
        exact e1
      have := h3 _ hm
      dsimp only at this
      split at this
      · rename_i F hF
        exact ⟨F, hF, of_decide_eq_true this⟩
      · cases this
  · unfold Pg.T at e
    dsimp only at e
    cases e1 : P.dis.find? fun q => q.1 == m && q.2.1 == C with
    | none => rw [e1] at e; cases e
    | some q =>
      rw [e1] at e
      have e := Option.some.inj e
      have hm := List.mem_of_find?_eq_some e1
      have hp := List.find?_some e1
      rw [Bool.and_eq_true] at hp
      have e2 : q = (m, C, n) := by
        rw [← eq_of_beq hp.1, ← eq_of_beq hp.2, ← e]
      subst e2
      refine ⟨hm, ?_⟩
      have := h4 _ hm
      dsimp only at this
      split at this
      · rename_i F hF
        rw [Bool.and_eq_true, decide_eq_true_eq, decide_eq_true_eq] at this
        exact ⟨F, hF, this.1, this.2⟩
      · cases this
  · have hm := look_mem e
    refine ⟨hm, ?_⟩
    have := h5 _ hm
    dsimp only at this
    split at this
    · rename_i F hF
      exact ⟨F, hF, of_decide_eq_true this⟩
    · cases this
/-- what the facts say -/
structure Fct (P : Pg) (K : PySem.W.Frag) (mg : Str → Option Value) : Prop where
  glo : ∀ (n : Nat) (x : Str), (P.fnn[n]?).join = some x → mg x = some (.ref (He.ga K x))
  cls : ∀ (C : Nat) (x : Str), P.cls[C]? = some x → mg x = some (.ref (He.ga K x)) ∧ Cls K (He.ga K x)
  noat : ∀ (C f : Nat), (C, f) ∈ P.flds → NoAttr K (He.ga K (P.cn C)) (nmOf P.nms f)
  meth : ∀ (m C n : Nat), (m, C, n) ∈ P.dis → Meth K (He.ga K (P.cn C)) (nmOf P.nms m) (He.ma K (He.ga K (P.cn C)) (nmOf P.nms m))
  mkr : ∀ (C n : Nat), (C, n) ∈ P.ini → Mk K (He.ga K (P.cn C)) (He.ma K (He.ga K (P.cn C)) "__init__")
  free : ∀ x, P.free.contains x = true → mg x = none
  glb : ∀ x d, (x, d) ∈ P.glbs → ∃ u v, mg x = some u ∧ RelV v u ∧ ∀ θ H, HasD K θ H d v
  fd : ∀ (i : Nat) (F : FnI), P.fs[i]? = some F → F.ok P = true → ∃ fd, FunD K F.d.name F.d.qual F.d.params F.d.body F.d.scope [] [] (He.fAd K F.d.at_) fd
theorem fct_of (X : K.In h) (G : h.Ns mainGlobals mg) (c : SaysP P K) : Fct P K mg := by
  have c1 : He.SaysD P.fa P.fd K := congrArg (fun z : AlP => z.1) c
  have c2 : P.glbs.all (gB K) = true := congrArg (fun z : AlP => z.2) c
  have hf : ∀ f ∈ P.fa, f.ok K = true := fun f hf => by
    obtain ⟨i, hi, e⟩ := List.mem_iff_getElem.mp hf
    exact c1.fact i (by rw [List.getElem?_eq_getElem hi, e])
  refine ⟨fun n x e => He.glo_ok X G (hf _ ?_), fun C x e => ⟨He.glo_ok X G (hf _ ?_), He.cls_ok (hf _ ?_)⟩, fun C f hm => He.noat_ok (hf _ ?_), fun m C n hm => He.meth_ok (hf _ ?_), fun C n hm => He.mkr_ok (hf _ ?_), fun x hm => He.free_ok X G (hf _ ?_), fun x d hm => ?_, fun i F hF hok => ?_⟩
  · unfold Pg.fa
    refine List.mem_append_left _ (List.mem_filterMap.mpr ⟨some x, ?_, rfl⟩)
    cases e1 : P.fnn[n]? with
    | none => rw [e1] at e; cases e
    | some o =>
      rw [e1] at e
      have e : o = some x := e
      subst e
      exact List.mem_of_getElem? e1
  · unfold Pg.fa
    exact List.mem_append_right _ (List.mem_append_left _ (List.mem_map.mpr ⟨x, List.mem_of_getElem? e, rfl⟩))
  · unfold Pg.fa
    exact List.mem_append_right _ (List.mem_append_right _ (List.mem_append_left _ (List.mem_map.mpr ⟨x, List.mem_of_getElem? e, rfl⟩)))
  · unfold Pg.fa
    exact List.mem_append_right _ (List.mem_append_right _ (List.mem_append_right _ (List.mem_append_left _ (List.mem_map.mpr ⟨(C, f), hm, rfl⟩))))
  · unfold Pg.fa
    exact List.mem_append_right _ (List.mem_append_right _ (List.mem_append_right _ (List.mem_append_right _ (List.mem_append_left _ (List.mem_map.mpr ⟨(m, C, n), hm, rfl⟩)))))
  · unfold Pg.fa
    exact List.mem_append_right _ (List.mem_append_right _ (List.mem_append_right _ (List.mem_append_right _ (List.mem_append_right _ (List.mem_append_left _ (List.mem_map.mpr ⟨(C, n), hm, rfl⟩))))))
  · unfold Pg.fa
    exact List.mem_append_right _ (List.mem_append_right _ (List.mem_append_right _ (List.mem_append_right _ (List.mem_append_right _ (List.mem_append_right _ (List.mem_map.mpr ⟨x, by simpa using hm, rfl⟩))))))
  · have := List.all_eq_true.mp c2 _ hm
    unfold gB at this
    split at this
    · rename_i u hu
      obtain ⟨v, r, k⟩ := dB_ok this
      exact ⟨u, v, PySem.W.mg_of X G hu, r, k⟩
    · cases this
  · obtain ⟨fd, FD⟩ := c1.def_ i (d := F.d) (by unfold Pg.fd; rw [List.getElem?_map, hF]; rfl)
    unfold FnI.ok at hok
    simp only [Bool.and_eq_true, List.isEmpty_iff] at hok
    obtain ⟨_, _, e1, e2⟩ := hok
    have a1 : F.d.dvs K = [] := by unfold He.DefD.dvs; rw [e1]; rfl
    have a2 : F.d.kws K = [] := by unfold He.DefD.kws; rw [e2]; rfl
    rw [a1, a2] at FD
    exact ⟨fd, FD⟩
theorem env_start {K : PySem.W.Frag} {θ : List Addr} {H : Hp} {N : List Str} {F : FnI} {ds : List D} {vs : List V} (hN : F.N = N) (hv : HasDs K θ H ds vs) : EnvOk K θ H (L2.start N vs) (envOf F ds) := by
  subst hN
  unfold L2.start envOf
  refine ⟨by simp [hv.length], fun i d hd => ?_⟩
  by_cases hi : i < ds.length
  · rw [List.getElem?_append_left (by simpa using hi), List.getElem?_map] at hd
    cases e : ds[i]? with
    | none => rw [e] at hd; cases hd
    | some x =>
      rw [e] at hd
      cases hd
      obtain ⟨v, e1, e2⟩ := hv.get e
      refine ⟨v, ?_, e2⟩
      rw [List.getElem?_append_left (by rw [List.length_map, ← hv.length]; exact hi), List.getElem?_map, e1]
      rfl
  · rw [List.getElem?_append_right (by simpa using hi), List.getElem?_replicate] at hd
    split at hd <;> cases hd
/-- every def, at every depth -/
theorem run_ok {Pr : Program} {w : World} {base : Heap} {fu : Nat} (Z : Wf P) (hB : AllB P.fs) (C : Fct P K mg) : ∀ (n i : Nat) (F : FnI) (fd : FuncData), P.fs[i]? = some F → FunD K F.d.name F.d.qual F.d.params F.d.body F.d.scope [] [] (He.fAd K F.d.at_) fd →
    FnOk Pr w K mg base (L2.CX Pr w) (2 * n) (He.fAd K F.d.at_) fd F.ps (spC (P.g Z.nms K) (run fu P n) i)
  | n, i, F, fd, hF, FD => by
    have hok := Z.fs F (List.mem_of_getElem? hF)
    cases n with
    | zero => exact ⟨fun vs H Q E ⟨θ, S, ds, hv, rs, c⟩ => by rw [run_zero] at c; exact c.elim, fun A outer s H args us vs Q E hr e0 hb r ⟨θ, S, ds, hv, rs, c⟩ => by rw [run_zero] at c; exact c.elim⟩
    | succ n =>
      have ih0 := run_ok (Pr := Pr) (w := w) (base := base) (fu := fu) Z hB C n
      have ih : ∀ (i : Nat) (F : FnI), P.fs[i]? = some F → ∃ fd, FunD K F.d.name F.d.qual F.d.params F.d.body F.d.scope [] [] (He.fAd K F.d.at_) fd ∧ L2.Binds K fd F.ps [] ∧ FnOk Pr w K mg base (L2.CX Pr w) (2 * n) (He.fAd K F.d.at_) fd F.ps (spC (P.g Z.nms K) (run fu P n) i) := fun i F hF => by
        obtain ⟨fd, FD⟩ := C.fd i F hF (Z.fs F (List.mem_of_getElem? hF))
        exact ⟨fd, FD, FD.bindsN (hB.get hF), ih0 i F fd hF FD⟩
      unfold FnI.ok at hok
      simp only [Bool.and_eq_true] at hok
      obtain ⟨hsc, hchk, _⟩ := hok
      have FS := scB_ok hsc
      have key : ∀ {ds : List D} {S : Sto} {θ : List Addr} {H : Hp} {E : XK} {k : W → Sto → List Addr → Hp → Prop}, CaseR (P.g Z.nms K) θ H (run fu P (n + 1) i ds S) E k → ds.length = F.ps.length ∧
          CaseR (P.g Z.nms K) θ H ((evSs fu (run fu P n) (run fu P n) P.T.ini F.b (envOf F ds) S).bind fun o S => (match o with
            | .nx _ => .ok (.d .non) S
            | .rt w => .ok w S
            | _ => .bad)) E k := fun {ds S θ H E k} c => by
        rw [run_succ] at c
        rw [hF] at c
        dsimp only at c
        split at c
        · rename_i hl; exact ⟨hl, c⟩
        · exact c.elim
      show FnOk Pr w K mg base (L2.CX Pr w) (2 * n + 1 + 1) _ fd F.ps _
      refine FD.ok FS (fun vs H Q E ⟨θ, S, ds, hv, rs, c⟩ => by rw [← hv.length]; exact (key c).1) fun cdv A outer s H vs Q E hr ⟨θ, S, ds, hv, rs, c⟩ => ?_
      have hl : (envOfC F.d.qual F.d.scope s.heap.objs.size (He.fAd K F.d.at_) cdv).scope = F.d.scope := rfl
      have CE : CtxE (cxOf (L2.CX Pr w) Pr w K mg base F.N F.d.qual F.d.scope (He.fAd K F.d.at_) cdv A outer s H E) (P.g Z.nms K) P.T ⟨run fu P n, run fu P n, P.T.ini⟩ E F.d.scope := {
        K := rfl
        calm := rfl
        nd := FS.nd
        hu := by have := hr.un; show (A.deeper _).units + 70 < cLine; omega
        loc := fun x h => by
          unfold visB at h
          split at h
          · exact .inl (by assumption)
          · exact .inr (.inl (by assumption))
          · exact .inr (.inr (by assumption))
          · cases h
        wr := fun x h => by
          refine ⟨?_, .inl rfl⟩
          unfold locB at h
          split at h
          · exact .inl (by assumption)
          · exact .inr (by assumption)
          · cases h
        glo := fun x h => by
          unfold gloB at h
          split at h
          · show F.d.scope.names.lookup x = _; assumption
          · cases h
        kf := FS.kind
        exa := fun x k _ h => h
        own := L2.passes_of rfl
        cel := fun x h => h
        nm := rfl
        ini := rfl
        pass := L2.passes_call (L2.takes_of rfl rfl rfl rfl) fun _ _ _ _ h => h
        fn := fun m x hm => by
          obtain ⟨F', hF', ha⟩ := Z.fnn m x hm
          obtain ⟨fd', FD', hb', hok'⟩ := ih m F' hF'
          have ea : He.fAd K F'.d.at_ = He.ga K x := by rw [ha]; rfl
          rw [ea] at hok' FD'
          exact ⟨2 * n, He.ga K x, fd', F'.ps, C.glo m x hm, FD'.kp, hok', hr.mono (by omega), hb'⟩
        meth := fun m C' m' hm => by
          obtain ⟨hmem, F', hF', ha, hlt⟩ := Z.dis m C' m' hm
          obtain ⟨fd', FD', hb', hok'⟩ := ih m' F' hF'
          have ea : He.fAd K F'.d.at_ = He.ma K (He.ga K (P.cn C')) (nmOf P.nms m) := by rw [ha]; rfl
          rw [ea] at hok'
          have hc : P.cls[C']? = some (P.cn C') := by
            unfold Pg.cn
            rw [List.getD_eq_getElem?_getD, List.getElem?_eq_getElem hlt]
            rfl
          exact ⟨2 * n, _, fd', F'.ps, (C.cls C' _ hc).2, C.meth m C' m' hmem, hok', hr.mono (by omega), hb'⟩
        make := fun C' x hx => by
          have hlt := (List.getElem?_eq_some_iff.mp hx).1
          have hcn : P.cn C' = x := by
            unfold Pg.cn
            rw [List.getD_eq_getElem?_getD, show P.cls[C']? = some x from hx]
            rfl
          obtain ⟨m, hm⟩ := Option.isSome_iff_exists.mp (Z.iall C' hlt)
          obtain ⟨hmem, F', hF', ha⟩ := Z.ini C' m hm
          obtain ⟨fd', FD', hb', hok'⟩ := ih m F' hF'
          have ea : He.fAd K F'.d.at_ = He.ma K (He.ga K (P.cn C')) "__init__" := by rw [ha]; rfl
          rw [ea] at hok'
          refine ⟨m, 2 * n, _, fd', F'.ps, hm, ?_, C.mkr C' m hmem, hok', hr.mono (by omega), hb'⟩
          show mg x = some (.ref (He.ga K (P.cn C')))
          rw [hcn]
          exact (C.cls C' x hx).1
        attr := fun C' f hf => by
          have hm : (C', f) ∈ P.flds := by
            have : P.flds.contains (C', f) = true := hf
            simpa using this
          have hlt := Z.flds _ hm
          have hc : P.cls[C']? = some (P.cn C') := by
            unfold Pg.cn
            rw [List.getD_eq_getElem?_getD, List.getElem?_eq_getElem hlt]
            rfl
          exact ⟨(C.cls C' _ hc).2, C.noat C' f hm⟩
        blt := fun x hx => C.free x hx
        glbs := fun x d hx => by
          have hx : (P.glbs.any fun q => q.1 == x && decide (q.2 = d)) = true := hx
          obtain ⟨q, hq, e⟩ := List.any_eq_true.mp hx
          rw [Bool.and_eq_true, decide_eq_true_eq] at e
          have : q = (x, d) := by rw [← eq_of_beq e.1, ← e.2]
          subst this
          exact C.glb x d hq }
      refine ⟨_, stms_ok (fu := fu) F.b CE hchk, θ, envOf F ds, S, env_start rfl hv, rs, (key c).2.bind.mono fun o S' θ' H' st' rs' h => ?_⟩
      cases o with
      | nx ρ => exact fun σ' eo' => h θ' H' Step.refl rs' _ (wd (HasD.non_iff.mpr rfl))
      | rt w => exact fun v hv => h θ' H' Step.refl rs' v hv
      | bk ρ => exact h.elim
      | ct ρ => exact h.elim
end
end PyI

set_option maxRecDepth 100000
set_option maxHeartbeats 2000000
/-! PyI: the end. -/
namespace PyI
open PySem PySem.Spec PyProof.Rows L2
theorem law_end {l : PySem.W.OpenLaw} {P : Pg} {i m fu n : Nat} {F : FnI} {q : Program} {loose : List Str} {XP : (Str → Option Value) → Heap → Prop} {d : DefRec} {x : Str} (hn : l.most = some 63) (hdf : d.params.defaults = []) (hr : Room (2 * n) callerA)
    (hF : P.fs[i]? = some F) (hat : F.d.at_ = (d.name, none)) (hps : F.ps = [x]) (wf : P.wf = true) (hB : AllB P.fs) (hfi : (P.fnn[i]?).join = some d.name)
    (hrun : ∀ ns : List Int, ns.length ≤ 63 → (∀ z ∈ ns, Builtin.Int.intBits z ≤ 1048576) → ∃ S', run fu P n i [.rol false (ns.map D.int)] [] = .ok (.d (.bl true)) S') :
    PySem.W.WalkO q loose XP (hookP m P).says l.row.toRowW d [] (fun f vs => PySem.call f vs) := by
  refine Att.attach_callB hn hdf fun w s₀ s₁ mg mb fa o pm cd doc a vs ns G Y ho hd hcd hmg hobj hints hlen hbits hg => ?_
  obtain ⟨K, KX, c⟩ := Y
  have W := wf_of wf
  have C := fct_of KX G.T.g c
  obtain ⟨fd, FD⟩ := C.fd i F hF (W.fs F (List.mem_of_getElem? hF))
  have ea : He.fAd K F.d.at_ = fa := by
    have e1 := C.glo i d.name hfi
    rw [hmg] at e1
    rw [hat]
    show He.ga K d.name = fa
    have := Option.some.inj e1
    cases this
    rfl
  have hb : ∀ (s : Shared) (u : Value), BindsTo s fd ⟨[u], []⟩ [(x, u)] := fun s u => by
    have := FD.bindsA (hB.get hF) s [u] (by rw [hps]; rfl)
    rw [hps] at this
    exact this
  rw [ea] at FD
  refine law_call (CX := L2.CX l.prog w) (sp := spC (P.g W.nms K) (run fu P n) i) KX G.T.g G.T.b G.T.builtins G.T.nolimit hg hobj hints (Nat.le_trans hlen (by decide)) hr (fun base h1 h2 => ?_) hb (fun H hO hS => ?_) fun H e s' z => ?_
  · have := run_ok (Pr := l.prog) (w := w) (base := base) (fu := fu) W hB C n i F fd hF (by rw [ea]; exact FD)
    rw [ea, hps] at this
    exact this
  · obtain ⟨S', hS'⟩ := hrun ns hlen hbits
    have hfz : FzL K H a (ns.map V.int) := by
      rcases hS with (hq | hq) | hq
      · rcases hO a with z | ⟨o, xs, z⟩
        · rw [z] at hq; cases hq
        · rw [z] at hq; cases hq
      · exact .inl hq
      · exact .inr hq
    refine ⟨[], [], [.rol false (ns.map D.int)], HasDs.cons (HasD.rol_iff.mpr ⟨a, _, rfl, hfz, hasInts ns⟩) HasDs.nil, ⟨rfl, List.nodup_nil, fun k o e => by simp at e⟩, ?_⟩
    rw [hS']
    intro θ' H' st rs v hv
    exact bl_of hv
  · obtain ⟨_, _, _, _, _, _, _, _, _, _, _, _, z⟩ := z
    exact z
end PyI

set_option maxRecDepth 100000
set_option maxHeartbeats 1000000
/-! PyI: what a run comes to. -/
namespace PyI
/-- it ends well, and Q holds of what it tells -/
def Ok {α : Type} (r : Res α) (Q : α → Sto → Prop) : Prop := match r with
  | .ok a S => Q a S
  | _ => False
section
variable {α β : Type} {r : Res α} {Q : α → Sto → Prop} {S S' : Sto}
theorem Ok.mono {Q' : α → Sto → Prop} (h : Ok r Q) (m : ∀ a S, Q a S → Q' a S) : Ok r Q' := by
  cases r <;> first
    | exact m _ _ h
    | exact h
theorem Ok_bind (f : α → Sto → Res β) (Q : β → Sto → Prop) : Ok (r.bind f) Q = Ok r fun a S => Ok (f a S) Q := by cases r <;> rfl
theorem Ok_ok (a : α) : Ok (.ok a S) Q = Q a S := Eq.trans rfl rfl
theorem Ok_bad : Ok (.bad : Res α) Q = False := rfl
theorem Ok_al (r : Res W) (Q : D → Sto → Prop) : Ok r.al Q = Ok r fun w S => Ok (w.al S) Q := by unfold Res.al; rw [Ok_bind]
theorem al_d (x : D) (Q : D → Sto → Prop) : Ok (W.al (.d x) S) Q = Q x S := Eq.trans rfl rfl
theorem al_o (ob : O) (Q : D → Sto → Prop) : Ok (W.al (.o ob) S) Q = Q (.ref S.length) (S ++ [ob]) := Eq.trans rfl rfl
theorem bind_ok (a : α) (f : α → Sto → Res β) : (Res.ok a S).bind f = f a S := Eq.trans rfl rfl
theorem al_ok_d (x : D) : (Res.ok (W.d x) S).al = .ok x S := Eq.trans rfl rfl
theorem al_ok_o (ob : O) : (Res.ok (W.o ob) S).al = .ok (.ref S.length) (S ++ [ob]) := Eq.trans rfl rfl
theorem opt_some (a : α) : opt (some a) S = .ok a S := Eq.trans rfl rfl
theorem testD_bl (b : Bool) (f : Bool → Res α) : testD (.d (.bl b)) S f = f b := Eq.trans rfl rfl
theorem Ok_ite (c : Prop) [Decidable c] (a b : Res α) : Ok (if c then a else b) Q = if c then Ok a Q else Ok b Q := by split <;> rfl
theorem Ok_nox (Q : α → Sto → Prop) : Ok r.nox Q = Ok r Q := by cases r <;> rfl
/-- so r is that -/
theorem Ok.eq (h : Ok r Q) : ∃ a S, r = .ok a S ∧ Q a S := by
  cases r <;> first
    | exact ⟨_, _, rfl, h⟩
    | exact h.elim
end
section
variable {fu n : Nat} {P : Pg} {cb ci : Cb} {ini : Nat → Option Nat} {ρ : Env} {S : Sto}
theorem ok_run {f : Nat} {ds : List D} {Q : W → Sto → Prop} (F : FnI) (hF : P.fs[f]? = some F) (hl : ds.length = F.ps.length)
    (h : Ok (evSs fu (run fu P n) (run fu P n) P.T.ini F.b (envOf F ds) S) fun o S => match o with
      | .nx _ => Q (.d .non) S
      | .rt w => Q w S
      | _ => False) : Ok (run fu P (n + 1) f ds S) Q := by
  rw [run_succ, hF]
  dsimp only
  rw [if_pos hl, Ok_bind]
  refine h.mono fun o S' q => ?_
  cases o <;> exact q
theorem ok_nil {Q : Out → Sto → Prop} (h : Q (.nx ρ) S) : Ok (evSs fu cb ci ini .nil ρ S) Q := h
theorem ok_cons {s : Stm} {r : Sts} {Q : Out → Sto → Prop} (h : Ok (evS fu cb ci ini s ρ S) fun o S => match o with
    | .nx ρ => Ok (evSs fu cb ci ini r ρ S) Q
    | .rt w => Q (.rt w) S
    | .bk ρ => Q (.bk ρ) S
    | .ct ρ => Q (.ct ρ) S) : Ok (evSs fu cb ci ini (.cons s r) ρ S) Q := by
  simp only [evSs, Ok_bind]
  refine h.mono fun o S' q => ?_
  cases o <;> exact q
/-- the last -/
theorem ok_one {s : Stm} {Q : Out → Sto → Prop} (h : Ok (evS fu cb ci ini s ρ S) Q) : Ok (evSs fu cb ci ini (.cons s .nil) ρ S) Q := by
  refine ok_cons (h.mono fun o S' q => ?_)
  cases o <;> exact q
/-- a loop over items: I what holds ahead of the rest -/
theorem ok_for {k : Wk} {f : D → Env → Sto → Res Out} {Q : Out → Sto → Prop} (I : List D → Env → Sto → Prop) (hs : ∀ l ρ S, I l ρ S → k.stays S = true)
    (hstep : ∀ x l ρ S, I (x :: l) ρ S → Ok (f x ρ S) fun o S => match o with
      | .nx ρ => I l ρ S
      | .ct ρ => I l ρ S
      | .bk ρ => Q (.nx ρ) S
      | .rt w => Q (.rt w) S) (hend : ∀ ρ S, I [] ρ S → Q (.nx ρ) S) : ∀ l ρ S, I l ρ S → Ok (forGo k f l ρ S) Q
  | [], ρ, S, h => by
    unfold forGo
    rw [if_pos (hs _ _ _ h)]
    exact hend ρ S h
  | x :: l, ρ, S, h => by
    unfold forGo
    rw [if_pos (hs _ _ _ h), Ok_bind]
    refine (hstep x l ρ S h).mono fun o S' q => ?_
    cases o with
    | nx ρ' => exact ok_for I hs hstep hend l ρ' S' q
    | ct ρ' => exact ok_for I hs hstep hend l ρ' S' q
    | bk ρ' => exact q
    | rt w => exact q
/-- a comprehension: I what holds ahead of the rest, with the part made -/
theorem ok_lc {k : Wk} {f : D → Sto → Res (Option D)} {Q : W → Sto → Prop} (I : List D → List D → Sto → Prop) (hs : ∀ l acc S, I l acc S → k.stays S = true)
    (hstep : ∀ x l acc S, I (x :: l) acc S → Ok (f x S) fun r S => match r with
      | none => I l acc S
      | some y => acc.length < LINE ∧ I l (acc ++ [y]) S) (hend : ∀ acc S, I [] acc S → Q (.o (.lst acc)) S) : ∀ l acc S, I l acc S → Ok (lcGo k f l acc S) Q
  | [], acc, S, h => by
    unfold lcGo
    rw [if_pos (hs _ _ _ h)]
    exact hend acc S h
  | x :: l, acc, S, h => by
    unfold lcGo
    rw [if_pos (hs _ _ _ h), Ok_bind]
    refine (hstep x l acc S h).mono fun r S' q => ?_
    cases r with
    | none => exact ok_lc I hs hstep hend l acc S' q
    | some y =>
      have q : acc.length < LINE ∧ I l (acc ++ [y]) S' := q
      show Ok (if acc.length < LINE then lcGo k f l (acc ++ [y]) S' else .bad) Q
      rw [if_pos q.1]
      exact ok_lc I hs hstep hend l _ S' q.2
/-- a while: m a number that falls -/
theorem ok_while {c : Env → Sto → Res Bool} {b : Env → Sto → Res Out} {Q : Out → Sto → Prop} (I : Nat → Env → Sto → Prop)
    (hstep : ∀ m ρ S, I m ρ S → Ok (c ρ S) fun t S => if t = true then Ok (b ρ S) (fun o S => match o with
      | .nx ρ => ∃ m', m' < m ∧ I m' ρ S
      | .ct ρ => ∃ m', m' < m ∧ I m' ρ S
      | .bk ρ => Q (.nx ρ) S
      | .rt w => Q (.rt w) S) else Q (.nx ρ) S) : ∀ fu m ρ S, m < fu → I m ρ S → Ok (whlGo c b fu ρ S) Q
  | 0, m, ρ, S, hm, h => absurd hm (Nat.not_lt_zero _)
  | fu + 1, m, ρ, S, hm, h => by
    unfold whlGo
    rw [Ok_bind]
    refine (hstep m ρ S h).mono fun t S' q => ?_
    cases t with
    | false => exact q
    | true =>
      rw [if_pos rfl] at q ⊢
      rw [Ok_bind]
      refine q.mono fun o S2 q => ?_
      cases o with
      | nx ρ' => obtain ⟨m', h1, h2⟩ := q; exact ok_while I hstep fu m' ρ' S2 (by omega) h2
      | ct ρ' => obtain ⟨m', h1, h2⟩ := q; exact ok_while I hstep fu m' ρ' S2 (by omega) h2
      | bk ρ' => exact q
      | rt w => exact q
end
end PyI

set_option maxRecDepth 100000
set_option maxHeartbeats 1000000
/-! PyI: the laws' deal and draws. -/
namespace PyI
abbrev kSeed : D := .str [115, 101, 101, 100]
abbrev kNum : D := .str [110, 117, 109, 98, 101, 114]
abbrev kLeft : D := .str [108, 101, 102, 116]
def w1 : Stm := .ssub (.var 0) (.con kNum) (.bmt .pop (.idx (.var 0) (.con kLeft)) (.nil))
def w0 : Stm := .whl (.band (.cmp .eq (.idx (.var 0) (.con kNum)) (.con (.int 0))) (.cmp .gt (.blt .len (.cons (.idx (.var 0) (.con kLeft)) .nil)) (.con (.int 0)))) (.cons w1 .nil)
def w2 : Stm := .set (.nm 2) (.idx (.var 0) (.con kNum))
def w4 : Stm := .ssub (.var 0) (.con kNum) (.bin .fdiv (.var 2) (.var 1))
def w5 : Stm := .ret (.bin .mod (.var 2) (.var 1))
def w3 : Stm := .ite (.cmp .gt (.var 2) (.con (.int 0))) (.cons w4 (.cons w5 .nil)) (.nil)
def w6 : Stm := .set (.nm 3) (.bin .mod (.bin .add (.bin .mul (.idx (.var 0) (.con kSeed)) (.con (.int 48271))) (.con (.int 7919))) (.con (.int 2147483647)))
def w7 : Stm := .ssub (.var 0) (.con kSeed) (.bin .mod (.bin .add (.bin .mul (.var 3) (.con (.int 40692))) (.con (.int 104729))) (.con (.int 2147483399)))
def w8 : Stm := .set (.nm 4) (.bin .mod (.bin .mul (.idx (.var 0) (.con kSeed)) (.idx (.var 0) (.con kSeed))) (.con (.int 2147483563)))
def w9 : Stm := .ret (.bin .mod (.bin .add (.bin .mul (.bin .mod (.bin .mul (.var 3) (.var 3)) (.con (.int 2147483629))) (.con (.int 2147483563))) (.var 4)) (.var 1))
def drawB : Sts := .cons w0 (.cons w2 (.cons w3 (.cons w6 (.cons w7 (.cons w8 (.cons w9 .nil))))))
/-- the deal at k, what is left of the cells at j -/
def dealO (j : Nat) (seed num : Int) : O := .dK [(kSeed, .int seed), (kNum, .int num), (kLeft, .ref j)]
def Dl (k j : Nat) (S : Sto) : Prop := k ≠ j ∧ ∃ (seed num : Int) (l : List Int), S[k]? = some (dealO j seed num) ∧ S[j]? = some (.lst (l.map D.int)) ∧ 0 ≤ seed ∧ seed < 2147483648 ∧ 0 ≤ num ∧ (∀ x ∈ l, 0 ≤ x) ∧ l.length ≤ 63
/-- nothing but the deal is otherwise, and there may be more -/
def Fr (k j : Nat) (S S' : Sto) : Prop := S.length ≤ S'.length ∧ ∀ i, i < S.length → i ≠ k → i ≠ j → S'[i]? = S[i]?
theorem Fr.refl {k j : Nat} {S : Sto} : Fr k j S S := ⟨Nat.le_refl _, fun _ _ _ _ => rfl⟩
theorem Fr.trans {k j : Nat} {S S' S'' : Sto} (h : Fr k j S S') (h' : Fr k j S' S'') : Fr k j S S'' := ⟨Nat.le_trans h.1 h'.1, fun i hi a b => by rw [h'.2 i (by have := h.1; omega) a b, h.2 i hi a b]⟩
theorem Fr.app {k j : Nat} {S : Sto} (o : O) : Fr k j S (S ++ [o]) := ⟨by simp, fun i hi _ _ => List.getElem?_append_left hi⟩
theorem Fr.at_ {k j i : Nat} {S S' : Sto} {o : O} (h : Fr k j S S') (e : S[i]? = some o) (a : i ≠ k) (b : i ≠ j) : S'[i]? = some o := by
  rw [h.2 i (List.getElem?_eq_some_iff.mp e).1 a b, e]
theorem Dl.lt {k j : Nat} {S : Sto} (h : Dl k j S) : k < S.length ∧ j < S.length := by
  obtain ⟨_, _, _, _, h1, h2, _⟩ := h
  exact ⟨(List.getElem?_eq_some_iff.mp h1).1, (List.getElem?_eq_some_iff.mp h2).1⟩
theorem Dl.app {k j : Nat} {S : Sto} (h : Dl k j S) (o : O) : Dl k j (S ++ [o]) := by
  obtain ⟨l1, l2⟩ := h.lt
  obtain ⟨hne, seed, num, l, h1, h2, r⟩ := h
  exact ⟨hne, seed, num, l, by rw [List.getElem?_append_left l1]; exact h1, by rw [List.getElem?_append_left l2]; exact h2, r⟩
section
variable {k j : Nat} {S : Sto} {seed num : Int} {l : List Int}
theorem dl_num (h1 : S[k]? = some (dealO j seed num)) : idxW (.d (.ref k)) kNum S = some (.int num) := by
  simp [idxW, idxO, askOf, h1, dealO, D.keyK, look]
theorem dl_seed (h1 : S[k]? = some (dealO j seed num)) : idxW (.d (.ref k)) kSeed S = some (.int seed) := by
  simp [idxW, idxO, askOf, h1, dealO, D.keyK, look]
theorem dl_left (h1 : S[k]? = some (dealO j seed num)) : idxW (.d (.ref k)) kLeft S = some (.ref j) := by
  simp [idxW, idxO, askOf, h1, dealO, D.keyK, look]
theorem dl_setN (h1 : S[k]? = some (dealO j seed num)) (v : Int) : PyI.setD (.ref k) kNum (.int v) S = some (S.set k (dealO j seed v)) := by
  simp [PyI.setD, h1, dealO, D.keyK, put, LINE]
theorem dl_setS (h1 : S[k]? = some (dealO j seed num)) (v : Int) : PyI.setD (.ref k) kSeed (.int v) S = some (S.set k (dealO j v num)) := by
  simp [PyI.setD, h1, dealO, D.keyK, put, LINE]
end
theorem eqW_scal {x y : D} {S : Sto} (h : scalD x y = true) : eqW (.d x) (.d y) S = some (decide (x = y)) := by
  unfold eqW
  exact if_pos h
theorem mul_l {a b : Int} {S : Sto} (h : -(2 ^ 64) < a ∧ a < 2 ^ 64) : mulW (.d (.int a)) (.d (.int b)) S = some (.d (.int (a * b))) := by
  unfold mulW
  exact if_pos (.inl h)
theorem mul_r {a b : Int} {S : Sto} (h : -(2 ^ 64) < b ∧ b < 2 ^ 64) : mulW (.d (.int a)) (.d (.int b)) S = some (.d (.int (a * b))) := by
  unfold mulW
  exact if_pos (.inr h)
section
variable {fu n : Nat} {P : Pg} {k j : Nat} {S : Sto}
/-- what a draw tells -/
theorem draw_ok {d : Nat} {F : FnI} (hF : P.fs[d]? = some F) (hb : F.b = drawB) (hp : F.ps.length = 2) (hN : F.N.length = 5) (hfu : 64 < fu) {m : Int} (hD : Dl k j S) (h0 : 0 < m) (h1 : m < 18446744073709551616) {Q : W → Sto → Prop}
    (q : ∀ (v : Int) (S' : Sto), 0 ≤ v → v < m → Dl k j S' → Fr k j S S' → S'.length = S.length → Q (.d (.int v)) S') : Ok (run fu P (n + 1) d [.ref k, .int m] S) Q := by
  refine ok_run F hF (by rw [hp]; rfl) ?_
  rw [hb]
  have he : envOf F [.ref k, .int m] = [some (.ref k), some (.int m), none, none, none] := by
    unfold envOf
    rw [hN]
    rfl
  rw [he]
  unfold drawB
  refine ok_cons ?_
  obtain ⟨hne, seed, num, l, e1, e2, hs0, hs1, hn0, hl, hlen⟩ := hD
  -- the cells' digits
  have loop : Ok (evS fu (run fu P n) (run fu P n) P.T.ini w0 [some (.ref k), some (.int m), none, none, none] S) fun o S' => o = .nx [some (.ref k), some (.int m), none, none, none] ∧
      ∃ (num : Int) (l : List Int), S'[k]? = some (dealO j seed num) ∧ S'[j]? = some (.lst (l.map D.int)) ∧ 0 ≤ num ∧ (∀ x ∈ l, 0 ≤ x) ∧ l.length ≤ 63 ∧ Fr k j S S' ∧ S'.length = S.length := by
    unfold w0
    simp only [evS]
    refine ok_while (fun m' ρ S' => ρ = [some (.ref k), some (.int m), none, none, none] ∧ ∃ (num : Int) (l : List Int), l.length = m' ∧ S'[k]? = some (dealO j seed num) ∧ S'[j]? = some (.lst (l.map D.int)) ∧ 0 ≤ num ∧ (∀ x ∈ l, 0 ≤ x) ∧ l.length ≤ 63 ∧ Fr k j S S' ∧ S'.length = S.length)
      ?_ fu l.length _ _ (by omega) ⟨rfl, num, l, rfl, e1, e2, hn0, hl, hlen, Fr.refl, rfl⟩
    rintro m' ρ S' ⟨rfl, num, l, rfl, e1, e2, hn0, hl, hlen, hf, hsl⟩
    have i1 := dl_num e1
    have i2 := dl_left e1
    have hne' : PyI.eqW (.d (.int num)) (.d (.int 0)) S' = some (decide (num = 0)) := by
      rw [eqW_scal rfl]
      congr 1
      rw [Bool.eq_iff_iff]
      simp
    by_cases hz : num = 0
    · subst hz
      have hlw : lenW (.d (.ref j)) S' = some l.length := by simp [lenW, e2]
      simp only [tst, evE, evWs, evDs, evO, evC, evI, Ok_bind, Ok_ok, Ok_al, al_d, al_o, bind_ok, al_ok_d, al_ok_o, opt_some, testD_bl, List.getElem?_cons_zero, List.getElem?_cons_succ, List.set_cons_zero, List.set_cons_succ, Option.map_some, cmpW, ordW, bltW, binW, intW, addW, evS, Tg.put, if_true, Bool.false_eq_true, if_false, i1, i2, hne', decide_true, if_true, hlw]
      by_cases hl0 : l = []
      · subst hl0
        simp only [List.length_nil, Int.ofNat_zero, Int.lt_irrefl, decide_false, Bool.false_eq_true, if_false]
        exact ⟨True.intro, 0, [], e1, e2, Int.le_refl _, by simp, by simp, hf, hsl⟩
      · have hpos : (0 : Int) < (l.length : Int) := by
          have := List.length_pos_iff.mpr hl0
          omega
        rw [if_pos (by simpa using hpos)]
        refine ok_one ?_
        obtain ⟨x, hx⟩ : ∃ x, l.getLast? = some x := by
          cases hq : l.getLast? with
          | none => exact absurd (List.getLast?_eq_none_iff.mp hq) hl0
          | some x => exact ⟨x, rfl⟩
        have hkd : kdOk .list (.d (.ref j)) S' = true := by simp [kdOk, lstOf, e2]
        have hpop : bmtW .pop (.d (.ref j)) [] S' = .ok (.d (.int x)) (S'.set j (.lst (l.dropLast.map D.int))) := by
          simp [bmtW, e2, hx, List.map_dropLast]
        have e1' : (S'.set j (.lst (l.dropLast.map D.int)))[k]? = some (dealO j seed 0) := by rw [List.getElem?_set_ne (Ne.symm hne)]; exact e1
        have i3 := dl_setN e1' x
        simp only [w1, tst, evE, evWs, evDs, evO, evC, evI, Ok_bind, Ok_ok, Ok_al, al_d, al_o, bind_ok, al_ok_d, al_ok_o, opt_some, testD_bl, List.getElem?_cons_zero, List.getElem?_cons_succ, List.set_cons_zero, List.set_cons_succ, Option.map_some, cmpW, ordW, bltW, binW, intW, addW, evS, Tg.put, if_true, Bool.false_eq_true, if_false, i2, Bmt.kd, hkd, if_true, Bmt.keeps, Bool.false_eq_true, if_false, hpop, i3]
        have hjl : j < S'.length := (List.getElem?_eq_some_iff.mp e2).1
        have hkl : k < S'.length := (List.getElem?_eq_some_iff.mp e1).1
        refine ⟨l.dropLast.length, by rw [List.length_dropLast]; omega, True.intro, x, l.dropLast, rfl, ?_, ?_, hl x (List.mem_of_getLast? hx), fun y hy => hl y (List.dropLast_subset _ hy), by rw [List.length_dropLast]; omega, ⟨by simp [hf.1], fun i hi a b => ?_⟩, by simp [hsl]⟩
        · rw [List.getElem?_set_self (by simpa using hkl)]
        · rw [List.getElem?_set_ne hne, List.getElem?_set_self hjl]
        · rw [List.getElem?_set_ne (Ne.symm a), List.getElem?_set_ne (Ne.symm b)]
          exact hf.2 i hi a b
    · simp only [tst, evE, evWs, evDs, evO, evC, evI, Ok_bind, Ok_ok, Ok_al, al_d, al_o, bind_ok, al_ok_d, al_ok_o, opt_some, testD_bl, List.getElem?_cons_zero, List.getElem?_cons_succ, List.set_cons_zero, List.set_cons_succ, Option.map_some, cmpW, ordW, bltW, binW, intW, addW, evS, Tg.put, if_true, Bool.false_eq_true, if_false, i1, hne', hz, decide_false, Bool.false_eq_true, if_false]
      exact ⟨True.intro, num, l, e1, e2, hn0, hl, hlen, hf, hsl⟩
  refine loop.mono fun o S' h => ?_
  obtain ⟨rfl, num, l, e1, e2, hn0, hl, hlen, hf, hsl⟩ := h
  dsimp only
  have hkl : k < S'.length := (List.getElem?_eq_some_iff.mp e1).1
  have hjl : j < S'.length := (List.getElem?_eq_some_iff.mp e2).1
  refine ok_cons ?_
  have i1 := dl_num e1
  simp only [w2, tst, evE, evWs, evDs, evO, evC, evI, Ok_bind, Ok_ok, Ok_al, al_d, al_o, bind_ok, al_ok_d, al_ok_o, opt_some, testD_bl, List.getElem?_cons_zero, List.getElem?_cons_succ, List.set_cons_zero, List.set_cons_succ, Option.map_some, cmpW, ordW, bltW, binW, intW, addW, evS, Tg.put, if_true, Bool.false_eq_true, if_false, i1]
  refine ok_cons ?_
  by_cases hz : 0 < num
  · have hlog : m.natAbs.log2 < 9000 := by
      have : m.natAbs < 2 ^ 64 := by omega
      have := (Nat.log2_lt (by omega : m.natAbs ≠ 0)).mpr this
      omega
    have hfd : (decide (0 < m ∧ m.natAbs.log2 < 9000)) = true := by simp [h0, hlog]
    have i3 := dl_setN e1 (num / m)
    simp only [w3, tst, evE, evWs, evDs, evO, evC, evI, Ok_bind, Ok_ok, Ok_al, al_d, al_o, bind_ok, al_ok_d, al_ok_o, opt_some, testD_bl, List.getElem?_cons_zero, List.getElem?_cons_succ, List.set_cons_zero, List.set_cons_succ, Option.map_some, cmpW, ordW, bltW, binW, intW, addW, evS, Tg.put, if_true, Bool.false_eq_true, if_false, hz, decide_true, if_true]
    refine ok_cons ?_
    simp only [w4, tst, evE, evWs, evDs, evO, evC, evI, Ok_bind, Ok_ok, Ok_al, al_d, al_o, bind_ok, al_ok_d, al_ok_o, opt_some, testD_bl, List.getElem?_cons_zero, List.getElem?_cons_succ, List.set_cons_zero, List.set_cons_succ, Option.map_some, cmpW, ordW, bltW, binW, intW, addW, evS, Tg.put, if_true, Bool.false_eq_true, if_false, hfd, if_true, i3]
    refine ok_one ?_
    have hm0 : (decide (0 < m)) = true := by simp [h0]
    simp only [w5, tst, evE, evWs, evDs, evO, evC, evI, Ok_bind, Ok_ok, Ok_al, al_d, al_o, bind_ok, al_ok_d, al_ok_o, opt_some, testD_bl, List.getElem?_cons_zero, List.getElem?_cons_succ, List.set_cons_zero, List.set_cons_succ, Option.map_some, cmpW, ordW, bltW, binW, intW, addW, evS, Tg.put, if_true, Bool.false_eq_true, if_false, hm0, if_true]
    refine q (num % m) _ (Int.emod_nonneg _ (by omega)) (Int.emod_lt_of_pos _ h0) ⟨hne, seed, num / m, l, by rw [List.getElem?_set_self hkl], by rw [List.getElem?_set_ne hne]; exact e2, hs0, hs1, Int.ediv_nonneg hn0 (by omega), hl, hlen⟩ ⟨by simp [hf.1], fun i hi a b => ?_⟩ (by simp [hsl])
    rw [List.getElem?_set_ne (Ne.symm a)]
    exact hf.2 i hi a b
  · simp only [w3, tst, evE, evWs, evDs, evO, evC, evI, Ok_bind, Ok_ok, Ok_al, al_d, al_o, bind_ok, al_ok_d, al_ok_o, opt_some, testD_bl, List.getElem?_cons_zero, List.getElem?_cons_succ, List.set_cons_zero, List.set_cons_succ, Option.map_some, cmpW, ordW, bltW, binW, intW, addW, evS, Tg.put, if_true, Bool.false_eq_true, if_false, hz, decide_false, Bool.false_eq_true, if_false]
    refine ok_nil ?_
    refine ok_cons ?_
    have i2 := dl_seed e1
    have c1 : mulW (.d (.int seed)) (.d (.int 48271)) S' = some (.d (.int (seed * 48271))) := by simp [mulW]
    simp only [w6, tst, evE, evWs, evDs, evO, evC, evI, Ok_bind, Ok_ok, Ok_al, al_d, al_o, bind_ok, al_ok_d, al_ok_o, opt_some, testD_bl, List.getElem?_cons_zero, List.getElem?_cons_succ, List.set_cons_zero, List.set_cons_succ, Option.map_some, cmpW, ordW, bltW, binW, intW, addW, evS, Tg.put, if_true, Bool.false_eq_true, if_false, i2, c1, show decide ((0 : Int) < 2147483647) = true from rfl, if_true]
    generalize hone : (seed * 48271 + 7919) % 2147483647 = one
    have ho0 : 0 ≤ one := by rw [← hone]; exact Int.emod_nonneg _ (by decide)
    have ho1 : one < 2147483647 := by rw [← hone]; exact Int.emod_lt_of_pos _ (by decide)
    refine ok_cons ?_
    have c2 : mulW (.d (.int one)) (.d (.int 40692)) S' = some (.d (.int (one * 40692))) := by simp [mulW]
    have i3 := dl_setS e1 ((one * 40692 + 104729) % 2147483399)
    simp only [w7, tst, evE, evWs, evDs, evO, evC, evI, Ok_bind, Ok_ok, Ok_al, al_d, al_o, bind_ok, al_ok_d, al_ok_o, opt_some, testD_bl, List.getElem?_cons_zero, List.getElem?_cons_succ, List.set_cons_zero, List.set_cons_succ, Option.map_some, cmpW, ordW, bltW, binW, intW, addW, evS, Tg.put, if_true, Bool.false_eq_true, if_false, c2, show decide ((0 : Int) < 2147483399) = true from rfl, if_true, i3]
    generalize hse : (one * 40692 + 104729) % 2147483399 = seed2
    have hse0 : 0 ≤ seed2 := by rw [← hse]; exact Int.emod_nonneg _ (by decide)
    have hse1 : seed2 < 2147483399 := by rw [← hse]; exact Int.emod_lt_of_pos _ (by decide)
    have e3 : (S'.set k (dealO j seed2 num))[k]? = some (dealO j seed2 num) := by rw [List.getElem?_set_self hkl]
    have i4 := dl_seed e3
    refine ok_cons ?_
    have c3 : ∀ S : Sto, mulW (.d (.int seed2)) (.d (.int seed2)) S = some (.d (.int (seed2 * seed2))) := fun S => by
      exact mul_l ⟨by omega, by omega⟩
    simp only [w8, tst, evE, evWs, evDs, evO, evC, evI, Ok_bind, Ok_ok, Ok_al, al_d, al_o, bind_ok, al_ok_d, al_ok_o, opt_some, testD_bl, List.getElem?_cons_zero, List.getElem?_cons_succ, List.set_cons_zero, List.set_cons_succ, Option.map_some, cmpW, ordW, bltW, binW, intW, addW, evS, Tg.put, if_true, Bool.false_eq_true, if_false, i4, c3, show decide ((0 : Int) < 2147483563) = true from rfl, if_true]
    generalize (seed2 * seed2) % 2147483563 = other
    refine ok_one ?_
    have c4 : ∀ S : Sto, mulW (.d (.int one)) (.d (.int one)) S = some (.d (.int (one * one))) := fun S => by
      exact mul_l ⟨by omega, by omega⟩
    have c5 : ∀ (x : Int) (S : Sto), mulW (.d (.int x)) (.d (.int 2147483563)) S = some (.d (.int (x * 2147483563))) := fun x S => by simp [mulW]
    have hm0 : (decide (0 < m)) = true := by simp [h0]
    simp only [w9, tst, evE, evWs, evDs, evO, evC, evI, Ok_bind, Ok_ok, Ok_al, al_d, al_o, bind_ok, al_ok_d, al_ok_o, opt_some, testD_bl, List.getElem?_cons_zero, List.getElem?_cons_succ, List.set_cons_zero, List.set_cons_succ, Option.map_some, cmpW, ordW, bltW, binW, intW, addW, evS, Tg.put, if_true, Bool.false_eq_true, if_false, c4, c5, show decide ((0 : Int) < 2147483629) = true from rfl, hm0, if_true]
    refine q _ _ (Int.emod_nonneg _ (by omega)) (Int.emod_lt_of_pos _ h0) ⟨hne, seed2, num, l, e3, by rw [List.getElem?_set_ne hne]; exact e2, hse0, by omega, hn0, hl, hlen⟩ ⟨by simp [hf.1], fun i hi a b => ?_⟩ (by simp [hsl])
    rw [List.getElem?_set_ne (Ne.symm a)]
    exact hf.2 i hi a b
end
/-- a comprehension that asks nothing but its item -/
theorem lc_pure {k : Wk} {f : D → Sto → Res (Option D)} {S : Sto} (hs : k.stays S = true) (g : D → Option D) : ∀ (l acc : List D), (∀ x ∈ l, f x S = .ok (g x) S) → acc.length + l.length ≤ LINE → lcGo k f l acc S = .ok (.o (.lst (acc ++ l.filterMap g))) S
  | [], acc, h, hl => by
    unfold lcGo
    rw [if_pos hs]
    simp
  | x :: l, acc, h, hl => by
    unfold lcGo
    rw [if_pos hs, h x List.mem_cons_self, bind_ok]
    have h' : ∀ x ∈ l, f x S = .ok (g x) S := fun y hy => h y (List.mem_cons_of_mem _ hy)
    simp only [List.length_cons] at hl
    cases hg : g x with
    | none =>
      have := lc_pure hs g l acc h' (by omega)
      simpa [List.filterMap_cons, hg] using this
    | some y =>
      have := lc_pure hs g l (acc ++ [y]) h' (by rw [List.length_append, List.length_singleton]; omega)
      show (if acc.length < LINE then lcGo k f l (acc ++ [y]) S else .bad) = _
      rw [if_pos (by omega), this]
      simp [List.filterMap_cons, hg]
/-! ### the deal -/
def u0 : Stm := .set (.nm 2) (.lc [3] (.nm 3) (.seq (.slc (.var 0) (.ya (.var 1)) (.ya (.con (.int 63))))) .no (.blt .max2 (.cons (.var 3) (.cons (.bin .sub (.con (.int 0)) (.var 3)) .nil))))
def u1 : Stm := .set (.nm 4) (.bin .add (.con (.int 7919)) (.var 1))
def u3 : Stm := .set (.nm 4) (.bin .mod (.bin .add (.bin .mul (.var 4) (.con (.int 48271))) (.bin .mod (.var 3) (.con (.int 2147483629)))) (.con (.int 2147483647)))
def u2 : Stm := .for (.nm 3) (.seq (.var 2)) (.cons u3 .nil)
def u4 : Stm := .ret (.dic (.cons (.con kSeed) (.cons (.var 4) (.cons (.con kNum) (.cons (.con (.int 0)) (.cons (.con kLeft) (.cons (.lrev (.lc [3] (.nm 3) (.seq (.var 2)) (.ya (.cmp .ge (.var 3) (.bin .pow (.con (.int 10)) (.con (.int 18))))) (.var 3))) .nil)))))))
def dealB : Sts := .cons u0 (.cons u1 (.cons u2 (.cons u4 .nil)))
section
variable {fu n : Nat} {P : Pg} {S : Sto}
theorem deal_ok {d : Nat} {F : FnI} (hF : P.fs[d]? = some F) (hb : F.b = dealB) (hp : F.ps.length = 2) (hN : F.N.length = 5) {ns : List Int} {base : Int} (hns : ns.length ≤ 63) (b0 : 0 ≤ base) (b1 : base < 1000000) {Q : W → Sto → Prop}
    (q : ∀ (some_ left : List Int) (seed : Int), 0 ≤ seed → seed < 2147483648 → (∀ x ∈ left, 0 ≤ x) → left.length ≤ 63 → Q (.o (dealO (S.length + 1) seed 0)) (S ++ [.lst (some_.map D.int), .lst (left.map D.int)])) : Ok (run fu P (n + 1) d [.rol false (ns.map D.int), .int base] S) Q := by
  refine ok_run F hF (by rw [hp]; rfl) ?_
  rw [hb]
  have he : envOf F [.rol false (ns.map D.int), .int base] = [some (.rol false (ns.map D.int)), some (.int base), none, none, none] := by
    unfold envOf
    rw [hN]
    rfl
  rw [he]
  unfold dealB
  refine ok_cons ?_
  obtain ⟨ms, hms, hml⟩ : ∃ ms : List Int, cut (ns.map D.int) (some base) (some 63) = ms.map D.int ∧ ms.length ≤ 63 := by
    refine ⟨cut ns (some base) (some 63), ?_, ?_⟩
    · unfold cut
      rw [List.length_map, ← List.map_drop, ← List.map_take]
    · unfold cut
      rw [List.length_take, List.length_drop]
      omega
  have h1 : slcW (.d (.rol false (ns.map D.int))) (some base) (some 63) S = some (.o (.lst (ms.map D.int))) := by
    simp [slcW, slcO, lstOf, hms]
  have hwk : ∀ S, seqWk (.o (.lst (ms.map D.int))) S = some ⟨ms.map D.int, []⟩ := fun S => rfl
  have hlc : ∀ f : D → Sto → Res (Option D), (∀ i : Int, f (.int i) S = .ok (some (.int (if 0 - i > i then 0 - i else i))) S) → lcGo ⟨ms.map D.int, []⟩ f (ms.map D.int) [] S = .ok (.o (.lst ((ms.map fun i => if 0 - i > i then 0 - i else i).map D.int))) S := fun f hf => by
    rw [lc_pure (by rfl) (fun x => match x with
      | .int i => some (.int (if 0 - i > i then 0 - i else i))
      | _ => none) (ms.map D.int) [] (fun x hx => by
        obtain ⟨i, _, rfl⟩ := List.mem_map.mp hx
        exact hf i) (by simp [LINE]; omega)]
    congr 3
    simp [List.filterMap_map, Function.comp_def]
  simp only [u0, tst, evE, evWs, evDs, evO, evC, evI, Ok_bind, Ok_ok, Ok_al, al_d, al_o, bind_ok, al_ok_d, al_ok_o, opt_some, testD_bl, List.getElem?_cons_zero, List.getElem?_cons_succ, List.set_cons_zero, List.set_cons_succ, Option.map_some, cmpW, ordW, bltW, binW, intW, addW, evS, Tg.put, if_true, Bool.false_eq_true, if_false, h1, hwk]
  rw [hlc _ (fun i => by simp only [tst, evE, evWs, evDs, evO, evC, evI, Ok_bind, Ok_ok, Ok_al, al_d, al_o, bind_ok, al_ok_d, al_ok_o, opt_some, testD_bl, List.getElem?_cons_zero, List.getElem?_cons_succ, List.set_cons_zero, List.set_cons_succ, Option.map_some, cmpW, ordW, bltW, binW, intW, addW, evS, Tg.put, if_true, Bool.false_eq_true, if_false, wipeE, Res.nox, if_true])]
  generalize hab : (ms.map fun i => if 0 - i > i then 0 - i else i) = ab
  have habl : ab.length ≤ 63 := by rw [← hab, List.length_map]; exact hml
  have hab0 : ∀ x ∈ ab, 0 ≤ x := fun x hx => by
    rw [← hab] at hx
    obtain ⟨i, _, rfl⟩ := List.mem_map.mp hx
    split <;> omega
  simp only [tst, evE, evWs, evDs, evO, evC, evI, Ok_bind, Ok_ok, Ok_al, al_d, al_o, bind_ok, al_ok_d, al_ok_o, opt_some, testD_bl, List.getElem?_cons_zero, List.getElem?_cons_succ, List.set_cons_zero, List.set_cons_succ, Option.map_some, cmpW, ordW, bltW, binW, intW, addW, evS, Tg.put, if_true, Bool.false_eq_true, if_false]
  refine ok_cons ?_
  simp only [u1, tst, evE, evWs, evDs, evO, evC, evI, Ok_bind, Ok_ok, Ok_al, al_d, al_o, bind_ok, al_ok_d, al_ok_o, opt_some, testD_bl, List.getElem?_cons_zero, List.getElem?_cons_succ, List.set_cons_zero, List.set_cons_succ, Option.map_some, cmpW, ordW, bltW, binW, intW, addW, evS, Tg.put, if_true, Bool.false_eq_true, if_false]
  refine ok_cons ?_
  have e1 : (S ++ [.lst (ab.map D.int)])[S.length]? = some (.lst (ab.map D.int)) := by simp
  have hwk2 : ∀ S', S'[S.length]? = some (.lst (ab.map D.int)) → seqWk (.d (.ref S.length)) S' = some ⟨ab.map D.int, [(S.length, ab.map D.int)]⟩ := fun S' h => by simp [seqWk, lsrc, h]
  simp only [u2, tst, evE, evWs, evDs, evO, evC, evI, Ok_bind, Ok_ok, Ok_al, al_d, al_o, bind_ok, al_ok_d, al_ok_o, opt_some, testD_bl, List.getElem?_cons_zero, List.getElem?_cons_succ, List.set_cons_zero, List.set_cons_succ, Option.map_some, cmpW, ordW, bltW, binW, intW, addW, evS, Tg.put, if_true, Bool.false_eq_true, if_false, hwk2 _ e1]
  have hst : Wk.stays ⟨ab.map D.int, [(S.length, ab.map D.int)]⟩ (S ++ [.lst (ab.map D.int)]) = true := by simp [Wk.stays, stayB]
  refine ok_for (fun l ρ S' => S' = S ++ [.lst (ab.map D.int)] ∧ (∃ m : List Int, l = m.map D.int) ∧ ∃ (x : Option D) (sd : Int), ρ = [some (.rol false (ns.map D.int)), some (.int base), some (.ref S.length), x, some (.int sd)] ∧ 0 ≤ sd ∧ sd < 2147483648) (fun l ρ S' h => by rw [h.1]; exact hst) ?_ ?_ _ _ _ ⟨rfl, ⟨ab, rfl⟩, none, 7919 + base, rfl, by omega, by omega⟩
  · rintro x l ρ S' ⟨rfl, ⟨m, hm⟩, y, sd, rfl, s0, s1⟩
    cases m with
    | nil => cases hm
    | cons i m =>
      simp only [List.map_cons, List.cons.injEq] at hm
      obtain ⟨rfl, rfl⟩ := hm
      have c1 : ∀ S : Sto, mulW (.d (.int sd)) (.d (.int 48271)) S = some (.d (.int (sd * 48271))) := fun S => mul_r ⟨by decide, by decide⟩
      unfold forF
      simp only [tst, evE, evWs, evDs, evO, evC, evI, Ok_bind, Ok_ok, Ok_al, al_d, al_o, bind_ok, al_ok_d, al_ok_o, opt_some, testD_bl, List.getElem?_cons_zero, List.getElem?_cons_succ, List.set_cons_zero, List.set_cons_succ, Option.map_some, cmpW, ordW, bltW, binW, intW, addW, evS, Tg.put, if_true, Bool.false_eq_true, if_false]
      refine ok_one ?_
      simp only [u3, tst, evE, evWs, evDs, evO, evC, evI, Ok_bind, Ok_ok, Ok_al, al_d, al_o, bind_ok, al_ok_d, al_ok_o, opt_some, testD_bl, List.getElem?_cons_zero, List.getElem?_cons_succ, List.set_cons_zero, List.set_cons_succ, Option.map_some, cmpW, ordW, bltW, binW, intW, addW, evS, Tg.put, if_true, Bool.false_eq_true, if_false, c1, show decide ((0 : Int) < 2147483629) = true from rfl, show decide ((0 : Int) < 2147483647) = true from rfl, if_true]
      exact ⟨True.intro, ⟨m, rfl⟩, _, _, rfl, Int.emod_nonneg _ (by decide), by have := Int.emod_lt_of_pos (sd * 48271 + i % 2147483629) (show (0 : Int) < 2147483647 by decide); omega⟩
  · rintro ρ S' ⟨rfl, _, y, sd, rfl, s0, s1⟩
    dsimp only
    refine ok_one ?_
    have hlc2 : ∀ f : D → Sto → Res (Option D), (∀ i : Int, f (.int i) (S ++ [.lst (ab.map D.int)]) = .ok (if 1000000000000000000 ≤ i then some (.int i) else none) (S ++ [.lst (ab.map D.int)])) →
        lcGo ⟨ab.map D.int, [(S.length, ab.map D.int)]⟩ f (ab.map D.int) [] (S ++ [.lst (ab.map D.int)]) = .ok (.o (.lst ((ab.filter fun i => decide (1000000000000000000 ≤ i)).map D.int))) (S ++ [.lst (ab.map D.int)]) := fun f hf => by
      rw [lc_pure hst (fun x => match x with
        | .int i => if 1000000000000000000 ≤ i then some (.int i) else none
        | _ => none) (ab.map D.int) [] (fun x hx => by
          obtain ⟨i, _, rfl⟩ := List.mem_map.mp hx
          exact hf i) (by simp [LINE]; omega)]
      congr 3
      rw [List.nil_append, List.filterMap_map, ← List.filterMap_eq_filter, List.map_filterMap]
      congr 1
      funext i
      simp only [Function.comp]
      split
      · rename_i h; simp [Option.guard, h]
      · rename_i h; simp [Option.guard, h]
    have hsm : small 10 18 = true := by decide
    have h18 : (10 : Int) ^ (18 : Int).toNat = 1000000000000000000 := by decide
    simp only [u4, tst, evE, evWs, evDs, evO, evC, evI, Ok_bind, Ok_ok, Ok_al, al_d, al_o, bind_ok, al_ok_d, al_ok_o, opt_some, testD_bl, List.getElem?_cons_zero, List.getElem?_cons_succ, List.set_cons_zero, List.set_cons_succ, Option.map_some, cmpW, ordW, bltW, binW, intW, addW, evS, Tg.put, if_true, Bool.false_eq_true, if_false, hwk2 _ e1]
    rw [hlc2 _ (fun i => by
      simp only [tst, evE, evWs, evDs, evO, evC, evI, Ok_bind, Ok_ok, Ok_al, al_d, al_o, bind_ok, al_ok_d, al_ok_o, opt_some, testD_bl, List.getElem?_cons_zero, List.getElem?_cons_succ, List.set_cons_zero, List.set_cons_succ, Option.map_some, cmpW, ordW, bltW, binW, intW, addW, evS, Tg.put, if_true, Bool.false_eq_true, if_false, wipeE, hsm, h18, if_true]
      by_cases h : 1000000000000000000 ≤ i
      · simp [h, Res.nox, tst, evE, evWs, evDs, evO, evC, evI, Ok_bind, Ok_ok, Ok_al, al_d, al_o, bind_ok, al_ok_d, al_ok_o, opt_some, testD_bl, List.getElem?_cons_zero, List.getElem?_cons_succ, List.set_cons_zero, List.set_cons_succ, Option.map_some, cmpW, ordW, bltW, binW, intW, addW, evS, Tg.put, if_true, Bool.false_eq_true, if_false]
      · simp [h, Res.nox, tst, evE, evWs, evDs, evO, evC, evI, Ok_bind, Ok_ok, Ok_al, al_d, al_o, bind_ok, al_ok_d, al_ok_o, opt_some, testD_bl, List.getElem?_cons_zero, List.getElem?_cons_succ, List.set_cons_zero, List.set_cons_succ, Option.map_some, cmpW, ordW, bltW, binW, intW, addW, evS, Tg.put, if_true, Bool.false_eq_true, if_false])]
    generalize hle : (ab.filter fun i => decide (1000000000000000000 ≤ i)) = le
    have hle0 : ∀ x ∈ le.reverse, 0 ≤ x := fun x hx => by
      rw [List.mem_reverse, ← hle] at hx
      exact hab0 x (List.mem_filter.mp hx).1
    have hll : le.reverse.length ≤ 63 := by
      rw [List.length_reverse, ← hle]
      exact Nat.le_trans (List.length_filter_le _ _) habl
    simp only [tst, evE, evWs, evDs, evO, evC, evI, Ok_bind, Ok_ok, Ok_al, al_d, al_o, bind_ok, al_ok_d, al_ok_o, opt_some, testD_bl, List.getElem?_cons_zero, List.getElem?_cons_succ, List.set_cons_zero, List.set_cons_succ, Option.map_some, cmpW, ordW, bltW, binW, intW, addW, evS, Tg.put, if_true, Bool.false_eq_true, if_false, lsrc]
    rw [← List.map_reverse]
    have := q ab le.reverse sd s0 s1 hle0 hll
    have hd : dicW [kSeed, .int sd, kNum, .int 0, kLeft, .ref (S ++ [O.lst (ab.map D.int)]).length] = some (.o (dealO (S.length + 1) sd 0)) := by
      simp [dicW, pairUp, D.keyK, put, dealO]
    rw [hd]
    simpa [tst, evE, evWs, evDs, evO, evC, evI, Ok_bind, Ok_ok, Ok_al, al_d, al_o, bind_ok, al_ok_d, al_ok_o, opt_some, testD_bl, List.getElem?_cons_zero, List.getElem?_cons_succ, List.set_cons_zero, List.set_cons_succ, Option.map_some, cmpW, ordW, bltW, binW, intW, addW, evS, Tg.put, if_true, Bool.false_eq_true, if_false] using this
end
end PyI

set_option maxRecDepth 100000
set_option maxHeartbeats 1000000
/-! PyI: texts. -/
namespace PyI
open PySem
/-- one step of the search -/
def occS (s sub : Str) (hi limit : Nat) (p : Array Nat × Nat) (i : Nat) : Array Nat × Nat := if (decide (p.1.size < limit) && decide (p.2 ≤ i) && decide (i + sub.length ≤ hi) && Builtin.Str.subAt s sub i) = true then ⟨p.1.push i, i + sub.length⟩ else p
theorem occ_fold (s sub : Str) (lo hi limit : Nat) : Builtin.Str.occurrences s sub lo hi limit = ((List.range' lo (hi + 1 - lo)).foldl (occS s sub hi limit) ⟨#[], lo⟩).1.toList := by
  unfold Builtin.Str.occurrences
  simp only [Id.run, Std.Legacy.Range.forIn_eq_forIn_range', Std.Legacy.Range.size, Nat.add_sub_cancel, Nat.div_one]
  have : ∀ (l : List Nat) (p : Array Nat × Nat), (forIn (m := Id) l p fun i r => if (decide (r.1.size < limit) && decide (r.2 ≤ i) && decide (i + sub.length ≤ hi) && Builtin.Str.subAt s sub i) = true then (do pure PUnit.unit; pure (ForInStep.yield ⟨r.1.push i, i + sub.length⟩)) else do pure PUnit.unit; pure (ForInStep.yield ⟨r.1, r.2⟩)) = l.foldl (occS s sub hi limit) p := by
    intro l
    induction l with
    | nil => intro p; rfl
    | cons i l ih =>
      intro p
      rw [List.forIn_cons, List.foldl_cons]
      unfold occS
      by_cases h : (decide (p.1.size < limit) && decide (p.2 ≤ i) && decide (i + sub.length ≤ hi) && Builtin.Str.subAt s sub i) = true
      · rw [if_pos h, if_pos h]
        exact ih _
      · rw [if_neg h, if_neg h]
        exact ih _
  have e := this (List.range' lo (hi + 1 - lo)) ⟨#[], lo⟩
  rw [← e]
  rfl
/-- found at all -/
theorem occ_any (s sub : Str) (lo hi : Nat) : (!(Builtin.Str.occurrences s sub lo hi 1).isEmpty) = (List.range' lo (hi + 1 - lo)).any fun i => decide (i + sub.length ≤ hi) && Builtin.Str.subAt s sub i := by
  rw [occ_fold]
  have full : ∀ (l : List Nat) (p : Array Nat × Nat), 0 < p.1.size → 0 < ((l.foldl (occS s sub hi 1) p).1).size := by
    intro l
    induction l with
    | nil => intro p h; exact h
    | cons i l ih =>
      intro p h
      rw [List.foldl_cons]
      refine ih _ ?_
      unfold occS
      split
      · simp
      · exact h
  have main : ∀ (l : List Nat) (b : Nat), l = List.range' b l.length → lo ≤ b → decide (0 < ((l.foldl (occS s sub hi 1) ⟨#[], lo⟩).1).size) = l.any fun i => decide (i + sub.length ≤ hi) && Builtin.Str.subAt s sub i := by
    intro l
    induction l with
    | nil => intro b _ _; rfl
    | cons i l ih =>
      intro b e hb
      simp only [List.length_cons, List.range'_succ, List.cons.injEq] at e
      obtain ⟨rfl, e⟩ := e
      rw [List.foldl_cons, List.any_cons]
      by_cases h : (decide (i + sub.length ≤ hi) && Builtin.Str.subAt s sub i) = true
      · rw [h, Bool.true_or, decide_eq_true_eq]
        refine full _ _ ?_
        have h' : (decide ((⟨#[], lo⟩ : Array Nat × Nat).1.size < 1) && decide ((⟨#[], lo⟩ : Array Nat × Nat).2 ≤ i) && decide (i + sub.length ≤ hi) && Builtin.Str.subAt s sub i) = true := by
          rw [Bool.and_eq_true] at h
          simp [hb, h.1, h.2]
        unfold occS
        rw [if_pos h']
        simp
      · have h' : ¬ (decide ((⟨#[], lo⟩ : Array Nat × Nat).1.size < 1) && decide ((⟨#[], lo⟩ : Array Nat × Nat).2 ≤ i) && decide (i + sub.length ≤ hi) && Builtin.Str.subAt s sub i) = true := by
          intro z
          apply h
          simp only [Bool.and_eq_true] at z ⊢
          exact ⟨z.1.2, z.2⟩
        have e2 : occS s sub hi 1 ⟨#[], lo⟩ i = ⟨#[], lo⟩ := by unfold occS; rw [if_neg h']
        rw [e2, ih (i + 1) e (by omega)]
        rw [Bool.not_eq_true] at h
        rw [h, Bool.false_or]
  have := main (List.range' lo (hi + 1 - lo)) lo (by simp) (Nat.le_refl _)
  rw [← this]
  rw [Bool.eq_iff_iff]
  simp [List.isEmpty_iff, Array.size_pos_iff]
/-- one sign in a text -/
theorem inS_one (m : List Nat) (c : Nat) (S : Sto) : inS (.d (.str [c])) (.d (.str m)) S = some (m.contains c) := by
  show some _ = _
  rw [occ_any]
  congr 1
  rw [Bool.eq_iff_iff, List.any_eq_true, List.contains_iff_mem, List.mem_iff_getElem]
  have h1 : (⟨[c].toArray⟩ : Str).length = 1 := rfl
  constructor
  · rintro ⟨i, _, h⟩
    rw [h1, Bool.and_eq_true, decide_eq_true_eq] at h
    obtain ⟨h2, h3⟩ := h
    have hi : i < m.length := by omega
    refine ⟨i, hi, ?_⟩
    unfold Builtin.Str.subAt at h3
    rw [h1] at h3
    have h4 := eq_of_beq h3
    have h5 := congrArg (fun a : Array Nat => a[0]?) h4
    simp [hi] at h5
    exact h5
  · rintro ⟨i, hi, rfl⟩
    refine ⟨i, by simp; omega, ?_⟩
    rw [h1, Bool.and_eq_true, decide_eq_true_eq]
    refine ⟨by omega, ?_⟩
    unfold Builtin.Str.subAt
    rw [h1, beq_iff_eq]
    apply Array.ext
    · simp; omega
    · intro j hj hj2
      have : j = 0 := by simp at hj2; omega
      subst this
      simp
/-! ### items -/
theorem ixI_nat {n : Nat} {v : Int} (h0 : 0 ≤ v) (h1 : v < n) : ixI n v = some v.toNat := by
  unfold ixI
  rw [if_pos h0, if_pos h1]
theorem atD_nat {α : Type} {l : List α} {v : Int} (h0 : 0 ≤ v) (h1 : v < l.length) : ∃ x, l[v.toNat]? = some x ∧ atD l v = some x ∧ x ∈ l := by
  have h : v.toNat < l.length := by omega
  refine ⟨l[v.toNat], List.getElem?_eq_getElem h, ?_, List.getElem_mem h⟩
  unfold atD
  rw [ixI_nat h0 h1]
  exact List.getElem?_eq_getElem h
theorem idx_own {l : List D} {v : Int} {S : Sto} (h0 : 0 ≤ v) (h1 : v < l.length) : ∃ x, l[v.toNat]? = some x ∧ idxW (.o (.lst l)) (.int v) S = some x ∧ x ∈ l := by
  obtain ⟨x, a, b, c⟩ := atD_nat h0 h1
  exact ⟨x, a, b, c⟩
theorem idx_ref {l : List D} {p : Nat} {v : Int} {S : Sto} (e : S[p]? = some (.lst l)) (h0 : 0 ≤ v) (h1 : v < l.length) : ∃ x, l[v.toNat]? = some x ∧ idxW (.d (.ref p)) (.int v) S = some x ∧ x ∈ l := by
  obtain ⟨x, a, b, c⟩ := atD_nat h0 h1
  refine ⟨x, a, ?_, c⟩
  unfold idxW idxO askOf lstOf
  simp only [e]
  exact b
theorem idx_str {l : List Nat} {v : Int} {S : Sto} (hl : l.length ≤ LINE) (h0 : 0 ≤ v) (h1 : v < l.length) : ∃ c, c ∈ l ∧ idxW (.d (.str l)) (.int v) S = some (.str [c]) := by
  obtain ⟨x, a, b, c⟩ := atD_nat h0 h1
  refine ⟨x, c, ?_⟩
  show (if l.length ≤ LINE then (atD l v).map fun c => D.str [c] else none) = _
  rw [if_pos hl, b]
  rfl
theorem cut_len {α : Type} (l : List α) (lo hi : Option Int) : (cut l lo hi).length ≤ l.length := by
  unfold cut
  rw [List.length_take, List.length_drop]
  omega
theorem slc_str {l : List Nat} {lo hi : Option Int} {S : Sto} (hl : l.length ≤ LINE) : slcW (.d (.str l)) lo hi S = some (.d (.str (cut l lo hi))) := if_pos hl
theorem add_str {a b : List Nat} (h : a.length + b.length ≤ LINE) (S : Sto) : addW (.d (.str a)) (.d (.str b)) S = some (.d (.str (a ++ b))) := if_pos h
theorem len_str {l : List Nat} {S : Sto} (hl : l.length ≤ LINE) : lenW (.d (.str l)) S = some l.length := if_pos hl
theorem len_ref {l : List D} {p : Nat} {S : Sto} (e : S[p]? = some (.lst l)) : lenW (.d (.ref p)) S = some l.length := by
  unfold lenW
  simp only [e]
/-- texts, one behind another -/
theorem join_nil (xs : List (List Nat)) : joinL [] xs = xs.flatten := by
  induction xs with
  | nil => rfl
  | cons x r ih =>
    cases r with
    | nil => simp [joinL]
    | cons y s =>
      show x ++ [] ++ joinL [] (y :: s) = _
      rw [ih]
      simp
theorem strs_map (xs : List (List Nat)) : (xs.map D.str).mapM D.str? = some xs := by
  induction xs with
  | nil => rfl
  | cons x r ih => simp [D.str?, ih]
theorem bls_map (xs : List Bool) : (xs.map D.bl).mapM D.bl? = some xs := by
  induction xs with
  | nil => rfl
  | cons x r ih => simp [D.bl?, ih]
theorem ints_map (xs : List Int) : (xs.map D.int).mapM D.int? = some xs := by
  induction xs with
  | nil => rfl
  | cons x r ih => simp [D.int?, ih]
theorem join_own {xs : List (List Nat)} {S : Sto} (h : (xs.map (·.length)).sum ≤ 16777216) : bmtW .join (.d (.str [])) [.o (.lst (xs.map D.str))] S = .ok (.d (.str xs.flatten)) S := by
  simp only [bmtW, lstOf, strs_map]
  rw [if_pos (by simpa using h), join_nil]
theorem all_own {xs : List Bool} {S : Sto} : bltW .all [.o (.lst (xs.map D.bl))] S = some (.d (.bl (xs.all id))) := by
  simp only [bltW, lstOf, Option.bind_some, bls_map, Option.map_some]
theorem app_at {α : Type} (S : List α) (x : α) : (S ++ [x])[S.length]? = some x := by simp
theorem ok_cat {l m : List D} {p : Nat} {S : Sto} {Q : W → Sto → Prop} (e : S[p]? = some (.lst l)) (h : l.length + m.length ≤ LINE) (q : Q (.o (.lst (l ++ m))) S) : Ok (opt (catL (.d (.ref p)) (.o (.lst m)) S) S) Q := by
  unfold catL mlsOf
  simp only [e]
  rw [if_pos h]
  exact q
theorem ok_catR {l m : List D} {p r : Nat} {S : Sto} {Q : W → Sto → Prop} (e : S[p]? = some (.lst l)) (e' : S[r]? = some (.lst m)) (h : l.length + m.length ≤ LINE) (q : Q (.o (.lst (l ++ m))) S) : Ok (opt (catL (.d (.ref p)) (.d (.ref r)) S) S) Q := by
  unfold catL mlsOf
  simp only [e, e']
  rw [if_pos h]
  exact q
theorem strs_mem {xs : List (List Nat)} {x : D} {b : Nat} (h : x ∈ xs.map D.str) (hb : ∀ s ∈ xs, s.length ≤ b) : ∃ s, x = .str s ∧ s.length ≤ b ∧ s ∈ xs := by
  obtain ⟨s, hs, rfl⟩ := List.mem_map.mp h
  exact ⟨s, rfl, hb s hs, hs⟩
theorem rng_len (a c : Int) (n : Nat) : (rngL a c n).length = n := by simp [rngL]
theorem rng_mem {a c : Int} {n : Nat} {y : D} (h : y ∈ rngL a c n) : ∃ i : Nat, i < n ∧ y = .int (a + (i : Int) * c) := by
  unfold rngL at h
  obtain ⟨i, hi, rfl⟩ := List.mem_map.mp h
  exact ⟨i, List.mem_range.mp hi, rfl⟩
theorem append_ref {l : List D} {x : D} {p : Nat} {S : Sto} (e : S[p]? = some (.lst l)) (h : l.length < LINE) : bmtD .append (.d (.ref p)) [x] S = .ok (.d .non) (S.set p (.lst (l ++ [x]))) := by
  unfold bmtD
  simp only [e]
  exact if_pos h
theorem kd_ref {l : List D} {p : Nat} {S : Sto} (e : S[p]? = some (.lst l)) : kdOk .list (.d (.ref p)) S = true := by
  unfold kdOk lstOf
  simp only [e]
  rfl
theorem Fr.set_new {k j p : Nat} {S S' : Sto} {o : O} (h : Fr k j S S') (hp : S.length ≤ p) : Fr k j S (S'.set p o) :=
  ⟨by rw [List.length_set]; exact h.1, fun i hi a b => by rw [List.getElem?_set_ne (by omega)]; exact h.2 i hi a b⟩
theorem Dl.set_ne {k j p : Nat} {S : Sto} {o : O} (h : Dl k j S) (a : p ≠ k) (b : p ≠ j) : Dl k j (S.set p o) := by
  obtain ⟨hne, seed, num, l, h1, h2, r⟩ := h
  exact ⟨hne, seed, num, l, by rw [List.getElem?_set_ne a]; exact h1, by rw [List.getElem?_set_ne b]; exact h2, r⟩
theorem set_at {p : Nat} {S : Sto} {o o' : O} (e : S[p]? = some o) : (S.set p o')[p]? = some o' := List.getElem?_set_self (List.getElem?_eq_some_iff.mp e).1
theorem flat_strs (xs : List (List Nat)) : (xs.map D.str).all D.flat = true := by
  rw [List.all_eq_true]
  intro x hx
  obtain ⟨s, _, rfl⟩ := List.mem_map.mp hx
  rfl
/-- a text in a list of texts -/
theorem any_eqF (xs : List (List Nat)) (s : List Nat) : ((xs.map D.str).any fun z => eqF z (.str s)) = xs.contains s := by
  induction xs with
  | nil => rfl
  | cons x r ih =>
    rw [List.map_cons, List.any_cons, ih, List.contains_cons]
    congr 1
    show decide (x = s) = (s == x)
    rw [Bool.eq_iff_iff, decide_eq_true_eq, beq_iff_eq]
    exact eq_comm
theorem in_own (xs : List (List Nat)) (s : List Nat) (S : Sto) : inS (.d (.str s)) (.o (.lst (xs.map D.str))) S = some (xs.contains s) := by
  show inLs (.str s) S (xs.map D.str) = _
  unfold inLs
  rw [if_pos ⟨rfl, flat_strs xs⟩, any_eqF]
theorem in_ref {p : Nat} (xs : List (List Nat)) (s : List Nat) {S : Sto} (e : S[p]? = some (.lst (xs.map D.str))) : inS (.d (.str s)) (.d (.ref p)) S = some (xs.contains s) := by
  show inOb (.d (.str s)) (.d (.ref p)) S = _
  unfold inOb askOf lstOf
  simp only [e]
  show inLs (.str s) S (xs.map D.str) = _
  unfold inLs
  rw [if_pos ⟨rfl, flat_strs xs⟩, any_eqF]
theorem in_tup (xs : List (List Nat)) (s : List Nat) (S : Sto) : inS (.d (.str s)) (.d (.tup (xs.map D.str))) S = some (xs.contains s) := by
  show inFl (.d (.str s)) (xs.map D.str) = _
  unfold inFl
  dsimp only
  rw [if_pos ⟨rfl, flat_strs xs⟩, any_eqF]
theorem in_rol (xs : List (List Nat)) (s : List Nat) (S : Sto) : inS (.d (.str s)) (.d (.rol true (xs.map D.str))) S = some (xs.contains s) := in_tup xs s S
theorem setD_ref {l : List D} {p : Nat} {v : Int} {x : D} {S : Sto} (e : S[p]? = some (.lst l)) (h0 : 0 ≤ v) (h1 : v < l.length) : PyI.setD (.ref p) (.int v) x S = some (S.set p (.lst (l.set v.toNat x))) := by
  unfold PyI.setD
  simp only [e, ixI_nat h0 h1, Option.map_some]
theorem wk_ref {l : List D} {p : Nat} {S : Sto} (e : S[p]? = some (.lst l)) : seqWk (.d (.ref p)) S = some ⟨l, [(p, l)]⟩ := by
  unfold seqWk lsrc
  simp only [e]
theorem stays_ref {l its : List D} {p : Nat} {S : Sto} (e : S[p]? = some (.lst l)) : Wk.stays ⟨its, [(p, l)]⟩ S = true := by
  unfold Wk.stays stayB
  simp [e]
theorem app_keep {S : Sto} {p : Nat} {o x : O} (e : S[p]? = some o) : (S ++ [x])[p]? = some o := by
  rw [List.getElem?_append_left (List.getElem?_eq_some_iff.mp e).1]
  exact e
section
variable {s : List Nat} {l : List D} {S : Sto} {Q : W → Sto → Prop}
theorem ok_inT (xs : List (List Nat)) (h : l = xs.map D.str) (q : Q (.d (.bl (xs.contains s))) S) : Ok (opt ((inS (.d (.str s)) (.d (.tup l)) S).map fun b => .d (.bl b)) S) Q := by
  rw [h, in_tup]
  exact q
theorem ok_inR (xs : List (List Nat)) (h : l = xs.map D.str) (q : Q (.d (.bl (xs.contains s))) S) : Ok (opt ((inS (.d (.str s)) (.d (.rol true l)) S).map fun b => .d (.bl b)) S) Q := by
  rw [h, in_rol]
  exact q
theorem ok_inO (xs : List (List Nat)) (h : l = xs.map D.str) (q : Q (.d (.bl (xs.contains s))) S) : Ok (opt ((inS (.d (.str s)) (.o (.lst l)) S).map fun b => .d (.bl b)) S) Q := by
  rw [h, in_own]
  exact q
end
theorem flat_len {xs : List (List Nat)} (h : ∀ x ∈ xs, x.length = 1) : (xs.map (·.length)).sum = xs.length := by
  induction xs with
  | nil => rfl
  | cons x r ih =>
    rw [List.map_cons, List.sum_cons, ih fun y hy => h y (List.mem_cons_of_mem _ hy), h x List.mem_cons_self, List.length_cons]
    omega
theorem int_ne {a b : Int} (h : ¬ D.int a = D.int b) : a ≠ b := fun e => h (by rw [e])
theorem lt_one (a b : Nat) : decide (([a] : List Nat) < [b]) = decide (a < b) := by
  rw [Bool.eq_iff_iff, decide_eq_true_eq, decide_eq_true_eq, List.cons_lt_cons_iff]
  simp
theorem extend_own {l m : List D} {p : Nat} {S : Sto} (e : S[p]? = some (.lst l)) (h : l.length + m.length ≤ LINE) : bmtW .extend (.d (.ref p)) [.o (.lst m)] S = .ok (.d .non) (S.set p (.lst (l ++ m))) := by
  unfold bmtW mlsOf
  simp only [e]
  exact if_pos h
theorem slc_ref {l : List D} {p : Nat} {S : Sto} {lo hi : Option Int} (e : S[p]? = some (.lst l)) : slcW (.d (.ref p)) lo hi S = some (.o (.lst (cut l lo hi))) := by
  unfold slcW slcO lstOf
  simp only [e]
theorem cut_map {α β : Type} (f : α → β) (l : List α) (lo hi : Option Int) : cut (l.map f) lo hi = (cut l lo hi).map f := by
  unfold cut
  rw [List.length_map, ← List.map_drop, ← List.map_take]
theorem cut_mem {α : Type} {l : List α} {lo hi : Option Int} {x : α} (h : x ∈ cut l lo hi) : x ∈ l := by
  unfold cut at h
  exact List.mem_of_mem_drop (List.mem_of_mem_take h)
end PyI

set_option maxRecDepth 100000
set_option maxHeartbeats 1000000
/-! PyI: the house of seals. -/
namespace PyI
section
variable {cb ci : Cb} {ini : Nat → Option Nat} {ρ : Env} {S : Sto}
theorem ev_meth {o : Ex} {es : Exs} {dis : List (Nat × Nat)} {m n C f : Nat} {fs : List (Nat × D)} (ho : evE cb ci ini o ρ S = .ok (.d (.ref n)) S) (e : S[n]? = some (.ins C fs)) (hm : fs.lookup m = none) (hd : dis.lookup C = some f) :
    evE cb ci ini (.meth o m dis es) ρ S = (evDs cb ci ini es ρ S).bind fun ds S => cb f (.ref n :: ds) S := by
  simp only [evE, ho, al_ok_d, bind_ok, e, hm, hd, Option.isNone_none, if_true]
theorem ev_fld {o : Ex} {n C f : Nat} {fs : List (Nat × D)} {d : D} (ho : evE cb ci ini o ρ S = .ok (.d (.ref n)) S) (e : S[n]? = some (.ins C fs)) (hf : fs.lookup f = some d) : evE cb ci ini (.fld o f [C]) ρ S = .ok (.d d) S := by
  simp only [evE, ho, al_ok_d, bind_ok, getF, e, hf, List.contains_cons, beq_self_eq_true, Bool.true_or, if_true, Option.map_some, opt_some]
end
/-! ### things -/
inductive Th where
  | leaf (w : Int) | pair (a b : Int)
  deriving DecidableEq
def sLeaf : List Nat := [108, 101, 97, 102]
def sPair : List Nat := [112, 97, 105, 114]
def Th.d : Th → D
  | .leaf w => .tup [.str sLeaf, .int w]
  | .pair a b => .tup [.str sPair, .int a, .int b]
theorem Th.d_inj : ∀ {s t : Th}, s.d = t.d → s = t
  | .leaf w, .leaf w', h => by simp [Th.d] at h; rw [h]
  | .pair a b, .pair a' b', h => by simp [Th.d] at h; rw [h.1, h.2]
  | .leaf _, .pair _ _, h => by simp [Th.d] at h
  | .pair _ _, .leaf _, h => by simp [Th.d] at h
theorem Th.key (t : Th) : t.d.keyT = true := by cases t <;> rfl
def numsFrom : Nat → List Th → List (D × D)
  | _, [] => []
  | n, t :: r => (t.d, .int ((n + 1 : Nat) : Int)) :: numsFrom (n + 1) r
theorem numsFrom_len : ∀ (T : List Th) (n : Nat), (numsFrom n T).length = T.length
  | [], _ => rfl
  | _ :: r, n => by simp [numsFrom, numsFrom_len r]
theorem look_nums : ∀ (T : List Th) (n : Nat) (t : Th), look (numsFrom n T) t.d = if t ∈ T then some (.int ((n + T.idxOf t + 1 : Nat) : Int)) else none
  | [], n, t => by simp [look, numsFrom]
  | s :: r, n, t => by
    unfold numsFrom look
    rw [List.find?_cons]
    by_cases h : s = t
    · subst h
      simp
    · have h1 : ¬ s.d = t.d := fun e => h (Th.d_inj e)
      have h2 : ¬ t = s := fun e => h e.symm
      simp only [h1, decide_false]
      have ih := look_nums r (n + 1) t
      unfold look at ih
      rw [ih]
      have h3 : (s == t) = false := by simpa using h
      rw [List.idxOf_cons, h3]
      simp only [List.mem_cons, h2, false_or, cond_false]
      congr 3
      omega
theorem put_nums : ∀ (T : List Th) (n : Nat) (t : Th), t ∉ T → put (numsFrom n T) t.d (.int ((n + T.length + 1 : Nat) : Int)) = numsFrom n (T ++ [t])
  | T, n, t, h => by
    have hn : (numsFrom n T).any (fun p => decide (p.1 = t.d)) = false := by
      have : ∀ (T : List Th) (n : Nat), t ∉ T → (numsFrom n T).any (fun p => decide (p.1 = t.d)) = false := by
        intro T
        induction T with
        | nil => intro n _; rfl
        | cons s r ih =>
          intro n h
          unfold numsFrom
          rw [List.any_cons, ih (n + 1) fun z => h (List.mem_cons_of_mem _ z), Bool.or_false]
          exact decide_eq_false fun e => h (by rw [Th.d_inj e]; exact List.mem_cons_self)
      exact this T n h
    unfold put
    rw [if_neg (by rw [hn]; exact Bool.false_ne_true)]
    have : ∀ (T : List Th) (n : Nat), numsFrom n T ++ [(t.d, .int ((n + T.length + 1 : Nat) : Int))] = numsFrom n (T ++ [t]) := by
      intro T
      induction T with
      | nil => intro n; rfl
      | cons s r ih =>
        intro n
        show (s.d, _) :: (numsFrom (n + 1) r ++ _) = (s.d, _) :: numsFrom (n + 1) (r ++ [t])
        rw [← ih (n + 1), List.length_cons]
        congr 5
        omega
    exact this T n
/-! ### the house -/
structure HsN where
  C : Nat
  fN : Nat
  fT : Nat
  mL : Nat
  mP : Nat
  mO : Nat
  mG : Nat
  mM : Nat
  iI : Nat
  iG : Nat
  iL : Nat
  iP : Nat
  iO : Nat
  iM : Nat
section
variable (N : HsN)
def HsN.g1 : Stm := .ssub (.fld (.var 0) N.fN [N.C]) (.var 1) (.blt .len (.cons (.fld (.var 0) N.fT [N.C]) .nil))
def HsN.g2 : Stm := .expr (.bmt .append (.fld (.var 0) N.fT [N.C]) (.cons (.var 1) .nil))
def HsN.g0 : Stm := .ite (.cmp .notin (.var 1) (.fld (.var 0) N.fN [N.C])) (.cons N.g1 (.cons N.g2 .nil)) (.nil)
def HsN.g3 : Stm := .ret (.idx (.fld (.var 0) N.fN [N.C]) (.var 1))
def HsN.bG : Sts := .cons N.g0 (.cons N.g3 .nil)
def HsN.bL : Sts := .cons (.ret (.meth (.var 0) N.mG [(N.C, N.iG)] (.cons (.tup (.cons (.con (.str [108, 101, 97, 102])) (.cons (.var 1) .nil))) .nil))) .nil
def HsN.bP : Sts := .cons (.ret (.meth (.var 0) N.mG [(N.C, N.iG)] (.cons (.tup (.cons (.con (.str [112, 97, 105, 114])) (.cons (.var 1) (.cons (.var 2) .nil)))) .nil))) .nil
def HsN.o1 : Stm := .ret (.con (.non))
def HsN.o0 : Stm := .ite (.bnot (.chain .lt .lt (.con (.int 0)) (.var 1) (.blt .len (.cons (.fld (.var 0) N.fT [N.C]) .nil)))) (.cons HsN.o1 .nil) (.nil)
def HsN.o2 : Stm := .ret (.idx (.fld (.var 0) N.fT [N.C]) (.var 1))
def HsN.bO : Sts := .cons N.o0 (.cons N.o2 .nil)
def HsN.bM : Sts := .cons (.ret (.bin .sub (.blt .len (.cons (.fld (.var 0) N.fT [N.C]) .nil)) (.con (.int 1)))) .nil
def HsN.i0 : Stm := .sfld (.var 0) N.fN [N.C] (.dnewT)
def HsN.i1 : Stm := .sfld (.var 0) N.fT [N.C] (.lst (.cons (.con (.non)) .nil))
def HsN.bI : Sts := .cons N.i0 (.cons N.i1 .nil)
end
/-- a def of the program with that body, so many parameters and slots -/
def Has (P : Pg) (i : Nat) (b : Sts) (np ns : Nat) : Prop := ∃ F, P.fs[i]? = some F ∧ F.b = b ∧ F.ps.length = np ∧ F.N.length = ns
structure HsP (P : Pg) (N : HsN) : Prop where
  ne : N.fN ≠ N.fT
  m : ∀ m ∈ [N.mL, N.mP, N.mO, N.mG, N.mM], m ≠ N.fN ∧ m ≠ N.fT
  G : Has P N.iG N.bG 2 2
  L : Has P N.iL N.bL 2 2
  Pr : Has P N.iP N.bP 3 3
  O : Has P N.iO N.bO 2 2
  M : Has P N.iM N.bM 1 1
  I : Has P N.iI N.bI 1 1
/-- the house at h with the things T -/
structure Hs (N : HsN) (h a b : Nat) (S : Sto) (T : List Th) : Prop where
  i : S[h]? = some (.ins N.C [(N.fN, .ref a), (N.fT, .ref b)])
  n : S[a]? = some (.dT (numsFrom 0 T))
  t : S[b]? = some (.lst (.non :: T.map Th.d))
  nd : T.Nodup
def giv (T : List Th) (t : Th) : List Th := if t ∈ T then T else T ++ [t]
def num (T : List Th) (t : Th) : Int := (((giv T t).idxOf t + 1 : Nat) : Int)
/-- the house's own objects aside, the old objects stay -/
def Fh (a b : Nat) (S S' : Sto) : Prop := S.length ≤ S'.length ∧ ∀ i, i < S.length → i ≠ a → i ≠ b → S'[i]? = S[i]?
theorem Fh.refl {a b : Nat} {S : Sto} : Fh a b S S := ⟨Nat.le_refl _, fun _ _ _ _ => rfl⟩
theorem Fh.trans {a b : Nat} {S S' S'' : Sto} (h : Fh a b S S') (h' : Fh a b S' S'') : Fh a b S S'' := Fr.trans h h'
theorem Fh.app {a b : Nat} {S : Sto} (o : O) : Fh a b S (S ++ [o]) := Fr.app o
theorem Fh.at_ {a b i : Nat} {S S' : Sto} {o : O} (h : Fh a b S S') (e : S[i]? = some o) (x : i ≠ a) (y : i ≠ b) : S'[i]? = some o := Fr.at_ h e x y
section
variable {N : HsN} {P : Pg} {h a b fu n : Nat} {S : Sto} {T : List Th} {Q : W → Sto → Prop}
theorem Hs.ne (H : Hs N h a b S T) : h ≠ a ∧ h ≠ b ∧ a ≠ b := by
  refine ⟨fun e => ?_, fun e => ?_, fun e => ?_⟩
  · have := H.i; rw [e, H.n] at this; cases this
  · have := H.i; rw [e, H.t] at this; cases this
  · have := H.n; rw [e, H.t] at this; cases this
theorem Hs.lt (H : Hs N h a b S T) : h < S.length ∧ a < S.length ∧ b < S.length :=
  ⟨(List.getElem?_eq_some_iff.mp H.i).1, (List.getElem?_eq_some_iff.mp H.n).1, (List.getElem?_eq_some_iff.mp H.t).1⟩
theorem Hs.app (H : Hs N h a b S T) (o : O) : Hs N h a b (S ++ [o]) T := ⟨app_keep H.i, app_keep H.n, app_keep H.t, H.nd⟩
theorem Hs.lN (H : Hs N h a b S T) (ok : HsP P N) : [(N.fN, D.ref a), (N.fT, D.ref b)].lookup N.fN = some (.ref a) := by simp
theorem Hs.lT (H : Hs N h a b S T) (ok : HsP P N) : [(N.fN, D.ref a), (N.fT, D.ref b)].lookup N.fT = some (.ref b) := by
  rw [List.lookup_cons, show (N.fT == N.fN) = false by simpa using Ne.symm ok.ne]
  simp
theorem Hs.lM (H : Hs N h a b S T) (ok : HsP P N) {m : Nat} (hm : m ∈ [N.mL, N.mP, N.mO, N.mG, N.mM]) : [(N.fN, D.ref a), (N.fT, D.ref b)].lookup m = none := by
  obtain ⟨h1, h2⟩ := ok.m m hm
  rw [List.lookup_cons, show (m == N.fN) = false by simpa using h1, List.lookup_cons, show (m == N.fT) = false by simpa using h2]
  rfl
theorem Hs.gN (H : Hs N h a b S T) : getF (.ref h) N.fN [N.C] S = some (.ref a) := by
  simp [getF, H.i]
theorem Hs.gT (H : Hs N h a b S T) (ok : HsP P N) : getF (.ref h) N.fT [N.C] S = some (.ref b) := by
  unfold getF
  simp only [H.i, List.contains_cons, beq_self_eq_true, Bool.true_or, if_true]
  exact H.lT ok
theorem has_run {i : Nat} {B : Sts} {np ns : Nat} (hh : Has P i B np ns) {ds : List D} (hl : ds.length = np)
    (q : Ok (evSs fu (run fu P n) (run fu P n) P.T.ini B (ds.map some ++ List.replicate (ns - np) none) S) fun o S => match o with
      | .nx _ => Q (.d .non) S
      | .rt w => Q w S
      | _ => False) : Ok (run fu P (n + 1) i ds S) Q := by
  obtain ⟨F, h1, h2, h3, h4⟩ := hh
  refine ok_run F h1 (by rw [h3]; exact hl) ?_
  rw [h2]
  unfold envOf
  rw [h4, hl]
  exact q
/-- a thing's number -/
theorem given_ok (ok : HsP P N) (H : Hs N h a b S T) (hl : T.length < 8000000) (t : Th) (q : ∀ S', Hs N h a b S' (giv T t) → Fh a b S S' → S'.length = S.length → Q (.d (.int (num T t))) S') : Ok (run fu P (n + 1) N.iG [.ref h, t.d] S) Q := by
  refine has_run ok.G rfl ?_
  show Ok (evSs fu _ _ _ N.bG [some (.ref h), some t.d] S) _
  obtain ⟨n1, n2, n3⟩ := H.ne
  obtain ⟨l1, l2, l3⟩ := H.lt
  unfold HsN.bG
  refine ok_cons ?_
  have fN : ∀ {S : Sto} {T : List Th}, Hs N h a b S T → evE (run fu P n) (run fu P n) P.T.ini (.fld (.var 0) N.fN [N.C]) [some (.ref h), some t.d] S = .ok (.d (.ref a)) S := fun H => ev_fld rfl H.i (H.lN ok)
  have fT : ∀ {S : Sto} {T : List Th}, Hs N h a b S T → evE (run fu P n) (run fu P n) P.T.ini (.fld (.var 0) N.fT [N.C]) [some (.ref h), some t.d] S = .ok (.d (.ref b)) S := fun H => ev_fld rfl H.i (H.lT ok)
  have hin : inS (.d t.d) (.d (.ref a)) S = some (decide (t ∈ T)) := by
    show inOb (.d t.d) (.d (.ref a)) S = _
    unfold inOb askOf
    simp only [H.n, t.key, if_true, look_nums]
    by_cases h : t ∈ T <;> simp [h]
  have fin : ∀ {S' : Sto} {T' : List Th}, Hs N h a b S' T' → t ∈ T' → idxW (.d (.ref a)) t.d S' = some (.int ((T'.idxOf t + 1 : Nat) : Int)) := fun {S' T'} H h => by
    show idxO (.d (.ref a)) t.d S' = _
    unfold idxO askOf
    simp only [H.n, t.key, if_true, look_nums, h, Nat.zero_add]
  have v1 : ([some (D.ref h), some t.d] : Env)[1]? = some (some t.d) := rfl
  unfold HsN.g0
  have last : ∀ {S' : Sto} {T' : List Th}, Hs N h a b S' T' → t ∈ T' → (∀ w, w = W.d (.int ((T'.idxOf t + 1 : Nat) : Int)) → Q w S') → Ok (evSs fu (run fu P n) (run fu P n) P.T.ini (.cons N.g3 .nil) [some (.ref h), some t.d] S') fun o S => match o with
      | .nx _ => Q (.d .non) S
      | .rt w => Q w S
      | _ => False := fun {S' T'} H hm k => by
    refine ok_one ?_
    unfold HsN.g3
    rw [evS, evE, fN H]
    simp only [evE, v1, tst, evE, evWs, evDs, evO, evC, evI, Ok_bind, Ok_ok, Ok_al, al_d, al_o, bind_ok, al_ok_d, al_ok_o, opt_some, testD_bl, List.getElem?_cons_zero, List.getElem?_cons_succ, List.set_cons_zero, List.set_cons_succ, Option.map_some, cmpW, ordW, bltW, binW, intW, addW, evS, Tg.put, if_true, Bool.false_eq_true, if_false, fin H hm]
    exact k _ rfl
  by_cases hm : t ∈ T
  · rw [evS, tst]
    rw [evE, show evE (run fu P n) (run fu P n) P.T.ini (.var 1) [some (.ref h), some t.d] S = .ok (.d t.d) S from rfl, bind_ok, fN H]
    simp only [tst, evE, evWs, evDs, evO, evC, evI, Ok_bind, Ok_ok, Ok_al, al_d, al_o, bind_ok, al_ok_d, al_ok_o, opt_some, testD_bl, List.getElem?_cons_zero, List.getElem?_cons_succ, List.set_cons_zero, List.set_cons_succ, Option.map_some, cmpW, ordW, bltW, binW, intW, addW, evS, Tg.put, if_true, Bool.false_eq_true, if_false, hin, hm, decide_true, Bool.not_true]
    refine ok_nil ?_
    refine last H hm fun w e => ?_
    have e1 : giv T t = T := if_pos hm
    have := q S (by rw [e1]; exact H) Fh.refl rfl
    unfold num at this
    rw [e1] at this
    rw [e]
    exact this
  · rw [evS, tst]
    rw [evE, show evE (run fu P n) (run fu P n) P.T.ini (.var 1) [some (.ref h), some t.d] S = .ok (.d t.d) S from rfl, bind_ok, fN H]
    simp only [tst, evE, evWs, evDs, evO, evC, evI, Ok_bind, Ok_ok, Ok_al, al_d, al_o, bind_ok, al_ok_d, al_ok_o, opt_some, testD_bl, List.getElem?_cons_zero, List.getElem?_cons_succ, List.set_cons_zero, List.set_cons_succ, Option.map_some, cmpW, ordW, bltW, binW, intW, addW, evS, Tg.put, if_true, Bool.false_eq_true, if_false, hin, hm, decide_false, Bool.not_false]
    refine ok_cons ?_
    unfold HsN.g1
    rw [evS, evE, evWs, fT H]
    have hset : PyI.setD (.ref a) t.d (.int ((T.length + 1 : Nat) : Int)) S = some (S.set a (.dT (numsFrom 0 (T ++ [t])))) := by
      unfold PyI.setD
      simp only [H.n, t.key]
      rw [if_pos ⟨by trivial, by rw [numsFrom_len]; simp only [LINE]; omega⟩]
      have := put_nums T 0 t hm
      rw [Nat.zero_add] at this
      rw [this]
    simp only [tst, evE, evWs, evDs, evO, evC, evI, Ok_bind, Ok_ok, Ok_al, al_d, al_o, bind_ok, al_ok_d, al_ok_o, opt_some, testD_bl, List.getElem?_cons_zero, List.getElem?_cons_succ, List.set_cons_zero, List.set_cons_succ, Option.map_some, cmpW, ordW, bltW, binW, intW, addW, evS, Tg.put, if_true, Bool.false_eq_true, if_false, lenW, H.t, List.length_cons, List.length_map, H.gN, hset]
    refine ok_one ?_
    unfold HsN.g2
    have H' : ([some (D.ref h), some t.d] : Env)[0]? = some (some (.ref h)) := rfl
    have hb : (S.set a (.dT (numsFrom 0 (T ++ [t]))))[b]? = some (.lst (.non :: T.map Th.d)) := by rw [List.getElem?_set_ne n3]; exact H.t
    have hi : (S.set a (.dT (numsFrom 0 (T ++ [t]))))[h]? = some (.ins N.C [(N.fN, .ref a), (N.fT, .ref b)]) := by rw [List.getElem?_set_ne (Ne.symm n1)]; exact H.i
    have f2 : evE (run fu P n) (run fu P n) P.T.ini (.fld (.var 0) N.fT [N.C]) [some (.ref h), some t.d] (S.set a (.dT (numsFrom 0 (T ++ [t])))) = .ok (.d (.ref b)) (S.set a (.dT (numsFrom 0 (T ++ [t])))) := ev_fld rfl hi (H.lT ok)
    rw [evS, evE, f2]
    simp only [tst, evE, evWs, evDs, evO, evC, evI, Ok_bind, Ok_ok, Ok_al, al_d, al_o, bind_ok, al_ok_d, al_ok_o, opt_some, testD_bl, List.getElem?_cons_zero, List.getElem?_cons_succ, List.set_cons_zero, List.set_cons_succ, Option.map_some, cmpW, ordW, bltW, binW, intW, addW, evS, Tg.put, if_true, Bool.false_eq_true, if_false, Bmt.kd, kd_ref hb, Bmt.keeps]
    rw [append_ref hb (by simp only [List.length_cons, List.length_map, LINE]; omega)]
    (try simp only [tst, evE, evWs, evDs, evO, evC, evI, Ok_bind, Ok_ok, Ok_al, al_d, al_o, bind_ok, al_ok_d, al_ok_o, opt_some, testD_bl, List.getElem?_cons_zero, List.getElem?_cons_succ, List.set_cons_zero, List.set_cons_succ, Option.map_some, cmpW, ordW, bltW, binW, intW, addW, evS, Tg.put, if_true, Bool.false_eq_true, if_false])
    have e1 : giv T t = T ++ [t] := if_neg hm
    have HH : Hs N h a b ((S.set a (.dT (numsFrom 0 (T ++ [t])))).set b (.lst (.non :: T.map Th.d ++ [t.d]))) (T ++ [t]) := {
      i := by rw [List.getElem?_set_ne (Ne.symm n2)]; exact hi
      n := by rw [List.getElem?_set_ne (Ne.symm n3), List.getElem?_set_self l2]
      t := by rw [List.getElem?_set_self (by rw [List.length_set]; exact l3), List.map_append]; rfl
      nd := by
        rw [List.nodup_append]
        refine ⟨H.nd, by simp, fun x hx y hy e => hm ?_⟩
        rw [← List.mem_singleton.mp hy, ← e]
        exact hx }
    refine last HH (by simp) fun w e => ?_
    rw [e]
    have := q _ (by rw [e1]; exact HH) ⟨by simp, fun i hi x y => by rw [List.getElem?_set_ne (Ne.symm y), List.getElem?_set_ne (Ne.symm x)]⟩ (by simp)
    unfold num at this
    rw [e1] at this
    exact this
theorem leaf_ok (ok : HsP P N) (H : Hs N h a b S T) (hl : T.length < 8000000) (w : Int) (q : ∀ S', Hs N h a b S' (giv T (.leaf w)) → Fh a b S S' → S'.length = S.length → Q (.d (.int (num T (.leaf w)))) S') : Ok (run fu P (n + 2) N.iL [.ref h, .int w] S) Q := by
  refine has_run ok.L rfl ?_
  show Ok (evSs fu _ _ _ N.bL [some (.ref h), some (.int w)] S) _
  unfold HsN.bL
  refine ok_one ?_
  rw [evS, ev_meth (f := N.iG) rfl H.i (H.lM ok (by simp)) (by simp)]
  simp only [tst, evE, evWs, evDs, evO, evC, evI, Ok_bind, Ok_ok, Ok_al, al_d, al_o, bind_ok, al_ok_d, al_ok_o, opt_some, testD_bl, List.getElem?_cons_zero, List.getElem?_cons_succ, List.set_cons_zero, List.set_cons_succ, Option.map_some, cmpW, ordW, bltW, binW, intW, addW, evS, Tg.put, if_true, Bool.false_eq_true, if_false, List.length_cons, List.length_nil]
  rw [if_pos (by decide)]
  (try simp only [tst, evE, evWs, evDs, evO, evC, evI, Ok_bind, Ok_ok, Ok_al, al_d, al_o, bind_ok, al_ok_d, al_ok_o, opt_some, testD_bl, List.getElem?_cons_zero, List.getElem?_cons_succ, List.set_cons_zero, List.set_cons_succ, Option.map_some, cmpW, ordW, bltW, binW, intW, addW, evS, Tg.put, if_true, Bool.false_eq_true, if_false])
  exact given_ok ok H hl (.leaf w) q
theorem pair_ok (ok : HsP P N) (H : Hs N h a b S T) (hl : T.length < 8000000) (x y : Int) (q : ∀ S', Hs N h a b S' (giv T (.pair x y)) → Fh a b S S' → S'.length = S.length → Q (.d (.int (num T (.pair x y)))) S') : Ok (run fu P (n + 2) N.iP [.ref h, .int x, .int y] S) Q := by
  refine has_run ok.Pr rfl ?_
  show Ok (evSs fu _ _ _ N.bP [some (.ref h), some (.int x), some (.int y)] S) _
  unfold HsN.bP
  refine ok_one ?_
  rw [evS, ev_meth (f := N.iG) rfl H.i (H.lM ok (by simp)) (by simp)]
  simp only [tst, evE, evWs, evDs, evO, evC, evI, Ok_bind, Ok_ok, Ok_al, al_d, al_o, bind_ok, al_ok_d, al_ok_o, opt_some, testD_bl, List.getElem?_cons_zero, List.getElem?_cons_succ, List.set_cons_zero, List.set_cons_succ, Option.map_some, cmpW, ordW, bltW, binW, intW, addW, evS, Tg.put, if_true, Bool.false_eq_true, if_false, List.length_cons, List.length_nil]
  rw [if_pos (by decide)]
  (try simp only [tst, evE, evWs, evDs, evO, evC, evI, Ok_bind, Ok_ok, Ok_al, al_d, al_o, bind_ok, al_ok_d, al_ok_o, opt_some, testD_bl, List.getElem?_cons_zero, List.getElem?_cons_succ, List.set_cons_zero, List.set_cons_succ, Option.map_some, cmpW, ordW, bltW, binW, intW, addW, evS, Tg.put, if_true, Bool.false_eq_true, if_false])
  exact given_ok ok H hl (.pair x y) q
/-- a seal of the house, and the thing -/
def At (T : List Th) (s : Int) (t : Th) : Prop := 1 ≤ s ∧ T[(s - 1).toNat]? = some t
theorem opened_ok (ok : HsP P N) (H : Hs N h a b S T) (hl : T.length < 8000000) (s : Int) (q : ∀ d : D, (1 ≤ s ∧ s ≤ T.length → ∃ t, At T s t ∧ d = t.d) → (¬ (1 ≤ s ∧ s ≤ T.length) → d = .non) → Q (.d d) S) : Ok (run fu P (n + 1) N.iO [.ref h, .int s] S) Q := by
  refine has_run ok.O rfl ?_
  show Ok (evSs fu _ _ _ N.bO [some (.ref h), some (.int s)] S) _
  unfold HsN.bO
  refine ok_cons ?_
  have fT : evE (run fu P n) (run fu P n) P.T.ini (.fld (.var 0) N.fT [N.C]) [some (.ref h), some (.int s)] S = .ok (.d (.ref b)) S := ev_fld rfl H.i (H.lT ok)
  unfold HsN.o0
  have gT := H.gT ok
  have hlen : lenW (.d (.ref b)) S = some (T.length + 1) := by rw [len_ref H.t, List.length_cons, List.length_map]
  by_cases h0 : 0 < s
  · simp only [tst, evE, evWs, evDs, evO, evC, evI, Ok_bind, Ok_ok, Ok_al, al_d, al_o, bind_ok, al_ok_d, al_ok_o, opt_some, testD_bl, List.getElem?_cons_zero, List.getElem?_cons_succ, List.set_cons_zero, List.set_cons_succ, Option.map_some, cmpW, ordW, bltW, binW, intW, addW, evS, Tg.put, if_true, Bool.false_eq_true, if_false, h0, decide_true, gT, hlen]
    by_cases h1 : s < ((T.length + 1 : Nat) : Int)
    · simp only [h1, decide_true, Bool.not_true, tst, evE, evWs, evDs, evO, evC, evI, Ok_bind, Ok_ok, Ok_al, al_d, al_o, bind_ok, al_ok_d, al_ok_o, opt_some, testD_bl, List.getElem?_cons_zero, List.getElem?_cons_succ, List.set_cons_zero, List.set_cons_succ, Option.map_some, cmpW, ordW, bltW, binW, intW, addW, evS, Tg.put, if_true, Bool.false_eq_true, if_false]
      refine ok_nil ?_
      refine ok_one ?_
      unfold HsN.o2
      rw [evS, evE, fT]
      obtain ⟨x, hx1, hx, hm⟩ := idx_ref (v := s) H.t (by omega) (by simp only [List.length_cons, List.length_map]; omega)
      simp only [tst, evE, evWs, evDs, evO, evC, evI, Ok_bind, Ok_ok, Ok_al, al_d, al_o, bind_ok, al_ok_d, al_ok_o, opt_some, testD_bl, List.getElem?_cons_zero, List.getElem?_cons_succ, List.set_cons_zero, List.set_cons_succ, Option.map_some, cmpW, ordW, bltW, binW, intW, addW, evS, Tg.put, if_true, Bool.false_eq_true, if_false, hx]
      have e1 : s.toNat = (s - 1).toNat + 1 := by omega
      rw [e1, List.getElem?_cons_succ, List.getElem?_map] at hx1
      cases ht : T[(s - 1).toNat]? with
      | none => rw [ht] at hx1; cases hx1
      | some t =>
        rw [ht] at hx1
        cases hx1
        exact q _ (fun _ => ⟨t, ⟨by omega, ht⟩, rfl⟩) fun z => absurd ⟨by omega, by omega⟩ z
    · simp only [h1, decide_false, Bool.not_false, tst, evE, evWs, evDs, evO, evC, evI, Ok_bind, Ok_ok, Ok_al, al_d, al_o, bind_ok, al_ok_d, al_ok_o, opt_some, testD_bl, List.getElem?_cons_zero, List.getElem?_cons_succ, List.set_cons_zero, List.set_cons_succ, Option.map_some, cmpW, ordW, bltW, binW, intW, addW, evS, Tg.put, if_true, Bool.false_eq_true, if_false]
      refine ok_one ?_
      simp only [HsN.o1, tst, evE, evWs, evDs, evO, evC, evI, Ok_bind, Ok_ok, Ok_al, al_d, al_o, bind_ok, al_ok_d, al_ok_o, opt_some, testD_bl, List.getElem?_cons_zero, List.getElem?_cons_succ, List.set_cons_zero, List.set_cons_succ, Option.map_some, cmpW, ordW, bltW, binW, intW, addW, evS, Tg.put, if_true, Bool.false_eq_true, if_false]
      exact q .non (fun z => absurd z.2 (by omega)) fun _ => rfl
  · simp only [tst, evE, evWs, evDs, evO, evC, evI, Ok_bind, Ok_ok, Ok_al, al_d, al_o, bind_ok, al_ok_d, al_ok_o, opt_some, testD_bl, List.getElem?_cons_zero, List.getElem?_cons_succ, List.set_cons_zero, List.set_cons_succ, Option.map_some, cmpW, ordW, bltW, binW, intW, addW, evS, Tg.put, if_true, Bool.false_eq_true, if_false, h0, decide_false, Bool.not_false]
    refine ok_one ?_
    simp only [HsN.o1, tst, evE, evWs, evDs, evO, evC, evI, Ok_bind, Ok_ok, Ok_al, al_d, al_o, bind_ok, al_ok_d, al_ok_o, opt_some, testD_bl, List.getElem?_cons_zero, List.getElem?_cons_succ, List.set_cons_zero, List.set_cons_succ, Option.map_some, cmpW, ordW, bltW, binW, intW, addW, evS, Tg.put, if_true, Bool.false_eq_true, if_false]
    exact q .non (fun z => absurd z.1 (by omega)) fun _ => rfl
end
end PyI

set_option maxRecDepth 100000
/-! PyI: one numbering of all laws' defs (i) and classes (c) -/
namespace PyI
structure GN where
  i : Nat → Nat
  c : Nat → Nat
def nmsG : List PySem.Str := (["row", "__init__", "words", "passed", "need", "taken", "a_name", "as_word", "number", "term", "bracket", "end", "word", "held", "bodies", "made", "heads", "stage", "open_ones", "take", "take_head", "take_within", "plain_statement", "close"] : List PySem.Str) ++ (["name", "most", "cells", "rows", "defs", "statement", "body", "turns", "main_body", "waiting", "states", "turn", "all_words", "worth", "gone_through", "one_done", "call_done", "cell_boxes", "row_boxes", "lengths", "firsts", "of_term", "of_body", "of_statement"] : List PySem.Str) ++ (["code", "first_room", "first_wait", "pushed", "popped", "does_words", "calls", "goes_back", "row_done", "names", "spot", "spots", "stays_a_word", "next_opened", "become", "goes_on", "writes", "deed_done", "numbers", "things", "given", "leaf", "pair", "opened"] : List PySem.Str) ++ (["many", "house", "case", "machine", "small", "rows_told", "calls_told", "stands", "seals", "stand", "seal_at", "rows_of_call", "at", "places", "rules", "askings", "last", "near", "told", "by_rules", "asked", "program", "clock", "late"] : List PySem.Str) ++ (["spoken", "seen", "ended", "lesser", "floor", "base", "low", "agreed", "high", "heard", "wanted", "question", "out", "record", "place_of", "go_on", "leave_calls", "enter_rows", "look_at_calls", "look", "tell_off", "finish", "word_against", "say"] : List PySem.Str) ++ (["take_other", "take_both", "two_numbers", "said_of", "claims", "paper", "claimants", "speakers", "purses", "treasure", "away", "standing", "said", "done", "let_come", "pays", "unlike", "put", "hold"] : List PySem.Str)
end PyI

set_option maxRecDepth 100000
namespace PyI
namespace U
def t2_0 (N : GN) : Stm := .set (.nm 2) (.lc [3] (.nm 3) (.seq (.slc (.var 0) (.ya (.var 1)) (.ya (.con (.int 63))))) .no (.blt .max2 (.cons (.var 3) (.cons (.bin .sub (.con (.int 0)) (.var 3)) .nil))))
def t2_1 (N : GN) : Stm := .set (.nm 4) (.bin .add (.con (.int 7919)) (.var 1))
def t2_3 (N : GN) : Stm := .set (.nm 4) (.bin .mod (.bin .add (.bin .mul (.var 4) (.con (.int 48271))) (.bin .mod (.var 3) (.con (.int 2147483629)))) (.con (.int 2147483647)))
def t2_2 (N : GN) : Stm := .for (.nm 3) (.seq (.var 2)) (.cons (t2_3 N) .nil)
def t2_4 (N : GN) : Stm := .ret (.dic (.cons (.con (.str [115, 101, 101, 100])) (.cons (.var 4) (.cons (.con (.str [110, 117, 109, 98, 101, 114])) (.cons (.con (.int 0)) (.cons (.con (.str [108, 101, 102, 116])) (.cons (.lrev (.lc [3] (.nm 3) (.seq (.var 2)) (.ya (.cmp .ge (.var 3) (.bin .pow (.con (.int 10)) (.con (.int 18))))) (.var 3))) .nil)))))))
def b2 (N : GN) : Sts := .cons (t2_0 N) (.cons (t2_1 N) (.cons (t2_2 N) (.cons (t2_4 N) .nil)))
def t3_1 (N : GN) : Stm := .ssub (.var 0) (.con (.str [110, 117, 109, 98, 101, 114])) (.bmt .pop (.idx (.var 0) (.con (.str [108, 101, 102, 116]))) (.nil))
def t3_0 (N : GN) : Stm := .whl (.band (.cmp .eq (.idx (.var 0) (.con (.str [110, 117, 109, 98, 101, 114]))) (.con (.int 0))) (.cmp .gt (.blt .len (.cons (.idx (.var 0) (.con (.str [108, 101, 102, 116]))) .nil)) (.con (.int 0)))) (.cons (t3_1 N) .nil)
def t3_2 (N : GN) : Stm := .set (.nm 2) (.idx (.var 0) (.con (.str [110, 117, 109, 98, 101, 114])))
def t3_4 (N : GN) : Stm := .ssub (.var 0) (.con (.str [110, 117, 109, 98, 101, 114])) (.bin .fdiv (.var 2) (.var 1))
def t3_5 (N : GN) : Stm := .ret (.bin .mod (.var 2) (.var 1))
def t3_3 (N : GN) : Stm := .ite (.cmp .gt (.var 2) (.con (.int 0))) (.cons (t3_4 N) (.cons (t3_5 N) .nil)) (.nil)
def t3_6 (N : GN) : Stm := .set (.nm 3) (.bin .mod (.bin .add (.bin .mul (.idx (.var 0) (.con (.str [115, 101, 101, 100]))) (.con (.int 48271))) (.con (.int 7919))) (.con (.int 2147483647)))
def t3_7 (N : GN) : Stm := .ssub (.var 0) (.con (.str [115, 101, 101, 100])) (.bin .mod (.bin .add (.bin .mul (.var 3) (.con (.int 40692))) (.con (.int 104729))) (.con (.int 2147483399)))
def t3_8 (N : GN) : Stm := .set (.nm 4) (.bin .mod (.bin .mul (.idx (.var 0) (.con (.str [115, 101, 101, 100]))) (.idx (.var 0) (.con (.str [115, 101, 101, 100])))) (.con (.int 2147483563)))
def t3_9 (N : GN) : Stm := .ret (.bin .mod (.bin .add (.bin .mul (.bin .mod (.bin .mul (.var 3) (.var 3)) (.con (.int 2147483629))) (.con (.int 2147483563))) (.var 4)) (.var 1))
def b3 (N : GN) : Sts := .cons (t3_0 N) (.cons (t3_2 N) (.cons (t3_3 N) (.cons (t3_6 N) (.cons (t3_7 N) (.cons (t3_8 N) (.cons (t3_9 N) .nil))))))
end U
open U in
structure UBase (P : Pg) (N : GN) : Prop where
  h2 : Has P (N.i 2) (b2 N) 2 5
  h3 : Has P (N.i 3) (b3 N) 2 5
end PyI

set_option maxRecDepth 100000
namespace PyI
namespace U
def t227_0 (N : GN) : Stm := .sfld (.var 0) 66 [(N.c 13)] (.dnewT)
def t227_1 (N : GN) : Stm := .sfld (.var 0) 67 [(N.c 13)] (.lst (.cons (.con (.non)) .nil))
def b227 (N : GN) : Sts := .cons (t227_0 N) (.cons (t227_1 N) .nil)
def t228_1 (N : GN) : Stm := .ssub (.fld (.var 0) 66 [(N.c 13)]) (.var 1) (.blt .len (.cons (.fld (.var 0) 67 [(N.c 13)]) .nil))
def t228_2 (N : GN) : Stm := .expr (.bmt .append (.fld (.var 0) 67 [(N.c 13)]) (.cons (.var 1) .nil))
def t228_0 (N : GN) : Stm := .ite (.cmp .notin (.var 1) (.fld (.var 0) 66 [(N.c 13)])) (.cons (t228_1 N) (.cons (t228_2 N) .nil)) (.nil)
def t228_3 (N : GN) : Stm := .ret (.idx (.fld (.var 0) 66 [(N.c 13)]) (.var 1))
def b228 (N : GN) : Sts := .cons (t228_0 N) (.cons (t228_3 N) .nil)
def t229_0 (N : GN) : Stm := .ret (.meth (.var 0) 68 [((N.c 13), (N.i 228))] (.cons (.tup (.cons (.con (.str [108, 101, 97, 102])) (.cons (.var 1) .nil))) .nil))
def b229 (N : GN) : Sts := .cons (t229_0 N) .nil
def t230_0 (N : GN) : Stm := .ret (.meth (.var 0) 68 [((N.c 13), (N.i 228))] (.cons (.tup (.cons (.con (.str [112, 97, 105, 114])) (.cons (.var 1) (.cons (.var 2) .nil)))) .nil))
def b230 (N : GN) : Sts := .cons (t230_0 N) .nil
def t231_1 (N : GN) : Stm := .ret (.con (.non))
def t231_0 (N : GN) : Stm := .ite (.bnot (.chain .lt .lt (.con (.int 0)) (.var 1) (.blt .len (.cons (.fld (.var 0) 67 [(N.c 13)]) .nil)))) (.cons (t231_1 N) .nil) (.nil)
def t231_2 (N : GN) : Stm := .ret (.idx (.fld (.var 0) 67 [(N.c 13)]) (.var 1))
def b231 (N : GN) : Sts := .cons (t231_0 N) (.cons (t231_2 N) .nil)
def t232_0 (N : GN) : Stm := .ret (.bin .sub (.blt .len (.cons (.fld (.var 0) 67 [(N.c 13)]) .nil)) (.con (.int 1)))
def b232 (N : GN) : Sts := .cons (t232_0 N) .nil
end U
open U in
structure UHou (P : Pg) (N : GN) : Prop where
  h227 : Has P (N.i 227) (b227 N) 1 1
  k13 : P.T.ini (N.c 13) = some (N.i 227)
  h228 : Has P (N.i 228) (b228 N) 2 2
  h229 : Has P (N.i 229) (b229 N) 2 2
  h230 : Has P (N.i 230) (b230 N) 3 3
  h231 : Has P (N.i 231) (b231 N) 2 2
  h232 : Has P (N.i 232) (b232 N) 1 1
end PyI

set_option maxRecDepth 100000
namespace PyI
namespace U
def t242_0 (N : GN) : Stm := .set (.nm 4) (.call (N.i 240) (.cons (.var 0) (.cons (.var 1) (.cons (.var 2) (.cons (.var 3) .nil)))))
def t242_2 (N : GN) : Stm := .ret (.con (.non))
def t242_1 (N : GN) : Stm := .ite (.cmp .isN (.var 4) (.con (.non))) (.cons (t242_2 N) .nil) (.nil)
def t242_3 (N : GN) : Stm := .ret (.tup (.cons (.idx (.var 4) (.con (.int 0))) (.cons (.trev (.idx (.var 4) (.con (.int 1)))) .nil)))
def b242 (N : GN) : Sts := .cons (t242_0 N) (.cons (t242_1 N) (.cons (t242_3 N) .nil))
end U
open U in
structure UPat (P : Pg) (N : GN) : Prop where
  h242 : Has P (N.i 242) (b242 N) 4 5
end PyI

set_option maxRecDepth 100000
namespace PyI
namespace U
def t244_0 (N : GN) : Stm := .set (.nm 5) (.call (N.i 242) (.cons (.var 0) (.cons (.var 1) (.cons (.var 2) (.cons (.var 3) .nil)))))
def t244_2 (N : GN) : Stm := .ret (.con (.non))
def t244_1 (N : GN) : Stm := .ite (.cmp .isN (.var 5) (.con (.non))) (.cons (t244_2 N) .nil) (.nil)
def t244_3 (N : GN) : Stm := .ret (.idx (.call (N.i 243) (.cons (.var 0) (.cons (.var 2) (.cons (.var 3) (.cons (.var 4) (.cons (.idx (.var 5) (.con (.int 1))) .nil)))))) (.var 2))
def b244 (N : GN) : Sts := .cons (t244_0 N) (.cons (t244_1 N) (.cons (t244_3 N) .nil))
end U
open U in
structure UPut (P : Pg) (N : GN) : Prop where
  h244 : Has P (N.i 244) (b244 N) 5 6
end PyI

set_option maxRecDepth 100000
namespace PyI
namespace U
def t243_0 (N : GN) : Stm := .set (.nm 5) (.lst (.cons (.meth (.var 0) 69 [((N.c 13), (N.i 229))] (.cons (.var 3) .nil)) .nil))
def t243_3 (N : GN) : Stm := .expr (.bmt .append (.var 5) (.cons (.meth (.var 0) 70 [((N.c 13), (N.i 230))] (.cons (.idx (.var 5) (.var 6)) (.cons (.idx (.var 4) (.var 6)) .nil))) .nil))
def t243_4 (N : GN) : Stm := .expr (.bmt .append (.var 5) (.cons (.meth (.var 0) 70 [((N.c 13), (N.i 230))] (.cons (.idx (.var 4) (.var 6)) (.cons (.idx (.var 5) (.var 6)) .nil))) .nil))
def t243_2 (N : GN) : Stm := .ite (.cmp .eq (.bin .mod (.bin .shr (.var 2) (.var 6)) (.con (.int 2))) (.con (.int 0))) (.cons (t243_3 N) .nil) (.cons (t243_4 N) .nil)
def t243_1 (N : GN) : Stm := .for (.nm 6) (.rng1 (.var 1)) (.cons (t243_2 N) .nil)
def t243_5 (N : GN) : Stm := .ret (.var 5)
def b243 (N : GN) : Sts := .cons (t243_0 N) (.cons (t243_1 N) (.cons (t243_5 N) .nil))
end U
open U in
structure URai (P : Pg) (N : GN) : Prop where
  h243 : Has P (N.i 243) (b243 N) 5 7
end PyI

set_option maxRecDepth 100000
namespace PyI
namespace U
def t233_0 (N : GN) : Stm := .ret (.idx (.lst (.cons (.call (N.i 3) (.cons (.var 0) (.cons (.con (.int 3)) .nil))) (.cons (.bin .sub (.bin .sub (.con (.int 4294967296)) (.con (.int 1))) (.call (N.i 3) (.cons (.var 0) (.cons (.con (.int 3)) .nil)))) (.cons (.call (N.i 3) (.cons (.var 0) (.cons (.con (.int 4294967296)) .nil))) .nil)))) (.call (N.i 3) (.cons (.var 0) (.cons (.con (.int 3)) .nil))))
def b233 (N : GN) : Sts := .cons (t233_0 N) .nil
def t234_0 (N : GN) : Stm := .set (.nm 2) (.lc [3] (.nm 3) (.rng1 (.bin .add (.con (.int 1)) (.call (N.i 3) (.cons (.var 0) (.cons (.con (.int 4)) .nil))))) .no (.call (N.i 233) (.cons (.var 0) .nil)))
def t234_1 (N : GN) : Stm := .set (.nm 4) (.lc [3] (.nm 3) (.rng1 (.bin .shl (.con (.int 1)) (.var 1))) .no (.idx (.var 2) (.call (N.i 3) (.cons (.var 0) (.cons (.blt .len (.cons (.var 2) .nil)) .nil)))))
def t234_2 (N : GN) : Stm := .set (.nm 5) (.call (N.i 3) (.cons (.var 0) (.cons (.con (.int 4)) .nil)))
def t234_4 (N : GN) : Stm := .set (.nm 4) (.bin .mul (.slc (.var 4) .no (.ya (.bin .fdiv (.bin .shl (.con (.int 1)) (.var 1)) (.con (.int 2))))) (.con (.int 2)))
def t234_3 (N : GN) : Stm := .ite (.band (.cmp .gt (.var 1) (.con (.int 0))) (.cmp .eq (.var 5) (.con (.int 0)))) (.cons (t234_4 N) .nil) (.nil)
def t234_6 (N : GN) : Stm := .set (.nm 4) (.lc [3] (.nm 3) (.rng1 (.bin .shl (.con (.int 1)) (.var 1))) .no (.bin .mod (.bin .add (.idx (.var 2) (.con (.int 0))) (.bin .mul (.con (.int 5)) (.var 3))) (.con (.int 4294967296))))
def t234_5 (N : GN) : Stm := .ite (.cmp .eq (.var 5) (.con (.int 1))) (.cons (t234_6 N) .nil) (.nil)
def t234_7 (N : GN) : Stm := .ret (.blt .tuple (.cons (.var 4) .nil))
def b234 (N : GN) : Sts := .cons (t234_0 N) (.cons (t234_1 N) (.cons (t234_2 N) (.cons (t234_3 N) (.cons (t234_5 N) (.cons (t234_7 N) .nil)))))
end U
open U in
structure URow (P : Pg) (N : GN) : Prop where
  h233 : Has P (N.i 233) (b233 N) 1 1
  h234 : Has P (N.i 234) (b234 N) 2 6
end PyI

set_option maxRecDepth 100000
namespace PyI
namespace U
def t226_0 (N : GN) : Stm := .set (.nm 2) (.lc [3] (.nm 3) (.seq (.var 1)) .no (.meth (.var 0) 69 [((N.c 13), (N.i 229))] (.cons (.var 3) .nil)))
def t226_2 (N : GN) : Stm := .set (.nm 2) (.lc [4] (.nm 4) (.rngT (.con (.int 0)) (.blt .len (.cons (.var 2) .nil))) .no (.meth (.var 0) 70 [((N.c 13), (N.i 230))] (.cons (.idx (.var 2) (.var 4)) (.cons (.idx (.var 2) (.bin .add (.var 4) (.con (.int 1)))) .nil))))
def t226_1 (N : GN) : Stm := .whl (.cmp .gt (.blt .len (.cons (.var 2) .nil)) (.con (.int 1))) (.cons (t226_2 N) .nil)
def t226_3 (N : GN) : Stm := .ret (.idx (.var 2) (.con (.int 0)))
def b226 (N : GN) : Sts := .cons (t226_0 N) (.cons (t226_1 N) (.cons (t226_3 N) .nil))
end U
open U in
structure USea (P : Pg) (N : GN) : Prop where
  h226 : Has P (N.i 226) (b226 N) 2 5
end PyI

set_option maxRecDepth 100000
namespace PyI
namespace U
def t245_1 (N : GN) : Stm := .ret (.meth (.var 0) 69 [((N.c 13), (N.i 229))] (.cons (.idx (.var 1) (.con (.int 0))) .nil))
def t245_0 (N : GN) : Stm := .ite (.cmp .eq (.blt .len (.cons (.var 1) .nil)) (.con (.int 1))) (.cons (t245_1 N) .nil) (.nil)
def t245_2 (N : GN) : Stm := .set (.nm 2) (.bin .fdiv (.blt .len (.cons (.var 1) .nil)) (.con (.int 2)))
def t245_3 (N : GN) : Stm := .set (.nm 3) (.call (N.i 245) (.cons (.var 0) (.cons (.slc (.var 1) .no (.ya (.var 2))) .nil)))
def t245_4 (N : GN) : Stm := .ret (.meth (.var 0) 70 [((N.c 13), (N.i 230))] (.cons (.var 3) (.cons (.call (N.i 245) (.cons (.var 0) (.cons (.slc (.var 1) (.ya (.var 2)) .no) .nil))) .nil)))
def b245 (N : GN) : Sts := .cons (t245_0 N) (.cons (t245_2 N) (.cons (t245_3 N) (.cons (t245_4 N) .nil)))
end U
open U in
structure USel (P : Pg) (N : GN) : Prop where
  h245 : Has P (N.i 245) (b245 N) 2 4
end PyI

set_option maxRecDepth 100000
namespace PyI
namespace U
def t240_1 (N : GN) : Stm := .ret (.con (.non))
def t240_0 (N : GN) : Stm := .ite (.bnot (.chain .le .lt (.con (.int 0)) (.var 3) (.bin .shl (.con (.int 1)) (.var 2)))) (.cons (t240_1 N) .nil) (.nil)
def t240_2 (N : GN) : Stm := .set (.nm 4) (.lst (.nil))
def t240_4 (N : GN) : Stm := .set (.nm 6) (.meth (.var 0) 71 [((N.c 13), (N.i 231))] (.cons (.var 1) .nil))
def t240_6 (N : GN) : Stm := .ret (.con (.non))
def t240_5 (N : GN) : Stm := .ite (.bor (.cmp .isN (.var 6) (.con (.non))) (.cmp .ne (.idx (.var 6) (.con (.int 0))) (.con (.str [112, 97, 105, 114])))) (.cons (t240_6 N) .nil) (.nil)
def t240_7 (N : GN) : Stm := .set (.nm 7) (.bin .mod (.bin .shr (.var 3) (.var 5)) (.con (.int 2)))
def t240_8 (N : GN) : Stm := .expr (.bmt .append (.var 4) (.cons (.idx (.var 6) (.bin .sub (.con (.int 2)) (.var 7))) .nil))
def t240_9 (N : GN) : Stm := .set (.nm 1) (.idx (.var 6) (.bin .add (.con (.int 1)) (.var 7)))
def t240_3 (N : GN) : Stm := .for (.nm 5) (.rngD (.bin .sub (.var 2) (.con (.int 1))) (.con (.int (-1)))) (.cons (t240_4 N) (.cons (t240_5 N) (.cons (t240_7 N) (.cons (t240_8 N) (.cons (t240_9 N) .nil)))))
def t240_10 (N : GN) : Stm := .set (.nm 6) (.meth (.var 0) 71 [((N.c 13), (N.i 231))] (.cons (.var 1) .nil))
def t240_12 (N : GN) : Stm := .ret (.con (.non))
def t240_11 (N : GN) : Stm := .ite (.bor (.cmp .isN (.var 6) (.con (.non))) (.cmp .ne (.idx (.var 6) (.con (.int 0))) (.con (.str [108, 101, 97, 102])))) (.cons (t240_12 N) .nil) (.nil)
def t240_13 (N : GN) : Stm := .ret (.tup (.cons (.idx (.var 6) (.con (.int 1))) (.cons (.var 4) .nil)))
def b240 (N : GN) : Sts := .cons (t240_0 N) (.cons (t240_2 N) (.cons (t240_3 N) (.cons (t240_10 N) (.cons (t240_11 N) (.cons (t240_13 N) .nil)))))
end U
open U in
structure UWay (P : Pg) (N : GN) : Prop where
  h240 : Has P (N.i 240) (b240 N) 4 8
end PyI

set_option maxRecDepth 100000
namespace PyI
namespace U
def t241_0 (N : GN) : Stm := .set (.nm 4) (.call (N.i 240) (.cons (.var 0) (.cons (.var 1) (.cons (.var 2) (.cons (.var 3) .nil)))))
def t241_2 (N : GN) : Stm := .ret (.con (.non))
def t241_1 (N : GN) : Stm := .ite (.cmp .isN (.var 4) (.con (.non))) (.cons (t241_2 N) .nil) (.nil)
def t241_3 (N : GN) : Stm := .ret (.idx (.var 4) (.con (.int 0)))
def b241 (N : GN) : Sts := .cons (t241_0 N) (.cons (t241_1 N) (.cons (t241_3 N) .nil))
end U
open U in
structure UWor (P : Pg) (N : GN) : Prop where
  h241 : Has P (N.i 241) (b241 N) 4 5
end PyI

set_option maxRecDepth 100000
set_option maxHeartbeats 0
namespace K23
open PySem PySem.Spec PyProof.Rows L2 PyI
def top (i : Nat) : Stmt := PySem.Challenge.pw_stepcourt_k23_opened_by_paths.main.body.getD i (.Pass ⟨0, 0, 0, 0⟩)
def inCls (s : Stmt) (j : Nat) : Stmt := match s with
  | .ClassDef (body := b) .. => b.getD j (.Pass ⟨0, 0, 0, 0⟩)
  | _ => .Pass ⟨0, 0, 0, 0⟩
def N : GN := ⟨fun i => (([(226, 0), (240, 1), (241, 2), (242, 3), (243, 4), (244, 5), (227, 6), (228, 7), (229, 8), (230, 9), (231, 10), (232, 11), (2, 12), (3, 13), (233, 14), (234, 15), (245, 16), (246, 17), (247, 18), (248, 19), (249, 20), (633, 21), (634, 22)] : List (Nat × Nat)).lookup i).getD 9999, fun i => (([(13, 0)] : List (Nat × Nat)).lookup i).getD 9999⟩
abbrev s0 : Stmt := top 1
def f0 : FnI := ⟨⟨("seal_of", none), "seal_of", "seal_of", defArgs s0, defBody s0, defScope s0, [], []⟩, ["house", "words"], ["house", "words", "level", "word", "j"], (U.b226 N)⟩
abbrev s1 : Stmt := top 2
def f1 : FnI := ⟨⟨("way_down", none), "way_down", "way_down", defArgs s1, defBody s1, defScope s1, [], []⟩, ["house", "seal", "depth", "k"], ["house", "seal", "depth", "k", "beside", "j", "thing", "side"], (U.b240 N)⟩
abbrev s2 : Stmt := top 3
def f2 : FnI := ⟨⟨("word_in", none), "word_in", "word_in", defArgs s2, defBody s2, defScope s2, [], []⟩, ["house", "seal", "depth", "k"], ["house", "seal", "depth", "k", "found"], (U.b241 N)⟩
abbrev s3 : Stmt := top 4
def f3 : FnI := ⟨⟨("path_in", none), "path_in", "path_in", defArgs s3, defBody s3, defScope s3, [], []⟩, ["house", "seal", "depth", "k"], ["house", "seal", "depth", "k", "found"], (U.b242 N)⟩
abbrev s4 : Stmt := top 5
def f4 : FnI := ⟨⟨("raised", none), "raised", "raised", defArgs s4, defBody s4, defScope s4, [], []⟩, ["house", "depth", "k", "word", "siblings"], ["house", "depth", "k", "word", "siblings", "found", "j"], (U.b243 N)⟩
abbrev s5 : Stmt := top 6
def f5 : FnI := ⟨⟨("put_in", none), "put_in", "put_in", defArgs s5, defBody s5, defScope s5, [], []⟩, ["house", "seal", "depth", "k", "word"], ["house", "seal", "depth", "k", "word", "path"], (U.b244 N)⟩
abbrev s6 : Stmt := inCls (top 8) 0
def f6 : FnI := ⟨⟨("House", some "__init__"), "__init__", "House.__init__", defArgs s6, defBody s6, defScope s6, [], []⟩, ["self"], ["self"], (U.b227 N)⟩
abbrev s7 : Stmt := inCls (top 8) 1
def f7 : FnI := ⟨⟨("House", some "given"), "given", "House.given", defArgs s7, defBody s7, defScope s7, [], []⟩, ["self", "thing"], ["self", "thing"], (U.b228 N)⟩
abbrev s8 : Stmt := inCls (top 8) 2
def f8 : FnI := ⟨⟨("House", some "leaf"), "leaf", "House.leaf", defArgs s8, defBody s8, defScope s8, [], []⟩, ["self", "word"], ["self", "word"], (U.b229 N)⟩
abbrev s9 : Stmt := inCls (top 8) 3
def f9 : FnI := ⟨⟨("House", some "pair"), "pair", "House.pair", defArgs s9, defBody s9, defScope s9, [], []⟩, ["self", "one", "other"], ["self", "one", "other"], (U.b230 N)⟩
abbrev s10 : Stmt := inCls (top 8) 4
def f10 : FnI := ⟨⟨("House", some "opened"), "opened", "House.opened", defArgs s10, defBody s10, defScope s10, [], []⟩, ["self", "seal"], ["self", "seal"], (U.b231 N)⟩
abbrev s11 : Stmt := inCls (top 8) 5
def f11 : FnI := ⟨⟨("House", some "many"), "many", "House.many", defArgs s11, defBody s11, defScope s11, [], []⟩, ["self"], ["self"], (U.b232 N)⟩
abbrev s12 : Stmt := top 10
def f12 : FnI := ⟨⟨("_law_deal", none), "_law_deal", "_law_deal", defArgs s12, defBody s12, defScope s12, [], []⟩, ["_law_script", "_law_base"], ["_law_script", "_law_base", "_law_some", "_law_one", "_law_number"], (U.b2 N)⟩
abbrev s13 : Stmt := top 11
def f13 : FnI := ⟨⟨("_law_draw", none), "_law_draw", "_law_draw", defArgs s13, defBody s13, defScope s13, [], []⟩, ["_law_deal_here", "_law_many"], ["_law_deal_here", "_law_many", "_law_number", "_law_one", "_law_other"], (U.b3 N)⟩
abbrev s14 : Stmt := top 12
def f14 : FnI := ⟨⟨("_law_word", none), "_law_word", "_law_word", defArgs s14, defBody s14, defScope s14, [], []⟩, ["_law_deal_here"], ["_law_deal_here"], (U.b233 N)⟩
abbrev s15 : Stmt := top 13
def f15 : FnI := ⟨⟨("_law_row", none), "_law_row", "_law_row", defArgs s15, defBody s15, defScope s15, [], []⟩, ["_law_deal_here", "_law_depth"], ["_law_deal_here", "_law_depth", "_law_few", "_law_k", "_law_found", "_law_form"], (U.b234 N)⟩
abbrev s16 : Stmt := top 14
def f16 : FnI := ⟨⟨("_law_seal", none), "_law_seal", "_law_seal", defArgs s16, defBody s16, defScope s16, [], []⟩, ["_law_house", "_law_words"], ["_law_house", "_law_words", "_law_half", "_law_one"], (U.b245 N)⟩
abbrev s17 : Stmt := top 15
def t246_0 : Stm := .set (.nm 4) (.lst (.nil))
def t246_2 : Stm := .set (.nm 6) (.bin .shl (.con (.int 1)) (.var 5))
def t246_3 : Stm := .set (.nm 7) (.bin .mul (.bin .xor (.bin .fdiv (.var 3) (.var 6)) (.con (.int 1))) (.var 6))
def t246_4 : Stm := .expr (.bmt .append (.var 4) (.cons (.call (N.i 245) (.cons (.var 0) (.cons (.slc (.var 1) (.ya (.var 7)) (.ya (.bin .add (.var 7) (.var 6)))) .nil))) .nil))
def t246_1 : Stm := .for (.nm 5) (.rng1 (.var 2)) (.cons t246_2 (.cons t246_3 (.cons t246_4 .nil)))
def t246_5 : Stm := .ret (.blt .tuple (.cons (.var 4) .nil))
def b246 : Sts := .cons t246_0 (.cons t246_1 (.cons t246_5 .nil))
def f17 : FnI := ⟨⟨("_law_siblings", none), "_law_siblings", "_law_siblings", defArgs s17, defBody s17, defScope s17, [], []⟩, ["_law_house", "_law_words", "_law_depth", "_law_k"], ["_law_house", "_law_words", "_law_depth", "_law_k", "_law_found", "_law_j", "_law_wide", "_law_at"], b246⟩
abbrev s18 : Stmt := top 16
def t247_1 : Stm := .ret (.con (.bl false))
def t247_0 : Stm := .ite (.bor (.cmp .notN (.call (N.i 241) (.cons (.var 0) (.cons (.var 1) (.cons (.var 2) (.cons (.var 3) .nil))))) (.con (.non))) (.cmp .notN (.call (N.i 242) (.cons (.var 0) (.cons (.var 1) (.cons (.var 2) (.cons (.var 3) .nil))))) (.con (.non)))) (.cons t247_1 .nil) (.nil)
def t247_2 : Stm := .ret (.cmp .isN (.call (N.i 244) (.cons (.var 0) (.cons (.var 1) (.cons (.var 2) (.cons (.var 3) (.cons (.con (.int 5)) .nil)))))) (.con (.non)))
def b247 : Sts := .cons t247_0 (.cons t247_2 .nil)
def f18 : FnI := ⟨⟨("_law_none", none), "_law_none", "_law_none", defArgs s18, defBody s18, defScope s18, [], []⟩, ["_law_house", "_law_seal_here", "_law_depth", "_law_k"], ["_law_house", "_law_seal_here", "_law_depth", "_law_k"], b247⟩
abbrev s19 : Stmt := top 17
def t248_1 : Stm := .set (.nm 3) (.call (N.i 233) (.cons (.var 0) .nil))
def t248_2 : Stm := .ret (.tup (.cons (.con (.str [108, 101, 97, 102])) (.cons (.meth (.var 1) 69 [((N.c 13), (N.i 229))] (.cons (.var 3) .nil)) (.cons (.var 3) .nil))))
def t248_0 : Stm := .ite (.bor (.cmp .eq (.var 2) (.con (.int 0))) (.cmp .eq (.call (N.i 3) (.cons (.var 0) (.cons (.con (.int 3)) .nil))) (.con (.int 0)))) (.cons t248_1 (.cons t248_2 .nil)) (.nil)
def t248_3 : Stm := .set (.nm 4) (.call (N.i 248) (.cons (.var 0) (.cons (.var 1) (.cons (.bin .sub (.var 2) (.con (.int 1))) .nil))))
def t248_4 : Stm := .set (.nm 5) (.call (N.i 248) (.cons (.var 0) (.cons (.var 1) (.cons (.bin .sub (.var 2) (.con (.int 1))) .nil))))
def t248_5 : Stm := .ret (.tup (.cons (.con (.str [112, 97, 105, 114])) (.cons (.meth (.var 1) 70 [((N.c 13), (N.i 230))] (.cons (.idx (.var 4) (.con (.int 1))) (.cons (.idx (.var 5) (.con (.int 1))) .nil))) (.cons (.var 4) (.cons (.var 5) .nil)))))
def b248 : Sts := .cons t248_0 (.cons t248_3 (.cons t248_4 (.cons t248_5 .nil)))
def f19 : FnI := ⟨⟨("_law_uneven", none), "_law_uneven", "_law_uneven", defArgs s19, defBody s19, defScope s19, [], []⟩, ["_law_deal_here", "_law_house", "_law_far"], ["_law_deal_here", "_law_house", "_law_far", "_law_word_here", "_law_one", "_law_other"], b248⟩
abbrev s20 : Stmt := top 18
def t249_0 : Stm := .set (.nm 3) (.tup (.nil))
def t249_3 : Stm := .ret (.con (.non))
def t249_2 : Stm := .ite (.cmp .ne (.idx (.var 0) (.con (.int 0))) (.con (.str [112, 97, 105, 114]))) (.cons t249_3 .nil) (.nil)
def t249_4 : Stm := .set (.nm 5) (.bin .mod (.bin .shr (.var 2) (.var 4)) (.con (.int 2)))
def t249_5 : Stm := .set (.nm 3) (.bin .add (.tup (.cons (.idx (.idx (.var 0) (.bin .sub (.con (.int 3)) (.var 5))) (.con (.int 1))) .nil)) (.var 3))
def t249_6 : Stm := .set (.nm 0) (.idx (.var 0) (.bin .add (.con (.int 2)) (.var 5)))
def t249_1 : Stm := .for (.nm 4) (.rngD (.bin .sub (.var 1) (.con (.int 1))) (.con (.int (-1)))) (.cons t249_2 (.cons t249_4 (.cons t249_5 (.cons t249_6 .nil))))
def t249_8 : Stm := .ret (.con (.non))
def t249_7 : Stm := .ite (.cmp .ne (.idx (.var 0) (.con (.int 0))) (.con (.str [108, 101, 97, 102]))) (.cons t249_8 .nil) (.nil)
def t249_9 : Stm := .ret (.tup (.cons (.idx (.var 0) (.con (.int 2))) (.cons (.var 3) .nil)))
def b249 : Sts := .cons t249_0 (.cons t249_1 (.cons t249_7 (.cons t249_9 .nil)))
def f20 : FnI := ⟨⟨("_law_way", none), "_law_way", "_law_way", defArgs s20, defBody s20, defScope s20, [], []⟩, ["_law_tree", "_law_depth", "_law_k"], ["_law_tree", "_law_depth", "_law_k", "_law_beside", "_law_j", "_law_side"], b249⟩
abbrev s21 : Stmt := top 19
def t633_0 : Stm := .set (.nm 2) (.tup (.cons (.con (.str [112, 97, 105, 114])) (.cons (.con (.int 0)) (.cons (.call (N.i 248) (.cons (.var 0) (.cons (.var 1) (.cons (.con (.int 3)) .nil)))) (.cons (.call (N.i 248) (.cons (.var 0) (.cons (.var 1) (.cons (.con (.int 5)) .nil)))) .nil)))))
def t633_1 : Stm := .set (.nm 2) (.bin .add (.tup (.cons (.con (.str [112, 97, 105, 114])) (.cons (.meth (.var 1) 70 [((N.c 13), (N.i 230))] (.cons (.idx (.idx (.var 2) (.con (.int 2))) (.con (.int 1))) (.cons (.idx (.idx (.var 2) (.con (.int 3))) (.con (.int 1))) .nil))) .nil))) (.slc (.var 2) (.ya (.con (.int 2))) .no))
def t633_3 : Stm := .set (.nm 4) (.call (N.i 3) (.cons (.var 0) (.cons (.con (.int 7)) .nil)))
def t633_4 : Stm := .set (.nm 5) (.call (N.i 3) (.cons (.var 0) (.cons (.bin .shl (.con (.int 1)) (.var 4)) .nil)))
def t633_5 : Stm := .set (.nm 6) (.call (N.i 249) (.cons (.var 2) (.cons (.var 4) (.cons (.var 5) .nil))))
def t633_7 : Stm := .ret (.con (.bl false))
def t633_6 : Stm := .ite (.bor (.cmp .ne (.call (N.i 242) (.cons (.var 1) (.cons (.idx (.var 2) (.con (.int 1))) (.cons (.var 4) (.cons (.var 5) .nil))))) (.var 6)) (.cmp .ne (.call (N.i 241) (.cons (.var 1) (.cons (.idx (.var 2) (.con (.int 1))) (.cons (.var 4) (.cons (.var 5) .nil))))) (.orv (.var 6) (.lst (.cons (.con (.non)) .nil)) (.con (.int 0))))) (.cons t633_7 .nil) (.nil)
def t633_9 : Stm := .ret (.con (.bl false))
def t633_8 : Stm := .ite (.cmp .ne (.cmp .isN (.call (N.i 244) (.cons (.var 1) (.cons (.idx (.var 2) (.con (.int 1))) (.cons (.var 4) (.cons (.var 5) (.cons (.con (.int 5)) .nil)))))) (.con (.non))) (.cmp .isN (.var 6) (.con (.non)))) (.cons t633_9 .nil) (.nil)
def t633_2 : Stm := .for (.nm 3) (.rng1 (.con (.int 12))) (.cons t633_3 (.cons t633_4 (.cons t633_5 (.cons t633_6 (.cons t633_8 .nil)))))
def t633_10 : Stm := .ret (.con (.bl true))
def b633 : Sts := .cons t633_0 (.cons t633_1 (.cons t633_2 (.cons t633_10 .nil)))
def f21 : FnI := ⟨⟨("_law_uneven_right", none), "_law_uneven_right", "_law_uneven_right", defArgs s21, defBody s21, defScope s21, [], []⟩, ["_law_deal_here", "_law_house"], ["_law_deal_here", "_law_house", "_law_tree", "_law_turn", "_law_depth", "_law_k", "_law_due"], b633⟩
abbrev s22 : Stmt := top 20
def t634_0 : Stm := .set (.nm 1) (.call (N.i 2) (.cons (.var 0) (.cons (.con (.int 0)) .nil)))
def t634_1 : Stm := .set (.nm 2) (.make (N.c 13) (.nil))
def t634_3 : Stm := .expr (.call (N.i 226) (.cons (.var 2) (.cons (.call (N.i 234) (.cons (.var 1) (.cons (.call (N.i 3) (.cons (.var 1) (.cons (.con (.int 5)) .nil))) .nil))) .nil)))
def t634_2 : Stm := .ite (.cmp .eq (.call (N.i 3) (.cons (.var 1) (.cons (.con (.int 2)) .nil))) (.con (.int 0))) (.cons t634_3 .nil) (.nil)
def t634_4 : Stm := .set (.nm 3) (.idx (.lst (.cons (.con (.int 0)) (.cons (.con (.int 1)) (.cons (.con (.int 2)) (.cons (.con (.int 3)) (.cons (.con (.int 5)) (.cons (.con (.int 6)) .nil))))))) (.call (N.i 3) (.cons (.var 1) (.cons (.con (.int 6)) .nil))))
def t634_5 : Stm := .set (.nm 4) (.call (N.i 234) (.cons (.var 1) (.cons (.var 3) .nil)))
def t634_6 : Stm := .set (.nm 5) (.call (N.i 226) (.cons (.var 2) (.cons (.var 4) .nil)))
def t634_7 : Stm := .set (.nm 6) (.meth (.var 2) 72 [((N.c 13), (N.i 232))] (.nil))
def t634_9 : Stm := .set (.nm 8) (.tup (.cons (.idx (.var 4) (.var 7)) (.cons (.call (N.i 246) (.cons (.var 2) (.cons (.var 4) (.cons (.var 3) (.cons (.var 7) .nil))))) .nil)))
def t634_11 : Stm := .ret (.con (.bl false))
def t634_10 : Stm := .ite (.bor (.cmp .ne (.call (N.i 241) (.cons (.var 2) (.cons (.var 5) (.cons (.var 3) (.cons (.var 7) .nil))))) (.idx (.var 4) (.var 7))) (.cmp .ne (.call (N.i 242) (.cons (.var 2) (.cons (.var 5) (.cons (.var 3) (.cons (.var 7) .nil))))) (.var 8))) (.cons t634_11 .nil) (.nil)
def t634_8 : Stm := .for (.nm 7) (.rng1 (.bin .shl (.con (.int 1)) (.var 3))) (.cons t634_9 (.cons t634_10 .nil))
def t634_13 : Stm := .ret (.con (.bl false))
def t634_12 : Stm := .ite (.bor (.cmp .ne (.meth (.var 2) 72 [((N.c 13), (N.i 232))] (.nil)) (.var 6)) (.bnot (.call (N.i 633) (.cons (.var 1) (.cons (.var 2) .nil))))) (.cons t634_13 .nil) (.nil)
def t634_15 : Stm := .set (.nm 10) (.idx (.lst (.cons (.con (.int 0)) (.cons (.con (.int (-1))) (.cons (.bin .add (.bin .pow (.con (.int 10)) (.con (.int 12))) (.call (N.i 3) (.cons (.var 1) (.cons (.bin .pow (.con (.int 10)) (.con (.int 9))) .nil)))) (.cons (.bin .sub (.con (.int 0)) (.call (N.i 3) (.cons (.var 1) (.cons (.bin .pow (.con (.int 10)) (.con (.int 9))) .nil)))) .nil))))) (.call (N.i 3) (.cons (.var 1) (.cons (.con (.int 4)) .nil))))
def t634_16 : Stm := .set (.nm 11) (.call (N.i 3) (.cons (.var 1) (.cons (.con (.int 6)) .nil)))
def t634_18 : Stm := .ret (.con (.bl false))
def t634_17 : Stm := .ite (.bor (.bnot (.call (N.i 247) (.cons (.var 2) (.cons (.var 10) (.cons (.var 11) (.cons (.call (N.i 3) (.cons (.var 1) (.cons (.bin .shl (.con (.int 1)) (.var 11)) .nil))) .nil)))))) (.cmp .notN (.meth (.var 2) 71 [((N.c 13), (N.i 231))] (.cons (.var 10) .nil)) (.con (.non)))) (.cons t634_18 .nil) (.nil)
def t634_19 : Stm := .set (.nm 11) (.blt .min2 (.cons (.con (.int 6)) (.cons (.idx (.lst (.cons (.bin .add (.var 3) (.con (.int 1))) (.cons (.blt .max2 (.cons (.con (.int 0)) (.cons (.bin .sub (.var 3) (.con (.int 1))) .nil))) (.cons (.bin .add (.var 3) (.con (.int 2))) .nil)))) (.call (N.i 3) (.cons (.var 1) (.cons (.con (.int 3)) .nil)))) .nil)))
def t634_21 : Stm := .ret (.con (.bl false))
def t634_20 : Stm := .ite (.band (.cmp .ne (.var 11) (.var 3)) (.bnot (.call (N.i 247) (.cons (.var 2) (.cons (.var 5) (.cons (.var 11) (.cons (.call (N.i 3) (.cons (.var 1) (.cons (.bin .shl (.con (.int 1)) (.var 11)) .nil))) .nil))))))) (.cons t634_21 .nil) (.nil)
def t634_14 : Stm := .for (.nm 9) (.rng1 (.con (.int 6))) (.cons t634_15 (.cons t634_16 (.cons t634_17 (.cons t634_19 (.cons t634_20 .nil)))))
def t634_22 : Stm := .ret (.cmp .eq (.call (N.i 241) (.cons (.var 2) (.cons (.var 5) (.cons (.var 3) (.cons (.con (.int 0)) .nil))))) (.idx (.var 4) (.con (.int 0))))
def b634 : Sts := .cons t634_0 (.cons t634_1 (.cons t634_2 (.cons t634_4 (.cons t634_5 (.cons t634_6 (.cons t634_7 (.cons t634_8 (.cons t634_12 (.cons t634_14 (.cons t634_22 .nil))))))))))
def f22 : FnI := ⟨⟨("law", none), "law", "law", defArgs s22, defBody s22, defScope s22, [], []⟩, ["_law_script"], ["_law_script", "_law_deal_here", "_law_house", "_law_depth", "_law_words", "_law_seal_here", "_law_many", "_law_k", "_law_due", "_law_turn", "_law_number", "_law_deep"], b634⟩
def P : Pg where
  fs := [f0, f1, f2, f3, f4, f5, f6, f7, f8, f9, f10, f11, f12, f13, f14, f15, f16, f17, f18, f19, f20, f21, f22]
  fnn := [some "seal_of", some "way_down", some "word_in", some "path_in", some "raised", some "put_in", none, none, none, none, none, none, some "_law_deal", some "_law_draw", some "_law_word", some "_law_row", some "_law_seal", some "_law_siblings", some "_law_none", some "_law_uneven", some "_law_way", some "_law_uneven_right", some "law"]
  cls := ["House"]
  nms := nmsG
  flds := [(0, 66), (0, 67)]
  dis := [(68, 0, 7), (69, 0, 8), (70, 0, 9), (71, 0, 10), (72, 0, 11)]
  ini := [(0, 6)]
  free := ["len", "list", "max", "min", "range", "reversed", "tuple"]
  glbs := []
def loose : List Str := ["seal_of", "way_down", "word_in", "path_in", "raised", "put_in", "House", "_law_deal", "_law_draw", "_law_word", "_law_row", "_law_seal", "_law_siblings", "_law_none", "_law_uneven", "_law_way", "_law_uneven_right"]
theorem wf : P.wf = true := by kernel_rfl
theorem bnd : AllB P.fs := ⟨fun _ _ _ _ _ _ us hl => match us, hl with | [_, _], _ => rfl, fun _ _ _ _ _ _ us hl => match us, hl with | [_, _, _, _], _ => rfl, fun _ _ _ _ _ _ us hl => match us, hl with | [_, _, _, _], _ => rfl, fun _ _ _ _ _ _ us hl => match us, hl with | [_, _, _, _], _ => rfl, fun _ _ _ _ _ _ us hl => match us, hl with | [_, _, _, _, _], _ => rfl, fun _ _ _ _ _ _ us hl => match us, hl with | [_, _, _, _, _], _ => rfl, fun _ _ _ _ _ _ us hl => match us, hl with | [_], _ => rfl, fun _ _ _ _ _ _ us hl => match us, hl with | [_, _], _ => rfl, fun _ _ _ _ _ _ us hl => match us, hl with | [_, _], _ => rfl, fun _ _ _ _ _ _ us hl => match us, hl with | [_, _, _], _ => rfl, fun _ _ _ _ _ _ us hl => match us, hl with | [_, _], _ => rfl, fun _ _ _ _ _ _ us hl => match us, hl with | [_], _ => rfl, fun _ _ _ _ _ _ us hl => match us, hl with | [_, _], _ => rfl, fun _ _ _ _ _ _ us hl => match us, hl with | [_, _], _ => rfl, fun _ _ _ _ _ _ us hl => match us, hl with | [_], _ => rfl, fun _ _ _ _ _ _ us hl => match us, hl with | [_, _], _ => rfl, fun _ _ _ _ _ _ us hl => match us, hl with | [_, _], _ => rfl, fun _ _ _ _ _ _ us hl => match us, hl with | [_, _, _, _], _ => rfl, fun _ _ _ _ _ _ us hl => match us, hl with | [_, _, _, _], _ => rfl, fun _ _ _ _ _ _ us hl => match us, hl with | [_, _, _], _ => rfl, fun _ _ _ _ _ _ us hl => match us, hl with | [_, _, _], _ => rfl, fun _ _ _ _ _ _ us hl => match us, hl with | [_, _], _ => rfl, fun _ _ _ _ _ _ us hl => match us, hl with | [_], _ => rfl, True.intro⟩
abbrev R : PySem.W.OpenRow := PySem.W.OpenLaw.row PySem.Challenge.rw_stepcourt_k23_opened_by_paths
theorem head (w : World) : HandSHeadRun.RunEq R (PySem.W.view R.prog [20]) (hookP 5 P) (obP 5 P) 2000 loose w := by
  intro os
  kernel_rfl
theorem uBase : UBase P N where
  h2 := ⟨f12, rfl, rfl, rfl, rfl⟩
  h3 := ⟨f13, rfl, rfl, rfl, rfl⟩
theorem uHou : UHou P N where
  h227 := ⟨f6, rfl, rfl, rfl, rfl⟩
  k13 := rfl
  h228 := ⟨f7, rfl, rfl, rfl, rfl⟩
  h229 := ⟨f8, rfl, rfl, rfl, rfl⟩
  h230 := ⟨f9, rfl, rfl, rfl, rfl⟩
  h231 := ⟨f10, rfl, rfl, rfl, rfl⟩
  h232 := ⟨f11, rfl, rfl, rfl, rfl⟩
theorem uPat : UPat P N where
  h242 := ⟨f3, rfl, rfl, rfl, rfl⟩
theorem uPut : UPut P N where
  h244 := ⟨f5, rfl, rfl, rfl, rfl⟩
theorem uRai : URai P N where
  h243 := ⟨f4, rfl, rfl, rfl, rfl⟩
theorem uRow : URow P N where
  h233 := ⟨f14, rfl, rfl, rfl, rfl⟩
  h234 := ⟨f15, rfl, rfl, rfl, rfl⟩
theorem uSea : USea P N where
  h226 := ⟨f0, rfl, rfl, rfl, rfl⟩
theorem uSel : USel P N where
  h245 := ⟨f16, rfl, rfl, rfl, rfl⟩
theorem uWay : UWay P N where
  h240 := ⟨f1, rfl, rfl, rfl, rfl⟩
theorem uWor : UWor P N where
  h241 := ⟨f2, rfl, rfl, rfl, rfl⟩
end K23

set_option maxRecDepth 100000
namespace PyI
namespace U
def t159_0 (N : GN) : Stm := .ret (.bin .add (.blt .len (.cons (.idx (.var 0) (.con (.int 0))) .nil)) (.blt .sum (.cons (.lc [1, 2] (.tp [1, 2]) (.seq (.idx (.var 0) (.con (.int 1)))) .no (.var 2)) .nil)))
def b159 (N : GN) : Sts := .cons (t159_0 N) .nil
def t160_0 (N : GN) : Stm := .ret (.bin .add (.glb "BOXES_AT" (.int 6)) (.call (N.i 159) (.cons (.var 0) .nil)))
def b160 (N : GN) : Sts := .cons (t160_0 N) .nil
def t161_0 (N : GN) : Stm := .ret (.bin .add (.call (N.i 160) (.cons (.var 0) .nil)) (.glb "ROOM" (.int 8)))
def b161 (N : GN) : Sts := .cons (t161_0 N) .nil
def t162_0 (N : GN) : Stm := .set (.nm 1) (.bin .add (.call (N.i 161) (.cons (.var 0) .nil)) (.glb "WAITS" (.int 6)))
def t162_1 (N : GN) : Stm := .set (.nm 2) (.con (.int 0))
def t162_3 (N : GN) : Stm := .set (.nm 2) (.bin .add (.var 2) (.con (.int 1)))
def t162_2 (N : GN) : Stm := .whl (.cmp .lt (.bin .shl (.con (.int 1)) (.var 2)) (.var 1)) (.cons (t162_3 N) .nil)
def t162_4 (N : GN) : Stm := .ret (.var 2)
def b162 (N : GN) : Sts := .cons (t162_0 N) (.cons (t162_1 N) (.cons (t162_2 N) (.cons (t162_4 N) .nil)))
def t163_0 (N : GN) : Stm := .ret (.bin .add (.blt .tuple (.cons (.var 1) .nil)) (.bin .mul (.tup (.cons (.con (.int 0)) .nil)) (.bin .sub (.bin .shl (.con (.int 1)) (.call (N.i 162) (.cons (.var 0) .nil))) (.blt .len (.cons (.var 1) .nil)))))
def b163 (N : GN) : Sts := .cons (t163_0 N) .nil
def t164_0 (N : GN) : Stm := .set (.nm 2) (.lc [3, 4] (.tp [3, 4]) (.seq (.idx (.var 0) (.con (.int 0)))) .no (.var 4))
def t164_1 (N : GN) : Stm := .ret (.bin .add (.blt .list (.cons (.var 1) .nil)) (.slc (.var 2) (.ya (.blt .len (.cons (.var 1) .nil))) .no))
def b164 (N : GN) : Sts := .cons (t164_0 N) (.cons (t164_1 N) .nil)
def t165_0 (N : GN) : Stm := .set (.nm 2) (.bin .mul (.lst (.cons (.con (.int 0)) .nil)) (.bin .sub (.call (N.i 159) (.cons (.var 0) .nil)) (.blt .len (.cons (.idx (.var 0) (.con (.int 0))) .nil))))
def t165_1 (N : GN) : Stm := .ret (.call (N.i 163) (.cons (.var 0) (.cons (.bin .add (.bin .add (.bin .mul (.lst (.cons (.con (.int 0)) .nil)) (.glb "BOXES_AT" (.int 6))) (.call (N.i 164) (.cons (.var 0) (.cons (.var 1) .nil)))) (.var 2)) .nil)))
def b165 (N : GN) : Sts := .cons (t165_0 N) (.cons (t165_1 N) .nil)
end U
open U in
structure ULay (P : Pg) (N : GN) : Prop where
  h159 : Has P (N.i 159) (b159 N) 1 3
  h160 : Has P (N.i 160) (b160 N) 1 1
  h161 : Has P (N.i 161) (b161 N) 1 1
  h162 : Has P (N.i 162) (b162 N) 1 3
  h163 : Has P (N.i 163) (b163 N) 2 2
  h164 : Has P (N.i 164) (b164 N) 2 5
  h165 : Has P (N.i 165) (b165 N) 2 3
end PyI

set_option maxRecDepth 100000
namespace PyI
namespace U
def t5_0 (N : GN) : Stm := .set (.nm 1) (.call (N.i 3) (.cons (.var 0) (.cons (.con (.int 6)) .nil)))
def t5_2 (N : GN) : Stm := .ret (.call (N.i 3) (.cons (.var 0) (.cons (.idx (.lst (.cons (.con (.int 2)) (.cons (.con (.int 5)) (.cons (.con (.int 5)) (.cons (.con (.int 10)) .nil))))) (.var 1)) .nil)))
def t5_1 (N : GN) : Stm := .ite (.cmp .lt (.var 1) (.con (.int 4))) (.cons (t5_2 N) .nil) (.nil)
def t5_3 (N : GN) : Stm := .ret (.idx (.lst (.cons (.call (N.i 3) (.cons (.var 0) (.cons (.con (.int 4294967296)) .nil))) (.cons (.bin .sub (.con (.int 4294967295)) (.call (N.i 3) (.cons (.var 0) (.cons (.con (.int 3)) .nil)))) .nil))) (.bin .sub (.var 1) (.con (.int 4))))
def b5 (N : GN) : Sts := .cons (t5_0 N) (.cons (t5_1 N) (.cons (t5_3 N) .nil))
def t94_0 (N : GN) : Stm := .set (.nm 3) (.call (N.i 3) (.cons (.var 0) (.cons (.con (.int 8)) .nil)))
def t94_3 (N : GN) : Stm := .ret (.tup (.cons (.con (.str [110, 117, 109])) (.cons (.call (N.i 5) (.cons (.var 0) .nil)) .nil)))
def t94_2 (N : GN) : Stm := .ite (.cmp .eq (.call (N.i 3) (.cons (.var 0) (.cons (.con (.int 3)) .nil))) (.con (.int 0))) (.cons (t94_3 N) .nil) (.nil)
def t94_4 (N : GN) : Stm := .ret (.tup (.cons (.con (.str [99, 101, 108, 108])) (.cons (.idx (.idx (.var 1) (.con (.str [99, 101, 108, 108, 115]))) (.call (N.i 3) (.cons (.var 0) (.cons (.blt .len (.cons (.idx (.var 1) (.con (.str [99, 101, 108, 108, 115]))) .nil)) .nil)))) .nil)))
def t94_1 (N : GN) : Stm := .ite (.bor (.cmp .lt (.var 2) (.con (.int 3))) (.cmp .lt (.var 3) (.con (.int 3)))) (.cons (t94_2 N) (.cons (t94_4 N) .nil)) (.nil)
def t94_6 (N : GN) : Stm := .set (.nm 4) (.idx (.idx (.var 1) (.con (.str [114, 111, 119, 115]))) (.call (N.i 3) (.cons (.var 0) (.cons (.blt .len (.cons (.idx (.var 1) (.con (.str [114, 111, 119, 115]))) .nil)) .nil))))
def t94_7 (N : GN) : Stm := .ret (.tup (.cons (.con (.str [97, 116])) (.cons (.var 4) (.cons (.call (N.i 94) (.cons (.var 0) (.cons (.var 1) (.cons (.bin .fdiv (.var 2) (.con (.int 2))) .nil)))) .nil))))
def t94_5 (N : GN) : Stm := .ite (.band (.cmp .eq (.var 3) (.con (.int 3))) (.cmp .gt (.blt .len (.cons (.idx (.var 1) (.con (.str [114, 111, 119, 115]))) .nil)) (.con (.int 0)))) (.cons (t94_6 N) (.cons (t94_7 N) .nil)) (.nil)
def t94_8 (N : GN) : Stm := .set (.nm 5) (.bin .fdiv (.bin .sub (.var 2) (.con (.int 1))) (.con (.int 2)))
def t94_9 (N : GN) : Stm := .set (.nm 6) (.call (N.i 94) (.cons (.var 0) (.cons (.var 1) (.cons (.var 5) .nil))))
def t94_10 (N : GN) : Stm := .ret (.tup (.cons (.con (.str [111, 112])) (.cons (.idx (.con (.str [43, 45, 42, 60, 61])) (.call (N.i 3) (.cons (.var 0) (.cons (.con (.int 5)) .nil)))) (.cons (.var 6) (.cons (.call (N.i 94) (.cons (.var 0) (.cons (.var 1) (.cons (.var 5) .nil)))) .nil)))))
def b94 (N : GN) : Sts := .cons (t94_0 N) (.cons (t94_1 N) (.cons (t94_5 N) (.cons (t94_8 N) (.cons (t94_9 N) (.cons (t94_10 N) .nil)))))
def t95_0 (N : GN) : Stm := .set (.nm 4) (.idx (.idx (.var 1) (.con (.str [99, 101, 108, 108, 115]))) (.call (N.i 3) (.cons (.var 0) (.cons (.blt .len (.cons (.idx (.var 1) (.con (.str [99, 101, 108, 108, 115]))) .nil)) .nil))))
def t95_1 (N : GN) : Stm := .ssub (.var 2) (.con (.int 0)) (.bin .sub (.idx (.var 2) (.con (.int 0))) (.con (.int 1)))
def t95_2 (N : GN) : Stm := .set (.nm 5) (.call (N.i 97) (.cons (.var 0) (.cons (.var 1) (.cons (.var 2) (.cons (.bin .add (.var 3) (.con (.int 1))) .nil)))))
def t95_4 (N : GN) : Stm := .ret (.tup (.cons (.con (.str [119, 104, 105, 108, 101])) (.cons (.call (N.i 94) (.cons (.var 0) (.cons (.var 1) (.cons (.con (.int 5)) .nil)))) (.cons (.var 5) .nil))))
def t95_3 (N : GN) : Stm := .ite (.cmp .eq (.call (N.i 3) (.cons (.var 0) (.cons (.con (.int 4)) .nil))) (.con (.int 0))) (.cons (t95_4 N) .nil) (.nil)
def t95_5 (N : GN) : Stm := .set (.nm 6) (.tup (.cons (.con (.str [115, 101, 116])) (.cons (.var 4) (.cons (.tup (.cons (.con (.str [111, 112])) (.cons (.con (.str [45])) (.cons (.tup (.cons (.con (.str [99, 101, 108, 108])) (.cons (.var 4) .nil))) (.cons (.tup (.cons (.con (.str [110, 117, 109])) (.cons (.con (.int 1)) .nil))) .nil))))) .nil))))
def t95_6 (N : GN) : Stm := .set (.nm 7) (.tup (.cons (.con (.str [111, 112])) (.cons (.con (.str [60])) (.cons (.tup (.cons (.con (.str [99, 101, 108, 108])) (.cons (.var 4) .nil))) (.cons (.tup (.cons (.con (.str [110, 117, 109])) (.cons (.bin .add (.con (.int 1)) (.call (N.i 3) (.cons (.var 0) (.cons (.con (.int 9)) .nil)))) .nil))) .nil)))))
def t95_7 (N : GN) : Stm := .set (.nm 8) (.tup (.cons (.con (.str [115, 101, 116])) (.cons (.var 4) (.cons (.tup (.cons (.con (.str [111, 112])) (.cons (.con (.str [43])) (.cons (.tup (.cons (.con (.str [99, 101, 108, 108])) (.cons (.var 4) .nil))) (.cons (.tup (.cons (.con (.str [110, 117, 109])) (.cons (.con (.int 1)) .nil))) .nil))))) .nil))))
def t95_8 (N : GN) : Stm := .ret (.idx (.lst (.cons (.tup (.cons (.con (.str [119, 104, 105, 108, 101])) (.cons (.tup (.cons (.con (.str [99, 101, 108, 108])) (.cons (.var 4) .nil))) (.cons (.bin .add (.var 5) (.tup (.cons (.var 6) .nil))) .nil)))) (.cons (.tup (.cons (.con (.str [119, 104, 105, 108, 101])) (.cons (.var 7) (.cons (.bin .add (.var 5) (.tup (.cons (.var 8) .nil))) .nil)))) .nil))) (.call (N.i 3) (.cons (.var 0) (.cons (.con (.int 2)) .nil))))
def b95 (N : GN) : Sts := .cons (t95_0 N) (.cons (t95_1 N) (.cons (t95_2 N) (.cons (t95_3 N) (.cons (t95_5 N) (.cons (t95_6 N) (.cons (t95_7 N) (.cons (t95_8 N) .nil)))))))
def t96_0 (N : GN) : Stm := .set (.nm 4) (.call (N.i 3) (.cons (.var 0) (.cons (.con (.int 10)) .nil)))
def t96_2 (N : GN) : Stm := .set (.nm 5) (.call (N.i 97) (.cons (.var 0) (.cons (.var 1) (.cons (.var 2) (.cons (.bin .add (.var 3) (.con (.int 1))) .nil)))))
def t96_3 (N : GN) : Stm := .ret (.tup (.cons (.con (.str [105, 102])) (.cons (.call (N.i 94) (.cons (.var 0) (.cons (.var 1) (.cons (.con (.int 5)) .nil)))) (.cons (.var 5) (.cons (.call (N.i 97) (.cons (.var 0) (.cons (.var 1) (.cons (.var 2) (.cons (.bin .add (.var 3) (.con (.int 1))) .nil))))) .nil)))))
def t96_1 (N : GN) : Stm := .ite (.band (.cmp .eq (.var 4) (.con (.int 0))) (.cmp .lt (.var 3) (.con (.int 3)))) (.cons (t96_2 N) (.cons (t96_3 N) .nil)) (.nil)
def t96_5 (N : GN) : Stm := .ret (.call (N.i 95) (.cons (.var 0) (.cons (.var 1) (.cons (.var 2) (.cons (.var 3) .nil)))))
def t96_4 (N : GN) : Stm := .ite (.band (.cmp .lt (.var 4) (.con (.int 3))) (.cmp .lt (.var 3) (.con (.int 3)))) (.cons (t96_5 N) .nil) (.nil)
def t96_7 (N : GN) : Stm := .ret (.tup (.cons (.con (.str [99, 97, 108, 108])) (.cons (.idx (.idx (.var 1) (.con (.str [100, 101, 102, 115]))) (.call (N.i 3) (.cons (.var 0) (.cons (.blt .len (.cons (.idx (.var 1) (.con (.str [100, 101, 102, 115]))) .nil)) .nil)))) .nil)))
def t96_6 (N : GN) : Stm := .ite (.band (.cmp .lt (.var 4) (.con (.int 6))) (.cmp .gt (.blt .len (.cons (.idx (.var 1) (.con (.str [100, 101, 102, 115]))) .nil)) (.con (.int 0)))) (.cons (t96_7 N) .nil) (.nil)
def t96_9 (N : GN) : Stm := .set (.nm 6) (.idx (.idx (.var 1) (.con (.str [114, 111, 119, 115]))) (.call (N.i 3) (.cons (.var 0) (.cons (.blt .len (.cons (.idx (.var 1) (.con (.str [114, 111, 119, 115]))) .nil)) .nil))))
def t96_10 (N : GN) : Stm := .ret (.tup (.cons (.con (.str [112, 117, 116])) (.cons (.var 6) (.cons (.call (N.i 94) (.cons (.var 0) (.cons (.var 1) (.cons (.con (.int 3)) .nil)))) (.cons (.call (N.i 94) (.cons (.var 0) (.cons (.var 1) (.cons (.con (.int 7)) .nil)))) .nil)))))
def t96_8 (N : GN) : Stm := .ite (.band (.cmp .eq (.var 4) (.con (.int 6))) (.cmp .gt (.blt .len (.cons (.idx (.var 1) (.con (.str [114, 111, 119, 115]))) .nil)) (.con (.int 0)))) (.cons (t96_9 N) (.cons (t96_10 N) .nil)) (.nil)
def t96_11 (N : GN) : Stm := .set (.nm 7) (.idx (.idx (.var 1) (.con (.str [99, 101, 108, 108, 115]))) (.call (N.i 3) (.cons (.var 0) (.cons (.blt .len (.cons (.idx (.var 1) (.con (.str [99, 101, 108, 108, 115]))) .nil)) .nil))))
def t96_12 (N : GN) : Stm := .ret (.tup (.cons (.con (.str [115, 101, 116])) (.cons (.var 7) (.cons (.call (N.i 94) (.cons (.var 0) (.cons (.var 1) (.cons (.idx (.lst (.cons (.con (.int 3)) (.cons (.con (.int 9)) (.cons (.con (.int 20)) .nil)))) (.call (N.i 3) (.cons (.var 0) (.cons (.con (.int 3)) .nil)))) .nil)))) .nil))))
def b96 (N : GN) : Sts := .cons (t96_0 N) (.cons (t96_1 N) (.cons (t96_4 N) (.cons (t96_6 N) (.cons (t96_8 N) (.cons (t96_11 N) (.cons (t96_12 N) .nil))))))
def t97_0 (N : GN) : Stm := .set (.nm 4) (.lst (.nil))
def t97_3 (N : GN) : Stm := .ssub (.var 2) (.con (.int 0)) (.bin .sub (.idx (.var 2) (.con (.int 0))) (.con (.int 1)))
def t97_4 (N : GN) : Stm := .expr (.bmt .append (.var 4) (.cons (.call (N.i 96) (.cons (.var 0) (.cons (.var 1) (.cons (.var 2) (.cons (.var 3) .nil))))) .nil))
def t97_2 (N : GN) : Stm := .ite (.cmp .gt (.idx (.var 2) (.con (.int 0))) (.con (.int 1))) (.cons (t97_3 N) (.cons (t97_4 N) .nil)) (.nil)
def t97_1 (N : GN) : Stm := .for (.nm 5) (.rng1 (.call (N.i 3) (.cons (.var 0) (.cons (.idx (.idx (.lst (.cons (.lst (.cons (.con (.int 5)) (.cons (.con (.int 13)) .nil))) (.cons (.lst (.cons (.con (.int 4)) (.cons (.con (.int 8)) .nil))) (.cons (.lst (.cons (.con (.int 3)) (.cons (.con (.int 6)) .nil))) (.cons (.lst (.cons (.con (.int 3)) (.cons (.con (.int 3)) .nil))) .nil))))) (.var 3)) (.call (N.i 3) (.cons (.var 0) (.cons (.con (.int 2)) .nil)))) .nil)))) (.cons (t97_2 N) .nil)
def t97_5 (N : GN) : Stm := .ret (.blt .tuple (.cons (.var 4) .nil))
def b97 (N : GN) : Sts := .cons (t97_0 N) (.cons (t97_1 N) (.cons (t97_5 N) .nil))
end U
open U in
structure UBld (P : Pg) (N : GN) : Prop where
  h5 : Has P (N.i 5) (b5 N) 1 2
  h94 : Has P (N.i 94) (b94 N) 3 7
  h95 : Has P (N.i 95) (b95 N) 4 9
  h96 : Has P (N.i 96) (b96 N) 4 8
  h97 : Has P (N.i 97) (b97 N) 4 6
end PyI

set_option maxRecDepth 100000
namespace PyI
namespace U
def t166_0 (N : GN) : Stm := .set (.nm 2) (.con (.str [97, 98, 99, 100, 101, 102, 103, 104, 105, 106, 107, 108, 109, 110, 111, 112, 113, 114, 115, 116, 117, 118, 119, 120, 121, 122]))
def t166_1 (N : GN) : Stm := .set (.nm 3) (.bmt .join (.con (.str [])) (.cons (.lc [4] (.nm 4) (.rng1 (.call (N.i 3) (.cons (.var 0) (.cons (.con (.int 5)) .nil)))) .no (.idx (.var 2) (.call (N.i 3) (.cons (.var 0) (.cons (.con (.int 26)) .nil))))) .nil))
def t166_2 (N : GN) : Stm := .set (.nm 5) (.call (N.i 3) (.cons (.var 0) (.cons (.bin .add (.blt .len (.cons (.var 3) .nil)) (.con (.int 1))) .nil)))
def t166_3 (N : GN) : Stm := .set (.nm 6) (.call (N.i 3) (.cons (.var 0) (.cons (.con (.int 26)) .nil)))
def t166_4 (N : GN) : Stm := .set (.nm 7) (.lst (.nil))
def t166_6 (N : GN) : Stm := .set (.nm 8) (.bin .add (.idx (.var 2) (.bin .mod (.bin .add (.var 6) (.bin .mul (.con (.int 7)) (.var 4))) (.con (.int 26)))) (.slc (.var 3) (.ya (.var 5)) .no))
def t166_7 (N : GN) : Stm := .expr (.bmt .append (.var 7) (.cons (.bin .add (.bin .add (.slc (.var 3) .no (.ya (.var 5))) (.var 8)) (.idx (.lst (.cons (.con (.str [])) (.cons (.con (.str [122])) .nil))) (.bin .fdiv (.bin .mod (.var 4) (.con (.int 5))) (.con (.int 4))))) .nil))
def t166_5 (N : GN) : Stm := .for (.nm 4) (.rng1 (.var 1)) (.cons (t166_6 N) (.cons (t166_7 N) .nil))
def t166_8 (N : GN) : Stm := .set (.nm 9) (.lst (.cons (.con (.str [99, 101, 108, 108, 115])) (.cons (.con (.str [100, 101])) (.cons (.con (.str [109, 97, 105, 110, 115])) (.cons (.con (.str [115, 101, 116, 120])) (.cons (.con (.str [101, 110, 100, 115])) (.cons (.con (.str [97, 116, 120])) (.cons (.con (.str [105])) (.cons (.con (.str [99, 97, 108, 108, 115])) .nil)))))))))
def t166_9 (N : GN) : Stm := .set (.nm 10) (.lst (.cons (.con (.str [99, 101, 108, 108])) (.cons (.con (.str [114, 111, 119])) (.cons (.con (.str [100, 101, 102])) (.cons (.con (.str [109, 97, 105, 110])) (.cons (.con (.str [115, 101, 116])) (.cons (.con (.str [112, 117, 116])) .nil)))))))
def t166_10 (N : GN) : Stm := .set (.nm 10) (.bin .add (.var 10) (.lst (.cons (.con (.str [119, 104, 105, 108, 101])) (.cons (.con (.str [105, 102])) (.cons (.con (.str [101, 108, 115, 101])) (.cons (.con (.str [99, 97, 108, 108])) (.cons (.con (.str [101, 110, 100])) (.cons (.con (.str [97, 116])) .nil))))))))
def t166_11 (N : GN) : Stm := .set (.nm 7) (.lc [11] (.nm 11) (.seq (.var 7)) .no (.bin .add (.var 11) (.bin .mul (.con (.str [113])) (.blt .int1 (.cons (.cmp .isin (.var 11) (.var 10)) .nil)))))
def t166_12 (N : GN) : Stm := .set (.nm 11) (.idx (.var 9) (.call (N.i 3) (.cons (.var 0) (.cons (.con (.int 8)) .nil))))
def t166_14 (N : GN) : Stm := .ssub (.var 7) (.call (N.i 3) (.cons (.var 0) (.cons (.var 1) .nil))) (.var 11)
def t166_13 (N : GN) : Stm := .ite (.band (.cmp .eq (.call (N.i 3) (.cons (.var 0) (.cons (.con (.int 3)) .nil))) (.con (.int 1))) (.cmp .notin (.var 11) (.var 7))) (.cons (t166_14 N) .nil) (.nil)
def t166_15 (N : GN) : Stm := .ret (.var 7)
def b166 (N : GN) : Sts := .cons (t166_0 N) (.cons (t166_1 N) (.cons (t166_2 N) (.cons (t166_3 N) (.cons (t166_4 N) (.cons (t166_5 N) (.cons (t166_8 N) (.cons (t166_9 N) (.cons (t166_10 N) (.cons (t166_11 N) (.cons (t166_12 N) (.cons (t166_13 N) (.cons (t166_15 N) .nil))))))))))))
def t167_0 (N : GN) : Stm := .set (.nm 1) (.call (N.i 166) (.cons (.var 0) (.cons (.con (.int 24)) .nil)))
def t167_1 (N : GN) : Stm := .set (.nm 2) (.idx (.lst (.cons (.con (.int 0)) (.cons (.con (.int 6)) .nil))) (.call (N.i 3) (.cons (.var 0) (.cons (.con (.int 2)) .nil))))
def t167_2 (N : GN) : Stm := .set (.nm 3) (.slc (.var 1) .no (.ya (.bin .add (.con (.int 1)) (.call (N.i 3) (.cons (.var 0) (.cons (.con (.int 6)) .nil))))))
def t167_3 (N : GN) : Stm := .set (.nm 4) (.slc (.slc (.var 1) (.ya (.bin .sub (.con (.int 6)) (.var 2))) .no) .no (.ya (.call (N.i 3) (.cons (.var 0) (.cons (.con (.int 4)) .nil)))))
def t167_4 (N : GN) : Stm := .set (.nm 5) (.slc (.slc (.var 1) (.ya (.bin .sub (.con (.int 12)) (.var 2))) .no) .no (.ya (.call (N.i 3) (.cons (.var 0) (.cons (.con (.int 4)) .nil)))))
def t167_5 (N : GN) : Stm := .set (.nm 6) (.dic (.cons (.con (.str [99, 101, 108, 108, 115])) (.cons (.var 3) (.cons (.con (.str [114, 111, 119, 115])) (.cons (.var 4) (.cons (.con (.str [100, 101, 102, 115])) (.cons (.var 5) .nil)))))))
def t167_6 (N : GN) : Stm := .set (.nm 7) (.lst (.cons (.con (.int 14)) .nil))
def t167_7 (N : GN) : Stm := .set (.nm 8) (.lst (.nil))
def t167_9 (N : GN) : Stm := .expr (.bmt .append (.var 8) (.cons (.tup (.cons (.var 9) (.cons (.call (N.i 97) (.cons (.var 0) (.cons (.var 6) (.cons (.var 7) (.cons (.con (.int 1)) .nil))))) .nil))) .nil))
def t167_8 (N : GN) : Stm := .for (.nm 9) (.seq (.var 5)) (.cons (t167_9 N) .nil)
def t167_10 (N : GN) : Stm := .set (.nm 7) (.lst (.cons (.con (.int 22)) .nil))
def t167_11 (N : GN) : Stm := .set (.nm 10) (.call (N.i 97) (.cons (.var 0) (.cons (.var 6) (.cons (.var 7) (.cons (.con (.int 0)) .nil)))))
def t167_13 (N : GN) : Stm := .set (.nm 10) (.tup (.cons (.call (N.i 96) (.cons (.var 0) (.cons (.var 6) (.cons (.var 7) (.cons (.con (.int 0)) .nil))))) .nil))
def t167_12 (N : GN) : Stm := .ite (.cmp .eq (.blt .len (.cons (.var 10) .nil)) (.con (.int 0))) (.cons (t167_13 N) .nil) (.nil)
def t167_14 (N : GN) : Stm := .set (.nm 11) (.blt .tuple (.cons (.lc [12] (.nm 12) (.seq (.var 3)) .no (.tup (.cons (.var 12) (.cons (.call (N.i 5) (.cons (.var 0) .nil)) .nil)))) .nil))
def t167_15 (N : GN) : Stm := .ret (.tup (.cons (.var 11) (.cons (.blt .tuple (.cons (.lc [13] (.nm 13) (.seq (.var 4)) .no (.tup (.cons (.var 13) (.cons (.bin .add (.con (.int 1)) (.call (N.i 3) (.cons (.var 0) (.cons (.con (.int 8)) .nil)))) .nil)))) .nil)) (.cons (.blt .tuple (.cons (.var 8) .nil)) (.cons (.var 10) .nil)))))
def b167 (N : GN) : Sts := .cons (t167_0 N) (.cons (t167_1 N) (.cons (t167_2 N) (.cons (t167_3 N) (.cons (t167_4 N) (.cons (t167_5 N) (.cons (t167_6 N) (.cons (t167_7 N) (.cons (t167_8 N) (.cons (t167_10 N) (.cons (t167_11 N) (.cons (t167_12 N) (.cons (t167_14 N) (.cons (t167_15 N) .nil)))))))))))))
end U
open U in
structure UPrA (P : Pg) (N : GN) : Prop where
  h166 : Has P (N.i 166) (b166 N) 2 12
  h167 : Has P (N.i 167) (b167 N) 1 14
end PyI

set_option maxRecDepth 100000
namespace PyI
namespace U
def t126_0 (N : GN) : Stm := .ret (.blt .tuple (.cons (.lc [2] (.nm 2) (.rng1 (.call (N.i 3) (.cons (.var 0) (.cons (.bin .add (.blt .len (.cons (.idx (.var 1) (.con (.int 0))) .nil)) (.con (.int 1))) .nil)))) .no (.call (N.i 5) (.cons (.var 0) .nil))) .nil))
def b126 (N : GN) : Sts := .cons (t126_0 N) .nil
end U
open U in
structure UNum (P : Pg) (N : GN) : Prop where
  h126 : Has P (N.i 126) (b126 N) 2 3
end PyI

set_option maxRecDepth 100000
namespace PyI
namespace U
def t623_0 (N : GN) : Stm := .ret (.bin .add (.blt .len (.cons (.idx (.var 0) (.con (.int 0))) .nil)) (.blt .sum (.cons (.lc [1, 2] (.tp [1, 2]) (.seq (.idx (.var 0) (.con (.int 1)))) .no (.var 2)) .nil)))
def b623 (N : GN) : Sts := .cons (t623_0 N) .nil
def t168_0 (N : GN) : Stm := .set (.nm 2) (.bin .add (.blt .list (.cons (.var 1) .nil)) (.slc (.lc [3, 4] (.tp [3, 4]) (.seq (.idx (.var 0) (.con (.int 0)))) .no (.var 4)) (.ya (.blt .len (.cons (.var 1) .nil))) .no))
def t168_1 (N : GN) : Stm := .set (.nm 5) (.bin .add (.bin .add (.bin .mul (.lst (.cons (.con (.int 0)) .nil)) (.con (.int 6))) (.var 2)) (.bin .mul (.lst (.cons (.con (.int 0)) .nil)) (.bin .add (.bin .sub (.call (N.i 623) (.cons (.var 0) .nil)) (.blt .len (.cons (.var 2) .nil))) (.con (.int 14)))))
def t168_2 (N : GN) : Stm := .set (.nm 6) (.con (.int 1))
def t168_4 (N : GN) : Stm := .set (.nm 6) (.bin .mul (.con (.int 2)) (.var 6))
def t168_3 (N : GN) : Stm := .whl (.cmp .lt (.var 6) (.blt .len (.cons (.var 5) .nil))) (.cons (t168_4 N) .nil)
def t168_5 (N : GN) : Stm := .ret (.blt .tuple (.cons (.bin .add (.var 5) (.bin .mul (.lst (.cons (.con (.int 0)) .nil)) (.bin .sub (.var 6) (.blt .len (.cons (.var 5) .nil))))) .nil))
def b168 (N : GN) : Sts := .cons (t168_0 N) (.cons (t168_1 N) (.cons (t168_2 N) (.cons (t168_3 N) (.cons (t168_5 N) .nil))))
end U
open U in
structure ULBeg (P : Pg) (N : GN) : Prop where
  h623 : Has P (N.i 623) (b623 N) 1 3
  h168 : Has P (N.i 168) (b168 N) 2 7
end PyI

set_option maxRecDepth 100000
set_option maxHeartbeats 1000000
/-! PyI: == and in, of nested data. -/
namespace PyI
open PySem
/-- data that == tells apart just as they are: n their depth -/
def D.tok : Nat → D → Bool
  | _, .non => true
  | _, .int _ => true
  | _, .str l => PyData.strOk ⟨l.toArray⟩
  | n + 1, .tup l => l.all (D.tok n)
  | _, _ => false
theorem tok_int {n : Nat} {i : Int} : D.tok n (.int i) = true := by cases n <;> rfl
theorem tok_non {n : Nat} : D.tok n .non = true := by cases n <;> rfl
theorem tok_str {n : Nat} {l : List Nat} : D.tok n (.str l) = PyData.strOk ⟨l.toArray⟩ := by cases n <;> rfl
theorem tok_tup {n : Nat} {l : List D} : D.tok (n + 1) (.tup l) = l.all (D.tok n) := rfl
theorem tok_tup0 {l : List D} : D.tok 0 (.tup l) = false := rfl
theorem tok_bl {n : Nat} {b : Bool} : D.tok n (.bl b) = false := by cases n <;> rfl
theorem tok_ref {n : Nat} {b : Nat} : D.tok n (.ref b) = false := by cases n <;> rfl
theorem tok_rol {n : Nat} {t : Bool} {l : List D} : D.tok n (.rol t l) = false := by cases n <;> rfl
theorem tok_succ : ∀ (n : Nat) (d : D), D.tok n d = true → D.tok (n + 1) d = true := by
  intro n
  induction n with
  | zero => intro d h; cases d <;> first | rfl | (simp [D.tok] at h; done) | (rw [tok_str] at h ⊢; exact h)
  | succ n ih =>
    intro d h
    cases d with
    | tup l => rw [tok_tup] at h ⊢; exact List.all_eq_true.mpr fun x hx => ih x (List.all_eq_true.mp h x hx)
    | str l => rw [tok_str] at h ⊢; exact h
    | non => rfl
    | int i => rfl
    | _ => simp [D.tok] at h
theorem tok_le {n m : Nat} (h : n ≤ m) {d : D} (t : D.tok n d = true) : D.tok m d = true := by
  obtain ⟨k, rfl⟩ := Nat.exists_eq_add_of_le h
  clear h
  induction k with
  | zero => exact t
  | succ k ih => exact tok_succ _ _ ih
theorem pys_some {f : Nat → Option PyData} {n : Nat} (h : ∀ d, D.tok n d = true → ∃ p, d.py f = some p ∧ p.canLay0 = true ∧ p.depth ≤ n) : ∀ l : List D, l.all (D.tok n) = true → ∃ ps, D.pys f l = some ps ∧ PyData.canLayAll0 ps = true ∧ PyData.depthAll ps ≤ n
  | [], _ => ⟨[], rfl, rfl, Nat.zero_le _⟩
  | d :: r, t => by
    rw [List.all_cons, Bool.and_eq_true] at t
    obtain ⟨p, a1, a2, a3⟩ := h d t.1
    obtain ⟨ps, b1, b2, b3⟩ := pys_some h r t.2
    refine ⟨p :: ps, ?_, ?_, ?_⟩
    · rw [D.pys, a1]; show ((D.pys f r).map _) = _; rw [b1]; rfl
    · rw [PyData.canLayAll0, a2, b2]; rfl
    · rw [PyData.depthAll]; omega
theorem tok_py (f : Nat → Option PyData) : ∀ (n : Nat) (d : D), D.tok n d = true → ∃ p, d.py f = some p ∧ p.canLay0 = true ∧ p.depth ≤ n := by
  intro n
  induction n with
  | zero =>
    intro d h
    cases d with
    | non => exact ⟨.none, rfl, rfl, Nat.zero_le _⟩
    | int i => exact ⟨.int i, rfl, rfl, Nat.zero_le _⟩
    | str l => exact ⟨.str _, rfl, by rw [PyData.canLay0]; exact h, Nat.zero_le _⟩
    | _ => simp [D.tok] at h
  | succ n ih =>
    intro d h
    cases d with
    | non => exact ⟨.none, rfl, rfl, Nat.zero_le _⟩
    | int i => exact ⟨.int i, rfl, rfl, Nat.zero_le _⟩
    | str l => exact ⟨.str _, rfl, by rw [PyData.canLay0]; exact h, Nat.zero_le _⟩
    | tup l =>
      rw [tok_tup] at h
      obtain ⟨ps, b1, b2, b3⟩ := pys_some ih l h
      refine ⟨.tuple ps, ?_, by rw [PyData.canLay0]; exact b2, by rw [PyData.depth]; omega⟩
      rw [D.py, b1]; rfl
    | _ => simp [D.tok] at h
/-- the data's == -/
theorem eqv_map {f g : Nat → Option PyData} {n : Nat} (h : ∀ a b p q, D.tok n a = true → D.tok n b = true → a.py f = some p → b.py g = some q → PyData.eqv p q = decide (a = b)) : ∀ (l m : List D) (ps qs : List PyData), l.all (D.tok n) = true → m.all (D.tok n) = true → D.pys f l = some ps → D.pys g m = some qs → PyData.eqvAll ps qs = decide (l = m)
  | [], [], ps, qs, _, _, a, b => by cases a; cases b; rfl
  | [], y :: m, ps, qs, _, t, a, b => by
    cases a
    rw [D.pys] at b
    cases hy : y.py g with
    | none => rw [hy] at b; cases b
    | some q =>
      rw [hy] at b
      cases hm : D.pys g m with
      | none => rw [hm] at b; cases b
      | some qs' => rw [hm] at b; cases b; rfl
  | x :: l, [], ps, qs, _, t, a, b => by
    cases b
    rw [D.pys] at a
    cases hy : x.py f with
    | none => rw [hy] at a; cases a
    | some q =>
      rw [hy] at a
      cases hm : D.pys f l with
      | none => rw [hm] at a; cases a
      | some qs' => rw [hm] at a; cases a; rfl
  | x :: l, y :: m, ps, qs, s, t, a, b => by
    rw [List.all_cons, Bool.and_eq_true] at s t
    rw [D.pys] at a b
    cases hx : x.py f with
    | none => rw [hx] at a; cases a
    | some p =>
      rw [hx] at a
      cases hl : D.pys f l with
      | none => rw [hl] at a; cases a
      | some ps' =>
        rw [hl] at a; cases a
        cases hy : y.py g with
        | none => rw [hy] at b; cases b
        | some q =>
          rw [hy] at b
          cases hm : D.pys g m with
          | none => rw [hm] at b; cases b
          | some qs' =>
            rw [hm] at b; cases b
            show PyData.eqvAll (p :: ps') (q :: qs') = _
            rw [PyData.eqvAll, h x y p q s.1 t.1 hx hy, eqv_map h l m ps' qs' s.2 t.2 hl hm]
            by_cases e1 : x = y
            · by_cases e2 : l = m
              · simp [e1, e2]
              · simp [e1, e2]
            · simp [e1]
theorem cps_beq (l m : List Nat) : ((⟨l.toArray⟩ : Str) == ⟨m.toArray⟩) = decide (l = m) := by
  by_cases e : l = m
  · subst e; simp
  · rw [decide_eq_false e]
    apply beq_eq_false_iff_ne.mpr
    intro h
    injection h with h
    exact e (by simpa using h)
theorem tok_eqv (f g : Nat → Option PyData) : ∀ (n : Nat) (a b : D) (p q : PyData), D.tok n a = true → D.tok n b = true → a.py f = some p → b.py g = some q → PyData.eqv p q = decide (a = b) := by
  have flat : ∀ (n : Nat) (a b : D) (p q : PyData), D.tok n a = true → D.tok n b = true → (∀ l, a ≠ .tup l) → a.py f = some p → b.py g = some q → PyData.eqv p q = decide (a = b) := by
    intro n a b p q ha hb hl hp hq
    have ht : ∀ l, b = .tup l → ∃ qs, q = .tuple qs := by
      rintro l rfl
      rw [D.py] at hq
      cases hm : D.pys g l with
      | none => rw [hm] at hq; cases hq
      | some qs => rw [hm] at hq; cases hq; exact ⟨qs, rfl⟩
    cases a with
    | tup l => exact absurd rfl (hl l)
    | bl v => rw [tok_bl] at ha; cases ha
    | ref v => rw [tok_ref] at ha; cases ha
    | rol t v => rw [tok_rol] at ha; cases ha
    | non =>
      cases hp
      cases b with
      | tup l => obtain ⟨qs, rfl⟩ := ht l rfl; rfl
      | bl v => rw [tok_bl] at hb; cases hb
      | ref v => rw [tok_ref] at hb; cases hb
      | rol t v => rw [tok_rol] at hb; cases hb
      | non => cases hq; rfl
      | int i => cases hq; rfl
      | str m => cases hq; rfl
    | int i =>
      cases hp
      cases b with
      | tup l => obtain ⟨qs, rfl⟩ := ht l rfl; rfl
      | bl v => rw [tok_bl] at hb; cases hb
      | ref v => rw [tok_ref] at hb; cases hb
      | rol t v => rw [tok_rol] at hb; cases hb
      | non => cases hq; rfl
      | int j =>
        cases hq
        show (i == j) = _
        by_cases e : i = j
        · subst e; simp
        · rw [decide_eq_false fun h => e (by injection h)]; exact beq_eq_false_iff_ne.mpr e
      | str m => cases hq; rfl
    | str l =>
      cases hp
      cases b with
      | tup l => obtain ⟨qs, rfl⟩ := ht l rfl; rfl
      | bl v => rw [tok_bl] at hb; cases hb
      | ref v => rw [tok_ref] at hb; cases hb
      | rol t v => rw [tok_rol] at hb; cases hb
      | non => cases hq; rfl
      | int j => cases hq; rfl
      | str m =>
        cases hq
        show ((⟨l.toArray⟩ : Str) == ⟨m.toArray⟩) = _
        rw [cps_beq]
        by_cases e : l = m
        · subst e; simp
        · rw [decide_eq_false e, decide_eq_false fun h => e (by injection h)]
  intro n
  induction n with
  | zero => intro a b p q ha hb hp hq; exact flat 0 a b p q ha hb (fun l e => by rw [e] at ha; cases ha) hp hq
  | succ n ih =>
    intro a b p q ha hb hp hq
    cases a with
    | tup l =>
      rw [D.py] at hp
      cases hps : D.pys f l with
      | none => rw [hps] at hp; cases hp
      | some ps =>
        rw [hps] at hp; cases hp
        cases b with
        | tup m =>
          rw [D.py] at hq
          cases hqs : D.pys g m with
          | none => rw [hqs] at hq; cases hq
          | some qs =>
            rw [hqs] at hq; cases hq
            show PyData.eqvAll ps qs = _
            rw [eqv_map ih l m ps qs ha hb hps hqs]
            by_cases e : l = m
            · subst e; simp
            · rw [decide_eq_false e, decide_eq_false fun h => e (by injection h)]
        | bl v => rw [tok_bl] at hb; cases hb
        | ref v => rw [tok_ref] at hb; cases hb
        | rol t v => rw [tok_rol] at hb; cases hb
        | non => cases hq; rfl
        | int j => cases hq; rfl
        | str m => cases hq; rfl
    | _ => exact flat (n + 1) _ b p q ha hb (fun l e => by cases e) hp hq
theorem shaped_tok {f : Nat → Option PyData} {n : Nat} (hn : n ≤ 64) {d : D} (t : D.tok n d = true) : ∃ p, d.py f = some p ∧ SeqAt.shaped p = true := by
  obtain ⟨p, a, b, c⟩ := tok_py f n d t
  exact ⟨p, a, by unfold SeqAt.shaped; rw [b, decide_eq_true (by omega)]; rfl⟩
theorem eqW_tok (n : Nat) (hn : n ≤ 64) {a b : D} {S : Sto} (ha : D.tok n a = true) (hb : D.tok n b = true) : eqW (.d a) (.d b) S = some (decide (a = b)) := by
  unfold eqW
  dsimp only
  by_cases h : scalD a b = true
  · rw [if_pos h]
  · rw [if_neg h]
    obtain ⟨p, p1, p2⟩ := shaped_tok (f := held S 6) hn ha
    obtain ⟨q, q1, q2⟩ := shaped_tok (f := held S 6) hn hb
    unfold eqD
    show (match a.py (held S 6) with | some p => _ | none => none) = _
    rw [p1]
    show (match b.py (held S 6) with | some p => _ | none => none) = _
    rw [q1]
    show (if _ then some (PyData.eqv p q) else none) = _
    rw [if_pos ⟨p2, q2⟩, tok_eqv _ _ n a b p q ha hb p1 q1]
/-- lists -/
theorem lst_py {w : W} {S : Sto} {l : List D} {n : Nat} (hw : lstOf w S = some l) (t : l.all (D.tok n) = true) (hn : n ≤ 63) : ∃ f ps, w.py S = some (.list ps) ∧ D.pys f l = some ps ∧ SeqAt.shaped (.list ps) = true := by
  have key : ∀ f : Nat → Option PyData, ∃ ps, D.pys f l = some ps ∧ SeqAt.shaped (.list ps) = true := fun f => by
    obtain ⟨ps, a, b, c⟩ := pys_some (tok_py f n) l t
    refine ⟨ps, a, ?_⟩
    unfold SeqAt.shaped
    rw [PyData.canLay0, b, PyData.depth, decide_eq_true (by omega)]; rfl
  cases w with
  | o ob =>
    cases ob with
    | lst m =>
      cases hw
      obtain ⟨ps, a, b⟩ := key (held S 6)
      exact ⟨_, ps, by show (D.pys (held S 6) l).map _ = _; rw [a]; rfl, a, b⟩
    | _ => cases hw
  | d x =>
    cases x with
    | rol t' m =>
      cases t' with
      | true => cases hw
      | false =>
        cases hw
        obtain ⟨ps, a, b⟩ := key (held S 6)
        exact ⟨_, ps, by show (D.py (held S 6) _) = _; rw [D.py, a]; rfl, a, b⟩
    | ref r =>
      obtain ⟨ps, a, b⟩ := key (held S 5)
      refine ⟨_, ps, ?_, a, b⟩
      have hr : S[r]? = some (.lst l) := by
        have hw : (match S[r]? with | some (.lst l) => some l | _ => none) = some l := hw
        cases h : S[r]? with
        | none => rw [h] at hw; cases hw
        | some o =>
          rw [h] at hw
          cases o with
          | lst m => cases hw; rfl
          | _ => cases hw
      show D.py (held S 6) (.ref r) = _
      rw [D.py]
      show (match S[r]? with | some (.lst l) => (D.pys (held S 5) l).map PyData.list | _ => none) = _
      rw [hr]
      show (D.pys (held S 5) l).map PyData.list = _
      rw [a]; rfl
    | _ => cases hw
theorem eqW_lst (n : Nat) (hn : n ≤ 63) {w v : W} {l m : List D} {S : Sto} (hw : lstOf w S = some l) (hv : lstOf v S = some m) (hl : l.all (D.tok n) = true) (hm : m.all (D.tok n) = true) : eqW w v S = some (decide (l = m)) := by
  have e : eqW w v S = eqD w v S := by
    unfold eqW
    cases w with
    | o _ => rfl
    | d a =>
      cases v with
      | o _ => rfl
      | d b =>
        dsimp only
        rw [if_neg]
        cases a with
        | ref _ => exact fun h => by cases h
        | rol _ _ => exact fun h => by cases h
        | _ => cases hw
  rw [e]
  obtain ⟨f, ps, a1, a2, a3⟩ := lst_py hw hl hn
  obtain ⟨g, qs, b1, b2, b3⟩ := lst_py hv hm hn
  unfold eqD
  rw [a1]
  show (match v.py S with | some q => _ | none => none) = _
  rw [b1]
  show (if _ then some (PyData.eqv (.list ps) (.list qs)) else none) = _
  rw [if_pos ⟨a3, b3⟩]
  show some (PyData.eqvAll ps qs) = _
  rw [eqv_map (tok_eqv f g n) l m ps qs hl hm a2 b2]
theorem ints_tok (n : Nat) (l : List Int) : (l.map D.int).all (D.tok n) = true := List.all_eq_true.mpr fun x hx => by
  obtain ⟨i, -, rfl⟩ := List.mem_map.mp hx
  exact tok_int
theorem eqW_tups {l m : List Int} {S : Sto} : eqW (.d (.tup (l.map D.int))) (.d (.tup (m.map D.int))) S = some (decide (l = m)) := by
  rw [eqW_tok 1 (by decide) (by rw [tok_tup]; exact ints_tok 0 l) (by rw [tok_tup]; exact ints_tok 0 m)]
  congr 1
  by_cases e : l = m
  · subst e; simp
  · rw [decide_eq_false e, decide_eq_false fun h => ?_]
    injection h with h
    exact e ((List.map_inj_right fun a b (h : D.int a = D.int b) => by injection h).mp h)
theorem eqF_tok {n : Nat} {a b : D} (ha : D.tok n a = true) (hb : D.tok n b = true) (fa : a.flat = true) (fb : b.flat = true) : eqF a b = decide (a = b) := by
  cases a with
  | tup l => cases fa
  | ref v => cases fa
  | rol t v => cases fa
  | bl v => rw [tok_bl] at ha; cases ha
  | non => cases b <;> first | rfl | cases fb
  | int i =>
    cases b with
    | int j =>
      show (i == j) = _
      by_cases e : i = j
      · subst e; simp
      · rw [decide_eq_false fun h => e (by injection h)]; exact beq_eq_false_iff_ne.mpr e
    | bl v => rw [tok_bl] at hb; cases hb
    | non => rfl
    | str m => rfl
    | _ => cases fb
  | str l =>
    cases b with
    | str m =>
      show decide (l = m) = _
      by_cases e : l = m
      · subst e; simp
      · rw [decide_eq_false e, decide_eq_false fun h => e (by injection h)]
    | bl v => rw [tok_bl] at hb; cases hb
    | non => rfl
    | int m => rfl
    | _ => cases fb
/-- in, of lists -/
theorem inLs_tok (n : Nat) (hn : n ≤ 63) {k : D} {l : List D} {S : Sto} (hk : D.tok n k = true) (hl : l.all (D.tok n) = true) : inLs k S l = some (decide (k ∈ l)) := by
  unfold inLs
  by_cases h : k.flat = true ∧ l.all D.flat = true
  · rw [if_pos h]
    congr 1
    rw [Bool.eq_iff_iff, List.any_eq_true, decide_eq_true_eq]
    constructor
    · rintro ⟨x, hx, e⟩
      rw [eqF_tok (List.all_eq_true.mp hl x hx) hk (List.all_eq_true.mp h.2 x hx) h.1, decide_eq_true_eq] at e
      exact e ▸ hx
    · intro hk'
      exact ⟨k, hk', by rw [eqF_tok hk hk h.1 h.1]; simp⟩
  · rw [if_neg h]
    obtain ⟨p, p1, p2, p3⟩ := tok_py (held S 6) n k hk
    obtain ⟨ps, a, b, c⟩ := pys_some (tok_py (held S 6) n) l hl
    rw [p1]
    dsimp only
    rw [a]
    dsimp only
    rw [if_pos ⟨by unfold SeqAt.shaped; rw [p2, decide_eq_true (by omega)]; rfl, by unfold SeqAt.shaped; rw [PyData.canLay0, b, PyData.depth, decide_eq_true (by omega)]; rfl⟩]
    congr 1
    have key : ∀ (l : List D) (ps : List PyData), D.pys (held S 6) l = some ps → l.all (D.tok n) = true → (ps.any fun z => PyData.eqv z p) = decide (k ∈ l) := by
      intro l
      induction l with
      | nil => intro ps a _; cases a; rfl
      | cons x l ih =>
        intro ps a t
        rw [List.all_cons, Bool.and_eq_true] at t
        rw [D.pys] at a
        cases hx : x.py (held S 6) with
        | none => rw [hx] at a; cases a
        | some q =>
          rw [hx] at a
          cases hl : D.pys (held S 6) l with
          | none => rw [hl] at a; cases a
          | some qs =>
            rw [hl] at a; cases a
            rw [List.any_cons, ih qs hl t.2, tok_eqv _ _ n x k q p t.1 hk hx p1]
            by_cases e : x = k
            · subst e; simp
            · simp [e, Ne.symm e]
    exact key l ps a hl
theorem inS_lst (n : Nat) (hn : n ≤ 63) {k : D} {w : W} {l : List D} {S : Sto} (hw : lstOf w S = some l) (ha : askOf w S k = none) (hk : D.tok n k = true) (hl : l.all (D.tok n) = true) : inS (.d k) w S = some (decide (k ∈ l)) := by
  have e : inS (.d k) w S = inOb (.d k) w S := by
    cases w with
    | o _ => rfl
    | d x =>
      cases x with
      | rol t _ => cases t with
        | true => cases hw
        | false => rfl
      | ref _ => rfl
      | _ => cases hw
  rw [e]
  unfold inOb
  dsimp only
  rw [ha]
  dsimp only
  rw [hw]
  exact inLs_tok n hn hk hl
theorem ask_lst {w : W} {S : Sto} {l : List D} (hw : lstOf w S = some l) (k : D) : askOf w S k = none := by
  cases w with
  | o ob =>
    cases ob with
    | lst m => rfl
    | _ => cases hw
  | d x =>
    cases x with
    | ref r =>
      have hw : (match S[r]? with | some (.lst l) => some l | _ => none) = some l := hw
      show (match S[r]? with
        | some (.dK l) => if k.keyK = true then some l else none
        | some (.dT l) => if k.keyT = true then some l else none
        | _ => none) = none
      cases h : S[r]? with
      | none => rfl
      | some o =>
        rw [h] at hw
        cases o with
        | lst m => rfl
        | _ => cases hw
    | _ => rfl
/-- truths -/
theorem eqF_bl (a b : Bool) : eqF (.bl a) (.bl b) = (a == b) := rfl
theorem flat_bls (l : List Bool) : (l.map D.bl).all D.flat = true := List.all_eq_true.mpr fun x hx => by
  obtain ⟨i, -, rfl⟩ := List.mem_map.mp hx
  rfl
theorem in_bls {l : List Bool} {c : Bool} {S : Sto} : inS (.d (.bl c)) (.o (.lst (l.map D.bl))) S = some (l.contains c) := by
  show inLs (.bl c) S (l.map D.bl) = _
  unfold inLs
  rw [if_pos ⟨rfl, flat_bls l⟩]
  congr 1
  rw [List.any_map]
  induction l with
  | nil => rfl
  | cons x l ih =>
    rw [List.any_cons, List.contains_cons, ih]
    congr 1
    show (x == c) = (c == x)
    cases x <;> cases c <;> rfl
theorem sum_own {l : List Int} {S : Sto} : bltW .sum [.o (.lst (l.map D.int))] S = some (.d (.int l.sum)) := by
  have := ints_map l
  simp [bltW, lstOf, this]
end PyI

set_option maxRecDepth 100000
set_option maxHeartbeats 1000000
/-! PyI: trees of seals. -/
namespace PyI
/-! ### seals of trees -/
def Sl (T : List Th) (f : Nat → Int) : Nat → Nat → Int → Prop
  | 0, i, s => At T s (.leaf (f i))
  | e + 1, i, s => ∃ x y, At T s (.pair x y) ∧ Sl T f e (2 * i) x ∧ Sl T f e (2 * i + 1) y
theorem At.mono {T T' : List Th} {s : Int} {t : Th} (h : T <+: T') (a : At T s t) : At T' s t := by
  obtain ⟨r, rfl⟩ := h
  exact ⟨a.1, by rw [List.getElem?_append_left (List.getElem?_eq_some_iff.mp a.2).1]; exact a.2⟩
theorem At.le {T : List Th} {s : Int} {t : Th} (a : At T s t) : 1 ≤ s ∧ s ≤ T.length := by
  have := (List.getElem?_eq_some_iff.mp a.2).1
  have := a.1
  exact ⟨this, by omega⟩
theorem At.uniq {T : List Th} {s : Int} {t t' : Th} (a : At T s t) (b : At T s t') : t = t' := by
  have := a.2
  rw [b.2] at this
  exact (Option.some.inj this).symm
theorem At.inj {T : List Th} {s s' : Int} {t : Th} (nd : T.Nodup) (a : At T s t) (b : At T s' t) : s = s' := by
  obtain ⟨h1, e1⟩ := List.getElem?_eq_some_iff.mp a.2
  obtain ⟨h2, e2⟩ := List.getElem?_eq_some_iff.mp b.2
  have := (List.getElem_inj nd).mp (e1.trans e2.symm)
  have := a.1
  have := b.1
  omega
theorem Sl.mono {T T' : List Th} {f : Nat → Int} (h : T <+: T') : ∀ {e i : Nat} {s : Int}, Sl T f e i s → Sl T' f e i s
  | 0, _, _, a => At.mono h a
  | e + 1, _, _, ⟨x, y, a, b, c⟩ => ⟨x, y, At.mono h a, Sl.mono h b, Sl.mono h c⟩
theorem Sl.uniq {T : List Th} {f : Nat → Int} (nd : T.Nodup) : ∀ {e i : Nat} {s s' : Int}, Sl T f e i s → Sl T f e i s' → s = s'
  | 0, _, _, _, a, b => At.inj nd a b
  | e + 1, _, _, _, ⟨x, y, a, b, c⟩, ⟨x', y', a', b', c'⟩ => by
    have h1 := Sl.uniq nd b b'
    have h2 := Sl.uniq nd c c'
    subst h1 h2
    exact At.inj nd a a'
theorem Sl.congr {T : List Th} {f g : Nat → Int} : ∀ {e i : Nat} {s : Int}, (∀ j, i * 2 ^ e ≤ j → j < (i + 1) * 2 ^ e → f j = g j) → Sl T f e i s → Sl T g e i s
  | 0, i, s, h, a => by
    have := h i (by omega) (by omega)
    show At T s (.leaf (g i))
    rw [← this]
    exact a
  | e + 1, i, s, h, ⟨x, y, a, b, c⟩ => by
    have hp : 2 ^ (e + 1) = 2 * 2 ^ e := by rw [Nat.pow_succ]; omega
    have e1 : i * 2 ^ (e + 1) = 2 * i * 2 ^ e := by rw [hp, ← Nat.mul_assoc, Nat.mul_comm i 2]
    have e2 : (i + 1) * 2 ^ (e + 1) = (2 * i + 1 + 1) * 2 ^ e := by rw [hp, ← Nat.mul_assoc]; congr 1; omega
    have e3 : 2 * i * 2 ^ e ≤ (2 * i + 1) * 2 ^ e := Nat.mul_le_mul_right _ (by omega)
    have e4 : (2 * i + 1) * 2 ^ e ≤ (2 * i + 1 + 1) * 2 ^ e := Nat.mul_le_mul_right _ (by omega)
    refine ⟨x, y, a, Sl.congr (fun j h1 h2 => h j (by omega) (by omega)) b, Sl.congr (fun j h1 h2 => h j (by omega) (by omega)) c⟩
theorem Sl.shift {T : List Th} {f : Nat → Int} : ∀ {e i c : Nat} {s : Int}, Sl T (fun j => f (j + c * 2 ^ e)) e i s ↔ Sl T f e (i + c) s
  | 0, i, c, s => by
    show At T s (.leaf (f (i + c * 2 ^ 0))) ↔ At T s (.leaf (f (i + c)))
    rw [show c * 2 ^ 0 = c by omega]
  | e + 1, i, c, s => by
    have e1 : ∀ j, j + c * 2 ^ (e + 1) = j + (2 * c) * 2 ^ e := fun j => by
      rw [Nat.pow_succ, Nat.mul_comm (2 ^ e) 2, ← Nat.mul_assoc, Nat.mul_comm c 2]
    show (∃ x y, At T s (.pair x y) ∧ Sl T (fun j => f (j + c * 2 ^ (e + 1))) e (2 * i) x ∧ Sl T (fun j => f (j + c * 2 ^ (e + 1))) e (2 * i + 1) y) ↔ ∃ x y, At T s (.pair x y) ∧ Sl T f e (2 * (i + c)) x ∧ Sl T f e (2 * (i + c) + 1) y
    simp only [e1, Sl.shift]
    rw [show 2 * (i + c) = 2 * i + 2 * c by omega, show 2 * i + 2 * c + 1 = 2 * i + 1 + 2 * c by omega]
/-- more things, at most c of them -/
def Ext (T T' : List Th) (c : Nat) : Prop := T <+: T' ∧ T'.length ≤ T.length + c
theorem Ext.refl {T : List Th} : Ext T T 0 := ⟨List.prefix_refl _, Nat.le_refl _⟩
theorem Ext.trans {T T' T'' : List Th} {c c' : Nat} (h : Ext T T' c) (h' : Ext T' T'' c') : Ext T T'' (c + c') := ⟨h.1.trans h'.1, by have := h.2; have := h'.2; omega⟩
theorem Ext.le {T T' : List Th} {c c' : Nat} (h : Ext T T' c) (k : c ≤ c') : Ext T T' c' := ⟨h.1, by have := h.2; omega⟩
theorem giv_ext (T : List Th) (t : Th) : Ext T (giv T t) 1 := by
  unfold giv
  split
  · exact ⟨List.prefix_refl _, by omega⟩
  · exact ⟨List.prefix_append _ _, by simp⟩
theorem giv_mem (T : List Th) (t : Th) : t ∈ giv T t := by
  unfold giv
  split
  · assumption
  · simp
theorem num_at (T : List Th) (t : Th) : At (giv T t) (num T t) t := by
  unfold num
  refine ⟨by omega, ?_⟩
  have h := List.idxOf_lt_length_of_mem (giv_mem T t)
  rw [show (((giv T t).idxOf t + 1 : Nat) : Int) - 1 = (((giv T t).idxOf t : Nat) : Int) by omega, Int.toNat_natCast, List.getElem?_eq_getElem h]
  congr 1
  exact List.getElem_idxOf h
theorem drop_inv {α : Type} {l r : List α} {x : α} {i : Nat} (h : l.drop i = x :: r) : l[i]? = some x ∧ r = l.drop (i + 1) ∧ i < l.length := by
  have hi : i < l.length := by
    rcases Nat.lt_or_ge i l.length with z | z
    · exact z
    · rw [List.drop_eq_nil_of_le z] at h; cases h
  rw [List.drop_eq_getElem_cons hi] at h
  injection h with h1 h2
  exact ⟨by rw [List.getElem?_eq_getElem hi, h1], h2.symm, hi⟩
theorem evI_rngT {cb ci : Cb} {ini : Nat → Option Nat} {ρ : Env} {S : Sto} {v p k : Nat} {l : List D} (hv : ρ[v]? = some (some (.ref p))) (e : S[p]? = some (.lst l)) (hl : l.length = 2 * k) (hk : k ≤ 4096) :
    evI cb ci ini (.rngT (.con (.int 0)) (.blt .len (.cons (.var v) .nil))) ρ S = .ok ⟨rngL 0 2 k, []⟩ S := by
  have h1 : evE cb ci ini (.blt .len (.cons (.var v) .nil)) ρ S = .ok (.d (.int (l.length : Int))) S := by
    simp only [evE, evWs, hv, bind_ok, bltW, len_ref e, Option.map_some, opt_some, al_ok_d]
  have h2 : evE cb ci ini (.con (.int 0)) ρ S = .ok (.d (.int 0)) S := by unfold evE; rfl
  rw [evI, h2, bind_ok, h1, bind_ok]
  generalize hB : (2 : Int) ^ 60 = B
  have hB' : 10000 < B := by omega
  clear hB
  dsimp only
  rw [if_pos ⟨⟨by omega, by omega⟩, by omega, by omega⟩, show (((l.length : Int) - 0 + 1) / 2).toNat = k by omega]
/-! ### the defs -/
structure TrN extends HsN where
  iS : Nat
  iW : Nat
  iV : Nat
  iB : Nat
  iR : Nat
  iU : Nat
section
variable (N : TrN)
def TrN.s0 : Stm := .set (.nm 2) (.lc [3] (.nm 3) (.seq (.var 1)) .no (.meth (.var 0) N.mL [(N.C, N.iL)] (.cons (.var 3) .nil)))
def TrN.s2 : Stm := .set (.nm 2) (.lc [4] (.nm 4) (.rngT (.con (.int 0)) (.blt .len (.cons (.var 2) .nil))) .no (.meth (.var 0) N.mP [(N.C, N.iP)] (.cons (.idx (.var 2) (.var 4)) (.cons (.idx (.var 2) (.bin .add (.var 4) (.con (.int 1)))) .nil))))
def TrN.s1 : Stm := .whl (.cmp .gt (.blt .len (.cons (.var 2) .nil)) (.con (.int 1))) (.cons N.s2 .nil)
def TrN.s3 : Stm := .ret (.idx (.var 2) (.con (.int 0)))
def TrN.bS : Sts := .cons N.s0 (.cons N.s1 (.cons TrN.s3 .nil))
end
structure TrP (P : Pg) (N : TrN) extends HsP P N.toHsN where
  S : Has P N.iS N.bS 2 5
section
variable {N : TrN} {P : Pg} {h a b fu n : Nat} {S : Sto} {T : List Th} {Q : W → Sto → Prop}
/-- the words' function -/
def wf (ws : List Int) : Nat → Int := fun i => ws.getD i 0
theorem wf_get {ws : List Int} {i : Nat} {w : Int} (h : ws[i]? = some w) : wf ws i = w := by
  unfold wf
  rw [List.getD_eq_getElem?_getD, h]
  rfl
theorem seal_ok (ok : HsP P N.toHsN) (hS : Has P N.iS N.bS 2 5) (hfu : 64 < fu) (H : Hs N.toHsN h a b S T) {ws : List Int} {d : Nat} (hd : ws.length = 2 ^ d) (hd20 : d ≤ 12) (hl : T.length + 2 ^ (d + 1) < 8000000)
    (q : ∀ (s : Int) (S' : Sto) (T' : List Th), Hs N.toHsN h a b S' T' → Ext T T' (2 ^ (d + 1)) → Sl T' (wf ws) d 0 s → Fh a b S S' → Q (.d (.int s)) S') : Ok (run fu P (n + 3) N.iS [.ref h, .tup (ws.map D.int)] S) Q := by
  refine has_run hS rfl ?_
  show Ok (evSs fu _ _ _ N.bS [some (.ref h), some (.tup (ws.map D.int)), none, none, none] S) _
  have hp : 2 ^ (d + 1) = 2 * 2 ^ d := by rw [Nat.pow_succ]; omega
  have hp12 : 2 ^ d ≤ 2 ^ 12 := Nat.pow_le_pow_right (by decide) hd20
  have hw : ∀ S, seqWk (.d (.tup (ws.map D.int))) S = some ⟨ws.map D.int, []⟩ := fun _ => rfl
  unfold TrN.bS
  refine ok_cons ?_
  simp only [TrN.s0, evS, evE, evI, Ok_al, Ok_bind, bind_ok, List.getElem?_cons_zero, List.getElem?_cons_succ, Ok_ok, opt_some, hw]
  refine ok_lc (fun l acc S' => ∃ (sl : List Int) (T' : List Th), acc = sl.map D.int ∧ l = (ws.map D.int).drop sl.length ∧ sl.length ≤ ws.length ∧ (∀ i s, sl[i]? = some s → At T' s (.leaf (wf ws i))) ∧ Ext T T' sl.length ∧ Hs N.toHsN h a b S' T' ∧ Fh a b S S') (fun _ _ _ _ => rfl) ?_ ?_ _ _ _
    ⟨[], T, rfl, rfl, Nat.zero_le _, by simp, Ext.refl, H, Fh.refl⟩
  · rintro x l acc S' ⟨sl, T', rfl, hl', hle, hat, he, H', hF⟩
    obtain ⟨hx, hr, hi⟩ := drop_inv hl'.symm
    rw [List.getElem?_map] at hx
    rw [List.length_map] at hi
    obtain ⟨w, hw1, rfl⟩ : ∃ w, ws[sl.length]? = some w ∧ x = .int w := by
      rw [List.getElem?_eq_getElem hi] at hx ⊢
      exact ⟨_, rfl, (Option.some.inj hx).symm⟩
    have hT : T'.length < 8000000 := by have := he.2; omega
    simp only [evC, Ok_nox, Tg.put, wipeE, List.set_cons_succ, List.set_cons_zero, Ok_bind, bind_ok, Ok_ok, if_true]
    have hlm := H'.lM ok (m := N.mL) (by simp)
    simp only [tst, evE, evWs, evDs, evO, evC, evI, Ok_bind, Ok_ok, Ok_al, al_d, al_o, bind_ok, al_ok_d, al_ok_o, opt_some, testD_bl, List.getElem?_cons_zero, List.getElem?_cons_succ, List.set_cons_zero, List.set_cons_succ, Option.map_some, cmpW, ordW, bltW, binW, intW, addW, evS, Tg.put, if_true, Bool.false_eq_true, if_false, H'.i, hlm, List.lookup_cons, beq_self_eq_true, Option.isNone_none]
    refine leaf_ok ok H' hT w fun S2 H2 hF2 _ => ?_
    simp only [tst, evE, evWs, evDs, evO, evC, evI, Ok_bind, Ok_ok, Ok_al, al_d, al_o, bind_ok, al_ok_d, al_ok_o, opt_some, testD_bl, List.getElem?_cons_zero, List.getElem?_cons_succ, List.set_cons_zero, List.set_cons_succ, Option.map_some, cmpW, ordW, bltW, binW, intW, addW, evS, Tg.put, if_true, Bool.false_eq_true, if_false]
    refine ⟨by rw [List.length_map]; simp only [LINE]; omega, sl ++ [num T' (.leaf w)], giv T' (.leaf w), by simp, by rw [List.length_append]; exact hr, by rw [List.length_append, List.length_singleton]; omega, fun i s hs => ?_, by rw [List.length_append]; exact he.trans (giv_ext _ _), H2, hF.trans hF2⟩
    by_cases hi2 : i < sl.length
    · rw [List.getElem?_append_left hi2] at hs
      exact (hat i s hs).mono (giv_ext _ _).1
    · have : i = sl.length := by
        have := (List.getElem?_eq_some_iff.mp hs).1
        rw [List.length_append, List.length_singleton] at this
        omega
      subst this
      rw [List.getElem?_append_right (Nat.le_refl _), Nat.sub_self] at hs
      cases hs
      rw [wf_get hw1]
      exact num_at _ _
  rintro acc S1 ⟨sl, T1, rfl, hl', hle, hat, he, H1, hF1⟩
  have hsl : sl.length = 2 ^ d := by
    have := congrArg List.length hl'
    simp only [List.length_nil, List.length_drop, List.length_map] at this
    omega
  simp only [tst, evE, evWs, evDs, evO, evC, evI, Ok_bind, Ok_ok, Ok_al, al_d, al_o, bind_ok, al_ok_d, al_ok_o, opt_some, testD_bl, List.getElem?_cons_zero, List.getElem?_cons_succ, List.set_cons_zero, List.set_cons_succ, Option.map_some, cmpW, ordW, bltW, binW, intW, addW, evS, Tg.put, if_true, Bool.false_eq_true, if_false]
  have hb1 := H1.lt
  refine ok_cons ?_
  unfold TrN.s1
  rw [evS]
  refine ok_while (fun m ρ S' => ∃ (e : Nat) (lev : List Int) (T' : List Th) (p : Nat) (x y : Option D), ρ = [some (.ref h), some (.tup (ws.map D.int)), some (.ref p), x, y] ∧ e + m = d ∧ S'[p]? = some (.lst (lev.map D.int)) ∧ p ≠ a ∧ p ≠ b ∧ lev.length = 2 ^ m ∧
      (∀ i s, lev[i]? = some s → Sl T' (wf ws) e i s) ∧ T <+: T' ∧ T'.length + 2 ^ m ≤ T.length + 2 ^ (d + 1) ∧ Hs N.toHsN h a b S' T' ∧ Fh a b S S') ?_ fu d _ _ (by omega)
    ⟨0, sl, T1, S1.length, none, none, rfl, by omega, app_at _ _, by omega, by omega, hsl, hat, he.1, by have := he.2; omega, H1.app _, hF1.trans (Fh.app _)⟩
  · rintro m ρ S' ⟨e, lev, T', p, x, y, rfl, hem, ep, pa, pb, hlen, hSl, hpre, hTl, H', hF⟩
    simp only [tst, evE, evWs, evDs, evO, evC, evI, Ok_bind, Ok_ok, Ok_al, al_d, al_o, bind_ok, al_ok_d, al_ok_o, opt_some, testD_bl, List.getElem?_cons_zero, List.getElem?_cons_succ, List.set_cons_zero, List.set_cons_succ, Option.map_some, cmpW, ordW, bltW, binW, intW, addW, evS, Tg.put, if_true, Bool.false_eq_true, if_false, len_ref ep, List.length_map]
    cases m with
    | zero =>
      rw [hlen]
      simp only [Nat.pow_zero, show decide ((1 : Int) < ((1 : Nat) : Int)) = false from rfl, Bool.false_eq_true, if_false]
      have hed : e = d := by omega
      subst hed
      refine ok_one ?_
      obtain ⟨s, h1, h2, _⟩ := idx_ref (v := 0) (S := S') ep (by decide) (by rw [List.length_map, hlen]; decide)
      rw [show (0 : Int).toNat = 0 from rfl, List.getElem?_map] at h1
      cases hz : lev[0]? with
      | none => rw [hz] at h1; cases h1
      | some z =>
        rw [hz] at h1
        cases h1
        simp only [TrN.s3, tst, evE, evWs, evDs, evO, evC, evI, Ok_bind, Ok_ok, Ok_al, al_d, al_o, bind_ok, al_ok_d, al_ok_o, opt_some, testD_bl, List.getElem?_cons_zero, List.getElem?_cons_succ, List.set_cons_zero, List.set_cons_succ, Option.map_some, cmpW, ordW, bltW, binW, intW, addW, evS, Tg.put, if_true, Bool.false_eq_true, if_false, h2]
        exact q z S' T' H' ⟨hpre, by omega⟩ (hSl 0 z hz) hF
    | succ m =>
      have h2m : 2 ^ (m + 1) = 2 * 2 ^ m := by rw [Nat.pow_succ]; omega
      have hpos : 0 < 2 ^ m := Nat.pow_pos (by decide)
      have hmd : 2 ^ (m + 1) ≤ 2 ^ d := Nat.pow_le_pow_right (by decide) (by omega)
      rw [show decide ((1 : Int) < (lev.length : Int)) = true from decide_eq_true (by omega)]
      simp only [if_true]
      refine ok_one ?_
      have hI := evI_rngT (cb := run fu P (n + 2)) (ci := run fu P (n + 2)) (ini := P.T.ini) (v := 2) (ρ := [some (.ref h), some (.tup (ws.map D.int)), some (.ref p), x, y]) rfl ep (k := 2 ^ m) (by rw [List.length_map]; omega) (by omega)
      unfold TrN.s2
      rw [evS, evE, hI]
      simp only [Ok_al, Ok_bind, Ok_ok]
      refine ok_lc (fun l acc S2 => ∃ (sl : List Int) (T2 : List Th), acc = sl.map D.int ∧ l = (rngL 0 2 (2 ^ m)).drop sl.length ∧ sl.length ≤ 2 ^ m ∧ (∀ i s, sl[i]? = some s → Sl T2 (wf ws) (e + 1) i s) ∧ Ext T' T2 sl.length ∧ Hs N.toHsN h a b S2 T2 ∧ Fh a b S' S2) (fun _ _ _ _ => rfl) ?_ ?_ _ _ _
        ⟨[], T', rfl, rfl, Nat.zero_le _, by simp, Ext.refl, H', Fh.refl⟩
      · rintro z l acc S2 ⟨sl, T2, rfl, hl2, hle2, hat2, he2, H2, hF2⟩
        obtain ⟨hx, hr, hi⟩ := drop_inv hl2.symm
        rw [rng_len] at hi
        have hz : z = .int ((2 * sl.length : Nat) : Int) := by
          obtain ⟨_, hz⟩ := rng_get hx
          rw [hz]
          congr 1
          omega
        subst hz
        have ep2 := hF2.at_ ep pa pb
        have hT : T2.length < 8000000 := by have := he2.2; omega
        obtain ⟨u, hu1, hu2⟩ : ∃ u, lev[2 * sl.length]? = some u ∧ idxW (.d (.ref p)) (.int ((2 * sl.length : Nat) : Int)) S2 = some (.int u) := by
          obtain ⟨u, g1, g2, _⟩ := idx_ref (v := ((2 * sl.length : Nat) : Int)) (S := S2) ep2 (by omega) (by rw [List.length_map, hlen]; omega)
          rw [Int.toNat_natCast, List.getElem?_map] at g1
          cases hz : lev[2 * sl.length]? with
          | none => rw [hz] at g1; cases g1
          | some z => rw [hz] at g1; cases g1; exact ⟨z, rfl, g2⟩
        obtain ⟨v, hv1, hv2⟩ : ∃ v, lev[2 * sl.length + 1]? = some v ∧ idxW (.d (.ref p)) (.int (((2 * sl.length : Nat) : Int) + 1)) S2 = some (.int v) := by
          obtain ⟨u, g1, g2, _⟩ := idx_ref (v := ((2 * sl.length : Nat) : Int) + 1) (S := S2) ep2 (by omega) (by rw [List.length_map, hlen]; omega)
          rw [show (((2 * sl.length : Nat) : Int) + 1).toNat = 2 * sl.length + 1 by omega, List.getElem?_map] at g1
          cases hz : lev[2 * sl.length + 1]? with
          | none => rw [hz] at g1; cases g1
          | some z => rw [hz] at g1; cases g1; exact ⟨z, rfl, g2⟩
        simp only [evC, Ok_nox, Tg.put, wipeE, List.set_cons_succ, List.set_cons_zero, Ok_bind, bind_ok, Ok_ok, if_true]
        have hlm := H2.lM ok (m := N.mP) (by simp)
        simp only [tst, evE, evWs, evDs, evO, evC, evI, Ok_bind, Ok_ok, Ok_al, al_d, al_o, bind_ok, al_ok_d, al_ok_o, opt_some, testD_bl, List.getElem?_cons_zero, List.getElem?_cons_succ, List.set_cons_zero, List.set_cons_succ, Option.map_some, cmpW, ordW, bltW, binW, intW, addW, evS, Tg.put, if_true, Bool.false_eq_true, if_false, H2.i, hlm, List.lookup_cons, beq_self_eq_true, Option.isNone_none, hu2, hv2]
        refine pair_ok ok H2 hT u v fun S3 H3 hF3 _ => ?_
        simp only [tst, evE, evWs, evDs, evO, evC, evI, Ok_bind, Ok_ok, Ok_al, al_d, al_o, bind_ok, al_ok_d, al_ok_o, opt_some, testD_bl, List.getElem?_cons_zero, List.getElem?_cons_succ, List.set_cons_zero, List.set_cons_succ, Option.map_some, cmpW, ordW, bltW, binW, intW, addW, evS, Tg.put, if_true, Bool.false_eq_true, if_false]
        refine ⟨by rw [List.length_map]; simp only [LINE]; omega, sl ++ [num T2 (.pair u v)], giv T2 (.pair u v), by simp, by rw [List.length_append]; exact hr, by rw [List.length_append, List.length_singleton]; omega, fun i s hs => ?_, by rw [List.length_append]; exact he2.trans (giv_ext _ _), H3, hF2.trans hF3⟩
        by_cases hi2 : i < sl.length
        · rw [List.getElem?_append_left hi2] at hs
          exact (hat2 i s hs).mono (giv_ext _ _).1
        · have : i = sl.length := by
            have := (List.getElem?_eq_some_iff.mp hs).1
            rw [List.length_append, List.length_singleton] at this
            omega
          subst this
          rw [List.getElem?_append_right (Nat.le_refl _), Nat.sub_self] at hs
          cases hs
          have hpre2 := he2.1.trans (giv_ext T2 (.pair u v)).1
          exact ⟨u, v, num_at _ _, (hSl _ u hu1).mono hpre2, (hSl _ v hv1).mono hpre2⟩
      rintro acc S2 ⟨sl, T2, rfl, hl2, hle2, hat2, he2, H2, hF2⟩
      have hsl2 : sl.length = 2 ^ m := by
        have := congrArg List.length hl2
        simp only [List.length_nil, List.length_drop, rng_len] at this
        omega
      simp only [tst, evE, evWs, evDs, evO, evC, evI, Ok_bind, Ok_ok, Ok_al, al_d, al_o, bind_ok, al_ok_d, al_ok_o, opt_some, testD_bl, List.getElem?_cons_zero, List.getElem?_cons_succ, List.set_cons_zero, List.set_cons_succ, Option.map_some, cmpW, ordW, bltW, binW, intW, addW, evS, Tg.put, if_true, Bool.false_eq_true, if_false]
      have hlt2 := H2.lt
      exact ⟨m, by omega, e + 1, sl, T2, S2.length, x, y, rfl, by omega, app_at _ _, by omega, by omega, hsl2, hat2, hpre.trans he2.1, by have := he2.2; omega, H2.app _, (hF.trans hF2).trans (Fh.app _)⟩
end
end PyI

set_option maxRecDepth 100000
set_option maxHeartbeats 1000000
/-! PyI: trees: ways, words, puts. -/
namespace PyI
def opn (T : List Th) (s : Int) : Option Th := if 1 ≤ s then T[(s - 1).toNat]? else none
theorem At.opn {T : List Th} {s : Int} {t : Th} (a : At T s t) : opn T s = some t := by
  unfold PyI.opn
  rw [if_pos a.1]
  exact a.2
theorem opn_at {T : List Th} {s : Int} {t : Th} (h : opn T s = some t) : At T s t := by
  unfold PyI.opn at h
  split at h
  · exact ⟨by assumption, h⟩
  · cases h
def opd (T : List Th) (s : Int) : D := match opn T s with
  | some t => t.d
  | none => .non
def dnT (T : List Th) (k : Nat) : Nat → Int → Option (Int × List Int)
  | 0, s => match opn T s with
    | some (.leaf w) => some (w, [])
    | _ => none
  | j + 1, s => match opn T s with
    | some (.pair x y) => (dnT T k j (if k / 2 ^ j % 2 = 0 then x else y)).map fun p => (p.1, (if k / 2 ^ j % 2 = 0 then y else x) :: p.2)
    | _ => none
theorem dnT_no {T : List Th} {k : Nat} {s : Int} (h : opn T s = none) : ∀ j, dnT T k j s = none
  | 0 => by unfold dnT; rw [h]
  | j + 1 => by unfold dnT; rw [h]
theorem dnT_leaf0 {T : List Th} {k : Nat} {s w : Int} (h : opn T s = some (.leaf w)) : dnT T k 0 s = some (w, []) := by unfold dnT; rw [h]
theorem dnT_pair0 {T : List Th} {k : Nat} {s x y : Int} (h : opn T s = some (.pair x y)) : dnT T k 0 s = none := by unfold dnT; rw [h]
theorem dnT_leafS {T : List Th} {k j : Nat} {s w : Int} (h : opn T s = some (.leaf w)) : dnT T k (j + 1) s = none := by unfold dnT; rw [h]
theorem dnT_pairS {T : List Th} {k j : Nat} {s x y : Int} (h : opn T s = some (.pair x y)) : dnT T k (j + 1) s = (dnT T k j (if k / 2 ^ j % 2 = 0 then x else y)).map fun p => (p.1, (if k / 2 ^ j % 2 = 0 then y else x) :: p.2) := by conv => lhs; unfold dnT; rw [h]
section
variable {N : HsN} {P : Pg} {h a b fu n : Nat} {S : Sto} {T : List Th} {Q : W → Sto → Prop}
theorem open_ok (ok : HsP P N) (H : Hs N h a b S T) (hl : T.length < 8000000) (s : Int) (q : Q (.d (opd T s)) S) : Ok (run fu P (n + 1) N.iO [.ref h, .int s] S) Q := by
  refine opened_ok ok H hl s fun d h1 h2 => ?_
  unfold opd at q
  by_cases hs : 1 ≤ s ∧ s ≤ T.length
  · obtain ⟨t, ht, rfl⟩ := h1 hs
    rw [ht.opn] at q
    exact q
  · rw [h2 hs]
    cases he : opn T s with
    | none => rw [he] at q; exact q
    | some t => exact absurd (opn_at he).le hs
end
section
variable (N : TrN)
def TrN.w1 : Stm := .ret (.con (.non))
def TrN.w0 : Stm := .ite (.bnot (.chain .le .lt (.con (.int 0)) (.var 3) (.bin .shl (.con (.int 1)) (.var 2)))) (.cons TrN.w1 .nil) (.nil)
def TrN.w2 : Stm := .set (.nm 4) (.lst (.nil))
def TrN.w4 : Stm := .set (.nm 6) (.meth (.var 0) N.mO [(N.C, N.iO)] (.cons (.var 1) .nil))
def TrN.w5 : Stm := .ite (.bor (.cmp .isN (.var 6) (.con (.non))) (.cmp .ne (.idx (.var 6) (.con (.int 0))) (.con (.str [112, 97, 105, 114])))) (.cons TrN.w1 .nil) (.nil)
def TrN.w7 : Stm := .set (.nm 7) (.bin .mod (.bin .shr (.var 3) (.var 5)) (.con (.int 2)))
def TrN.w8 : Stm := .expr (.bmt .append (.var 4) (.cons (.idx (.var 6) (.bin .sub (.con (.int 2)) (.var 7))) .nil))
def TrN.w9 : Stm := .set (.nm 1) (.idx (.var 6) (.bin .add (.con (.int 1)) (.var 7)))
def TrN.w3 : Stm := .for (.nm 5) (.rngD (.bin .sub (.var 2) (.con (.int 1))) (.con (.int (-1)))) (.cons N.w4 (.cons TrN.w5 (.cons TrN.w7 (.cons TrN.w8 (.cons TrN.w9 .nil)))))
def TrN.w11 : Stm := .ite (.bor (.cmp .isN (.var 6) (.con (.non))) (.cmp .ne (.idx (.var 6) (.con (.int 0))) (.con (.str [108, 101, 97, 102])))) (.cons TrN.w1 .nil) (.nil)
def TrN.w13 : Stm := .ret (.tup (.cons (.idx (.var 6) (.con (.int 1))) (.cons (.var 4) .nil)))
def TrN.bW : Sts := .cons TrN.w0 (.cons TrN.w2 (.cons N.w3 (.cons N.w4 (.cons TrN.w11 (.cons TrN.w13 .nil)))))
def TrN.v0 : Stm := .set (.nm 4) (.call N.iW (.cons (.var 0) (.cons (.var 1) (.cons (.var 2) (.cons (.var 3) .nil)))))
def TrN.v1 : Stm := .ite (.cmp .isN (.var 4) (.con (.non))) (.cons TrN.w1 .nil) (.nil)
def TrN.v3 : Stm := .ret (.idx (.var 4) (.con (.int 0)))
def TrN.bV : Sts := .cons N.v0 (.cons TrN.v1 (.cons TrN.v3 .nil))
def TrN.p3 : Stm := .ret (.tup (.cons (.idx (.var 4) (.con (.int 0))) (.cons (.trev (.idx (.var 4) (.con (.int 1)))) .nil)))
def TrN.bB : Sts := .cons N.v0 (.cons TrN.v1 (.cons TrN.p3 .nil))
def TrN.r0 : Stm := .set (.nm 5) (.lst (.cons (.meth (.var 0) N.mL [(N.C, N.iL)] (.cons (.var 3) .nil)) .nil))
def TrN.r3 : Stm := .expr (.bmt .append (.var 5) (.cons (.meth (.var 0) N.mP [(N.C, N.iP)] (.cons (.idx (.var 5) (.var 6)) (.cons (.idx (.var 4) (.var 6)) .nil))) .nil))
def TrN.r4 : Stm := .expr (.bmt .append (.var 5) (.cons (.meth (.var 0) N.mP [(N.C, N.iP)] (.cons (.idx (.var 4) (.var 6)) (.cons (.idx (.var 5) (.var 6)) .nil))) .nil))
def TrN.r2 : Stm := .ite (.cmp .eq (.bin .mod (.bin .shr (.var 2) (.var 6)) (.con (.int 2))) (.con (.int 0))) (.cons N.r3 .nil) (.cons N.r4 .nil)
def TrN.r1 : Stm := .for (.nm 6) (.rng1 (.var 1)) (.cons N.r2 .nil)
def TrN.r5 : Stm := .ret (.var 5)
def TrN.bR : Sts := .cons N.r0 (.cons N.r1 (.cons TrN.r5 .nil))
def TrN.u0 : Stm := .set (.nm 5) (.call N.iB (.cons (.var 0) (.cons (.var 1) (.cons (.var 2) (.cons (.var 3) .nil)))))
def TrN.u1 : Stm := .ite (.cmp .isN (.var 5) (.con (.non))) (.cons TrN.w1 .nil) (.nil)
def TrN.u3 : Stm := .ret (.idx (.call N.iR (.cons (.var 0) (.cons (.var 2) (.cons (.var 3) (.cons (.var 4) (.cons (.idx (.var 5) (.con (.int 1))) .nil)))))) (.var 2))
def TrN.bU : Sts := .cons N.u0 (.cons TrN.u1 (.cons N.u3 .nil))
end
structure TrQ (P : Pg) (N : TrN) extends TrP P N where
  W : Has P N.iW N.bW 4 8
  V : Has P N.iV N.bV 4 5
  B : Has P N.iB N.bB 4 5
  R : Has P N.iR N.bR 5 7
  U : Has P N.iU N.bU 5 6
theorem evI_rngD {cb ci : Cb} {ini : Nat → Option Nat} {ρ : Env} {S : Sto} {v k : Nat} (hv : ρ[v]? = some (some (.int (k : Int)))) (hk : k ≤ 4096) :
    evI cb ci ini (.rngD (.bin .sub (.var v) (.con (.int 1))) (.con (.int (-1)))) ρ S = .ok ⟨rngL ((k : Int) - 1) (-1) k, []⟩ S := by
  have h1 : evE cb ci ini (.bin .sub (.var v) (.con (.int 1))) ρ S = .ok (.d (.int ((k : Int) - 1))) S := by
    simp only [tst, evE, evWs, evDs, evO, evC, evI, Ok_bind, Ok_ok, Ok_al, al_d, al_o, bind_ok, al_ok_d, al_ok_o, opt_some, testD_bl, List.getElem?_cons_zero, List.getElem?_cons_succ, List.set_cons_zero, List.set_cons_succ, Option.map_some, cmpW, ordW, bltW, binW, intW, addW, evS, Tg.put, if_true, Bool.false_eq_true, if_false, hv]
  have h2 : evE cb ci ini (.con (.int (-1))) ρ S = .ok (.d (.int (-1))) S := by unfold evE; rfl
  rw [evI, h1, bind_ok, h2, bind_ok]
  generalize hB : (2 : Int) ^ 62 = B
  have hB' : 10000 < B := by omega
  clear hB
  dsimp only
  rw [if_pos ⟨⟨by omega, by omega⟩, by omega, by omega⟩, show ((k : Int) - 1 - -1).toNat = k by omega]
theorem idx_tup {l : List D} {v : Int} {x : D} {S : Sto} {i : Nat} (hi : v.toNat = i) (h : l[i]? = some x) (h0 : 0 ≤ v) : idxW (.d (.tup l)) (.int v) S = some x := by
  have hl := (List.getElem?_eq_some_iff.mp h).1
  show atD l v = _
  unfold atD
  rw [ixI_nat h0 (by omega), hi]
  exact h
theorem idx_rn {l : List D} {p i : Nat} {x : D} {S : Sto} (e : S[p]? = some (.lst l)) (h : l[i]? = some x) : idxW (.d (.ref p)) (.int (i : Int)) S = some x := by
  have hl := (List.getElem?_eq_some_iff.mp h).1
  obtain ⟨y, h1, h2, _⟩ := idx_ref (v := (i : Int)) (S := S) e (by omega) (by omega)
  rw [Int.toNat_natCast, h] at h1
  cases h1
  exact h2
theorem idx_tn {l : List D} {i : Nat} {x : D} {S : Sto} (h : l[i]? = some x) : idxW (.d (.tup l)) (.int (i : Int)) S = some x := idx_tup (Int.toNat_natCast i) h (by omega)
theorem shl_one {d : Nat} (hd : d ≤ 12) : (if small 1 (d : Int) = true then some (W.d (.int (1 * 2 ^ (d : Int).toNat))) else none) = some (.d (.int ((2 ^ d : Nat) : Int))) := by
  rw [if_pos, Int.one_mul, Int.toNat_natCast, Int.natCast_pow]
  · rfl
  · unfold small
    exact decide_eq_true ⟨by omega, by omega, by decide⟩
theorem shr_nat (k j : Nat) : (if decide ((0 : Int) ≤ (j : Int)) = true then some (W.d (.int ((k : Int) / 2 ^ (j : Int).toNat))) else none) = some (.d (.int ((k / 2 ^ j : Nat) : Int))) := by
  rw [if_pos (decide_eq_true (by omega)), Int.toNat_natCast, Int.natCast_ediv, Int.natCast_pow]
  rfl
theorem mod_two (k : Nat) : (if decide ((0 : Int) < 2) = true then some (W.d (.int ((k : Int) % 2))) else none) = some (.d (.int ((k % 2 : Nat) : Int))) := by
  rw [if_pos (by decide), Int.natCast_emod]
  rfl
theorem app_set {α : Type} (S : List α) (x y : α) : (S ++ [x]).set S.length y = S ++ [y] := by simp
theorem rng_drop {a c : Int} {n i : Nat} (h : i < n) : (rngL a c n).drop i = .int (a + (i : Int) * c) :: (rngL a c n).drop (i + 1) := by
  rw [List.drop_eq_getElem_cons (by rw [rng_len]; exact h)]
  congr 1
  simp [rngL]
theorem opd_th {T : List Th} {s : Int} {t : Th} (h : opn T s = some t) : opd T s = t.d := by unfold opd; rw [h]
theorem opd_no {T : List Th} {s : Int} (h : opn T s = none) : opd T s = .non := by unfold opd; rw [h]
section
variable {N : TrN} {P : Pg} {h a b fu n : Nat} {S : Sto} {T : List Th} {Q : W → Sto → Prop}
theorem way_ok (ok : HsP P N.toHsN) (hW : Has P N.iW N.bW 4 8) (H : Hs N.toHsN h a b S T) (hT : T.length < 8000000) {k d : Nat} (hk : k < 2 ^ d) (hd : d ≤ 12) (s : Int)
    (q1 : ∀ w l, dnT T k d s = some (w, l) → l.length = d → Q (.d (.tup [.int w, .ref S.length])) (S ++ [.lst (l.map D.int)]))
    (q2 : dnT T k d s = none → ∀ o, Q (.d .non) (S ++ [o])) : Ok (run fu P (n + 2) N.iW [.ref h, .int s, .int (d : Int), .int (k : Int)] S) Q := by
  refine has_run hW rfl ?_
  show Ok (evSs fu _ _ _ N.bW [some (.ref h), some (.int s), some (.int (d : Int)), some (.int (k : Int)), none, none, none, none] S) _
  unfold TrN.bW
  refine ok_cons ?_
  have c1 : decide ((k : Int) < ((2 ^ d : Nat) : Int)) = true := decide_eq_true (by omega)
  have c0 : decide ((0 : Int) ≤ (k : Int)) = true := decide_eq_true (by omega)
  simp only [TrN.w0, tst, evE, evWs, evDs, evO, evC, evI, Ok_bind, Ok_ok, Ok_al, al_d, al_o, bind_ok, al_ok_d, al_ok_o, opt_some, testD_bl, List.getElem?_cons_zero, List.getElem?_cons_succ, List.set_cons_zero, List.set_cons_succ, Option.map_some, cmpW, ordW, bltW, binW, intW, addW, evS, Tg.put, if_true, Bool.false_eq_true, if_false, c0, shl_one hd, c1, Bool.not_true]
  refine ok_nil ?_
  refine ok_cons ?_
  simp only [TrN.w2, tst, evE, evWs, evDs, evO, evC, evI, Ok_bind, Ok_ok, Ok_al, al_d, al_o, bind_ok, al_ok_d, al_ok_o, opt_some, testD_bl, List.getElem?_cons_zero, List.getElem?_cons_succ, List.set_cons_zero, List.set_cons_succ, Option.map_some, cmpW, ordW, bltW, binW, intW, addW, evS, Tg.put, if_true, Bool.false_eq_true, if_false, List.length_nil]
  rw [if_pos (by decide)]
  simp only [tst, evE, evWs, evDs, evO, evC, evI, Ok_bind, Ok_ok, Ok_al, al_d, al_o, bind_ok, al_ok_d, al_ok_o, opt_some, testD_bl, List.getElem?_cons_zero, List.getElem?_cons_succ, List.set_cons_zero, List.set_cons_succ, Option.map_some, cmpW, ordW, bltW, binW, intW, addW, evS, Tg.put, if_true, Bool.false_eq_true, if_false]
  refine ok_cons ?_
  unfold TrN.w3
  rw [evS, evI_rngD (v := 2) (k := d) rfl (by omega)]
  simp only [Ok_bind, bind_ok]
  have Hn : ∀ o, Hs N.toHsN h a b (S ++ [o]) T := fun o => H.app o
  have hlm := H.lM ok (m := N.mO) (by simp)
  have op : ∀ (s : Int) (o : O) (Q : W → Sto → Prop), Q (.d (opd T s)) (S ++ [o]) → Ok (run fu P (n + 1) N.iO [.ref h, .int s] (S ++ [o])) Q := fun s o Q q => open_ok ok (Hn o) hT s q
  refine ok_for (fun l ρ S' => ∃ (j : Nat) (s' : Int) (acc : List Int) (x y z : Option D), j ≤ d ∧ l = (rngL ((d : Int) - 1) (-1) d).drop (d - j) ∧ S' = S ++ [.lst (acc.map D.int)] ∧ acc.length = d - j ∧
      ρ = [some (.ref h), some (.int s'), some (.int (d : Int)), some (.int (k : Int)), some (.ref S.length), x, y, z] ∧ dnT T k d s = (dnT T k j s').map fun p => (p.1, acc ++ p.2)) (fun _ _ _ _ => rfl) ?_ ?_ _ _ _
    ⟨d, s, [], none, none, none, Nat.le_refl _, by rw [Nat.sub_self]; rfl, rfl, by simp, rfl, by cases dnT T k d s <;> rfl⟩
  · rintro x l ρ S' ⟨j, s', acc, x1, x2, x3, hj, hl, rfl, hacc, rfl, hdn⟩
    cases j with
    | zero => rw [Nat.sub_zero, List.drop_eq_nil_of_le (by rw [rng_len]; exact Nat.le_refl _)] at hl; cases hl
    | succ j =>
      rw [rng_drop (by omega)] at hl
      injection hl with hx hl
      have hx : x = .int (j : Int) := by rw [hx]; congr 1; omega
      subst hx
      rw [show d - (j + 1) + 1 = d - j by omega] at hl
      simp only [Tg.put, List.set_cons_succ, List.set_cons_zero]
      refine ok_cons ?_
      simp only [TrN.w4, tst, evE, evWs, evDs, evO, evC, evI, Ok_bind, Ok_ok, Ok_al, al_d, al_o, bind_ok, al_ok_d, al_ok_o, opt_some, testD_bl, List.getElem?_cons_zero, List.getElem?_cons_succ, List.set_cons_zero, List.set_cons_succ, Option.map_some, cmpW, ordW, bltW, binW, intW, addW, evS, Tg.put, if_true, Bool.false_eq_true, if_false, (Hn _).i, hlm, List.lookup_cons, beq_self_eq_true, Option.isNone_none]
      refine op _ _ _ ?_
      simp only [tst, evE, evWs, evDs, evO, evC, evI, Ok_bind, Ok_ok, Ok_al, al_d, al_o, bind_ok, al_ok_d, al_ok_o, opt_some, testD_bl, List.getElem?_cons_zero, List.getElem?_cons_succ, List.set_cons_zero, List.set_cons_succ, Option.map_some, cmpW, ordW, bltW, binW, intW, addW, evS, Tg.put, if_true, Bool.false_eq_true, if_false]
      have hks := shr_nat k j
      have hm2 := mod_two (k / 2 ^ j)
      cases ht : opn T s' with
      | none =>
        rw [dnT_no ht] at hdn
        rw [opd_no ht]
        refine ok_cons ?_
        simp only [TrN.w5, tst, evE, evWs, evDs, evO, evC, evI, Ok_bind, Ok_ok, Ok_al, al_d, al_o, bind_ok, al_ok_d, al_ok_o, opt_some, testD_bl, List.getElem?_cons_zero, List.getElem?_cons_succ, List.set_cons_zero, List.set_cons_succ, Option.map_some, cmpW, ordW, bltW, binW, intW, addW, evS, Tg.put, if_true, Bool.false_eq_true, if_false, isNonW]
        refine ok_one ?_
        simp only [TrN.w1, tst, evE, evWs, evDs, evO, evC, evI, Ok_bind, Ok_ok, Ok_al, al_d, al_o, bind_ok, al_ok_d, al_ok_o, opt_some, testD_bl, List.getElem?_cons_zero, List.getElem?_cons_succ, List.set_cons_zero, List.set_cons_succ, Option.map_some, cmpW, ordW, bltW, binW, intW, addW, evS, Tg.put, if_true, Bool.false_eq_true, if_false]
        exact q2 hdn _
      | some t =>
        rw [opd_th ht]
        cases t with
        | leaf w =>
          rw [dnT_leafS ht] at hdn
          refine ok_cons ?_
          simp only [TrN.w5, tst, evE, evWs, evDs, evO, evC, evI, Ok_bind, Ok_ok, Ok_al, al_d, al_o, bind_ok, al_ok_d, al_ok_o, opt_some, testD_bl, List.getElem?_cons_zero, List.getElem?_cons_succ, List.set_cons_zero, List.set_cons_succ, Option.map_some, cmpW, ordW, bltW, binW, intW, addW, evS, Tg.put, if_true, Bool.false_eq_true, if_false, isNonW, Th.d]
          rw [idx_tup (v := 0) (x := .str sLeaf) rfl rfl (by decide)]
          simp only [tst, evE, evWs, evDs, evO, evC, evI, Ok_bind, Ok_ok, Ok_al, al_d, al_o, bind_ok, al_ok_d, al_ok_o, opt_some, testD_bl, List.getElem?_cons_zero, List.getElem?_cons_succ, List.set_cons_zero, List.set_cons_succ, Option.map_some, cmpW, ordW, bltW, binW, intW, addW, evS, Tg.put, if_true, Bool.false_eq_true, if_false]
          rw [eqW_scal rfl]
          simp only [tst, evE, evWs, evDs, evO, evC, evI, Ok_bind, Ok_ok, Ok_al, al_d, al_o, bind_ok, al_ok_d, al_ok_o, opt_some, testD_bl, List.getElem?_cons_zero, List.getElem?_cons_succ, List.set_cons_zero, List.set_cons_succ, Option.map_some, cmpW, ordW, bltW, binW, intW, addW, evS, Tg.put, if_true, Bool.false_eq_true, if_false, show decide (D.str sLeaf = .str [112, 97, 105, 114]) = false from rfl, Bool.not_false]
          refine ok_one ?_
          simp only [TrN.w1, tst, evE, evWs, evDs, evO, evC, evI, Ok_bind, Ok_ok, Ok_al, al_d, al_o, bind_ok, al_ok_d, al_ok_o, opt_some, testD_bl, List.getElem?_cons_zero, List.getElem?_cons_succ, List.set_cons_zero, List.set_cons_succ, Option.map_some, cmpW, ordW, bltW, binW, intW, addW, evS, Tg.put, if_true, Bool.false_eq_true, if_false]
          exact q2 hdn _
        | pair x y =>
          rw [dnT_pairS ht] at hdn
          refine ok_cons ?_
          simp only [TrN.w5, tst, evE, evWs, evDs, evO, evC, evI, Ok_bind, Ok_ok, Ok_al, al_d, al_o, bind_ok, al_ok_d, al_ok_o, opt_some, testD_bl, List.getElem?_cons_zero, List.getElem?_cons_succ, List.set_cons_zero, List.set_cons_succ, Option.map_some, cmpW, ordW, bltW, binW, intW, addW, evS, Tg.put, if_true, Bool.false_eq_true, if_false, isNonW, Th.d]
          rw [idx_tup (v := 0) (x := .str sPair) rfl rfl (by decide)]
          simp only [tst, evE, evWs, evDs, evO, evC, evI, Ok_bind, Ok_ok, Ok_al, al_d, al_o, bind_ok, al_ok_d, al_ok_o, opt_some, testD_bl, List.getElem?_cons_zero, List.getElem?_cons_succ, List.set_cons_zero, List.set_cons_succ, Option.map_some, cmpW, ordW, bltW, binW, intW, addW, evS, Tg.put, if_true, Bool.false_eq_true, if_false]
          rw [eqW_scal rfl]
          simp only [tst, evE, evWs, evDs, evO, evC, evI, Ok_bind, Ok_ok, Ok_al, al_d, al_o, bind_ok, al_ok_d, al_ok_o, opt_some, testD_bl, List.getElem?_cons_zero, List.getElem?_cons_succ, List.set_cons_zero, List.set_cons_succ, Option.map_some, cmpW, ordW, bltW, binW, intW, addW, evS, Tg.put, if_true, Bool.false_eq_true, if_false, show decide (D.str sPair = .str [112, 97, 105, 114]) = true from rfl, Bool.not_true]
          refine ok_nil ?_
          refine ok_cons ?_
          simp only [TrN.w7, tst, evE, evWs, evDs, evO, evC, evI, Ok_bind, Ok_ok, Ok_al, al_d, al_o, bind_ok, al_ok_d, al_ok_o, opt_some, testD_bl, List.getElem?_cons_zero, List.getElem?_cons_succ, List.set_cons_zero, List.set_cons_succ, Option.map_some, cmpW, ordW, bltW, binW, intW, addW, evS, Tg.put, if_true, Bool.false_eq_true, if_false, hks, hm2]
          refine ok_cons ?_
          simp only [TrN.w8, tst, evE, evWs, evDs, evO, evC, evI, Ok_bind, Ok_ok, Ok_al, al_d, al_o, bind_ok, al_ok_d, al_ok_o, opt_some, testD_bl, List.getElem?_cons_zero, List.getElem?_cons_succ, List.set_cons_zero, List.set_cons_succ, Option.map_some, cmpW, ordW, bltW, binW, intW, addW, evS, Tg.put, if_true, Bool.false_eq_true, if_false, Bmt.kd, kd_ref (app_at S _), Bmt.keeps]
          obtain ⟨u, hu, hu1⟩ : ∃ u, u = (if k / 2 ^ j % 2 = 0 then y else x) ∧ ∀ S, idxW (.d (.tup [.str sPair, .int x, .int y])) (.int (2 - ((k / 2 ^ j % 2 : Nat) : Int))) S = some (.int u) := by
            by_cases z : k / 2 ^ j % 2 = 0
            · rw [z]; exact ⟨y, rfl, fun _ => rfl⟩
            · rw [show k / 2 ^ j % 2 = 1 by omega]; exact ⟨x, rfl, fun _ => rfl⟩
          obtain ⟨v, hv, hv1⟩ : ∃ v, v = (if k / 2 ^ j % 2 = 0 then x else y) ∧ ∀ S, idxW (.d (.tup [.str sPair, .int x, .int y])) (.int (1 + ((k / 2 ^ j % 2 : Nat) : Int))) S = some (.int v) := by
            by_cases z : k / 2 ^ j % 2 = 0
            · rw [z]; exact ⟨x, rfl, fun _ => rfl⟩
            · rw [show k / 2 ^ j % 2 = 1 by omega]; exact ⟨y, rfl, fun _ => rfl⟩
          rw [← hu, ← hv] at hdn
          simp only [hu1, tst, evE, evWs, evDs, evO, evC, evI, Ok_bind, Ok_ok, Ok_al, al_d, al_o, bind_ok, al_ok_d, al_ok_o, opt_some, testD_bl, List.getElem?_cons_zero, List.getElem?_cons_succ, List.set_cons_zero, List.set_cons_succ, Option.map_some, cmpW, ordW, bltW, binW, intW, addW, evS, Tg.put, if_true, Bool.false_eq_true, if_false]
          rw [append_ref (app_at S _) (by rw [List.length_map]; simp only [LINE]; omega), app_set]
          simp only [tst, evE, evWs, evDs, evO, evC, evI, Ok_bind, Ok_ok, Ok_al, al_d, al_o, bind_ok, al_ok_d, al_ok_o, opt_some, testD_bl, List.getElem?_cons_zero, List.getElem?_cons_succ, List.set_cons_zero, List.set_cons_succ, Option.map_some, cmpW, ordW, bltW, binW, intW, addW, evS, Tg.put, if_true, Bool.false_eq_true, if_false]
          refine ok_one ?_
          simp only [TrN.w9, tst, evE, evWs, evDs, evO, evC, evI, Ok_bind, Ok_ok, Ok_al, al_d, al_o, bind_ok, al_ok_d, al_ok_o, opt_some, testD_bl, List.getElem?_cons_zero, List.getElem?_cons_succ, List.set_cons_zero, List.set_cons_succ, Option.map_some, cmpW, ordW, bltW, binW, intW, addW, evS, Tg.put, if_true, Bool.false_eq_true, if_false, hv1]
          refine ⟨j, v, acc ++ [u], _, _, _, by omega, hl, by simp, by rw [List.length_append, List.length_singleton]; omega, rfl, ?_⟩
          rw [hdn, Option.map_map]
          congr 1
          funext p
          simp
  · rintro ρ S' ⟨j, s', acc, x1, x2, x3, hj, hl, rfl, hacc, rfl, hdn⟩
    have hj0 : j = 0 := by
      have := congrArg List.length hl
      rw [List.length_drop, rng_len] at this
      simp only [List.length_nil] at this
      omega
    subst hj0
    refine ok_cons ?_
    simp only [TrN.w4, tst, evE, evWs, evDs, evO, evC, evI, Ok_bind, Ok_ok, Ok_al, al_d, al_o, bind_ok, al_ok_d, al_ok_o, opt_some, testD_bl, List.getElem?_cons_zero, List.getElem?_cons_succ, List.set_cons_zero, List.set_cons_succ, Option.map_some, cmpW, ordW, bltW, binW, intW, addW, evS, Tg.put, if_true, Bool.false_eq_true, if_false, (Hn _).i, hlm, List.lookup_cons, beq_self_eq_true, Option.isNone_none]
    refine op _ _ _ ?_
    simp only [tst, evE, evWs, evDs, evO, evC, evI, Ok_bind, Ok_ok, Ok_al, al_d, al_o, bind_ok, al_ok_d, al_ok_o, opt_some, testD_bl, List.getElem?_cons_zero, List.getElem?_cons_succ, List.set_cons_zero, List.set_cons_succ, Option.map_some, cmpW, ordW, bltW, binW, intW, addW, evS, Tg.put, if_true, Bool.false_eq_true, if_false]
    cases ht : opn T s' with
    | none =>
      rw [dnT_no ht] at hdn
      rw [opd_no ht]
      refine ok_cons ?_
      simp only [TrN.w11, tst, evE, evWs, evDs, evO, evC, evI, Ok_bind, Ok_ok, Ok_al, al_d, al_o, bind_ok, al_ok_d, al_ok_o, opt_some, testD_bl, List.getElem?_cons_zero, List.getElem?_cons_succ, List.set_cons_zero, List.set_cons_succ, Option.map_some, cmpW, ordW, bltW, binW, intW, addW, evS, Tg.put, if_true, Bool.false_eq_true, if_false, isNonW]
      refine ok_one ?_
      simp only [TrN.w1, tst, evE, evWs, evDs, evO, evC, evI, Ok_bind, Ok_ok, Ok_al, al_d, al_o, bind_ok, al_ok_d, al_ok_o, opt_some, testD_bl, List.getElem?_cons_zero, List.getElem?_cons_succ, List.set_cons_zero, List.set_cons_succ, Option.map_some, cmpW, ordW, bltW, binW, intW, addW, evS, Tg.put, if_true, Bool.false_eq_true, if_false]
      exact q2 hdn _
    | some t =>
      rw [opd_th ht]
      cases t with
      | leaf w =>
        rw [dnT_leaf0 ht] at hdn
        refine ok_cons ?_
        simp only [TrN.w11, tst, evE, evWs, evDs, evO, evC, evI, Ok_bind, Ok_ok, Ok_al, al_d, al_o, bind_ok, al_ok_d, al_ok_o, opt_some, testD_bl, List.getElem?_cons_zero, List.getElem?_cons_succ, List.set_cons_zero, List.set_cons_succ, Option.map_some, cmpW, ordW, bltW, binW, intW, addW, evS, Tg.put, if_true, Bool.false_eq_true, if_false, isNonW, Th.d]
        rw [idx_tup (v := 0) (x := .str sLeaf) rfl rfl (by decide)]
        simp only [tst, evE, evWs, evDs, evO, evC, evI, Ok_bind, Ok_ok, Ok_al, al_d, al_o, bind_ok, al_ok_d, al_ok_o, opt_some, testD_bl, List.getElem?_cons_zero, List.getElem?_cons_succ, List.set_cons_zero, List.set_cons_succ, Option.map_some, cmpW, ordW, bltW, binW, intW, addW, evS, Tg.put, if_true, Bool.false_eq_true, if_false]
        rw [eqW_scal rfl]
        simp only [tst, evE, evWs, evDs, evO, evC, evI, Ok_bind, Ok_ok, Ok_al, al_d, al_o, bind_ok, al_ok_d, al_ok_o, opt_some, testD_bl, List.getElem?_cons_zero, List.getElem?_cons_succ, List.set_cons_zero, List.set_cons_succ, Option.map_some, cmpW, ordW, bltW, binW, intW, addW, evS, Tg.put, if_true, Bool.false_eq_true, if_false, show decide (D.str sLeaf = .str [108, 101, 97, 102]) = true from rfl, Bool.not_true]
        refine ok_nil ?_
        refine ok_one ?_
        simp only [TrN.w13, tst, evE, evWs, evDs, evO, evC, evI, Ok_bind, Ok_ok, Ok_al, al_d, al_o, bind_ok, al_ok_d, al_ok_o, opt_some, testD_bl, List.getElem?_cons_zero, List.getElem?_cons_succ, List.set_cons_zero, List.set_cons_succ, Option.map_some, cmpW, ordW, bltW, binW, intW, addW, evS, Tg.put, if_true, Bool.false_eq_true, if_false]
        rw [idx_tup (v := 1) (x := .int w) rfl rfl (by decide)]
        simp only [tst, evE, evWs, evDs, evO, evC, evI, Ok_bind, Ok_ok, Ok_al, al_d, al_o, bind_ok, al_ok_d, al_ok_o, opt_some, testD_bl, List.getElem?_cons_zero, List.getElem?_cons_succ, List.set_cons_zero, List.set_cons_succ, Option.map_some, cmpW, ordW, bltW, binW, intW, addW, evS, Tg.put, if_true, Bool.false_eq_true, if_false, List.length_cons, List.length_nil]
        rw [if_pos (by decide)]
        refine q1 w acc ?_ (by omega)
        rw [hdn]
        simp
      | pair x y =>
        rw [dnT_pair0 ht] at hdn
        refine ok_cons ?_
        simp only [TrN.w11, tst, evE, evWs, evDs, evO, evC, evI, Ok_bind, Ok_ok, Ok_al, al_d, al_o, bind_ok, al_ok_d, al_ok_o, opt_some, testD_bl, List.getElem?_cons_zero, List.getElem?_cons_succ, List.set_cons_zero, List.set_cons_succ, Option.map_some, cmpW, ordW, bltW, binW, intW, addW, evS, Tg.put, if_true, Bool.false_eq_true, if_false, isNonW, Th.d]
        rw [idx_tup (v := 0) (x := .str sPair) rfl rfl (by decide)]
        simp only [tst, evE, evWs, evDs, evO, evC, evI, Ok_bind, Ok_ok, Ok_al, al_d, al_o, bind_ok, al_ok_d, al_ok_o, opt_some, testD_bl, List.getElem?_cons_zero, List.getElem?_cons_succ, List.set_cons_zero, List.set_cons_succ, Option.map_some, cmpW, ordW, bltW, binW, intW, addW, evS, Tg.put, if_true, Bool.false_eq_true, if_false]
        rw [eqW_scal rfl]
        simp only [tst, evE, evWs, evDs, evO, evC, evI, Ok_bind, Ok_ok, Ok_al, al_d, al_o, bind_ok, al_ok_d, al_ok_o, opt_some, testD_bl, List.getElem?_cons_zero, List.getElem?_cons_succ, List.set_cons_zero, List.set_cons_succ, Option.map_some, cmpW, ordW, bltW, binW, intW, addW, evS, Tg.put, if_true, Bool.false_eq_true, if_false, show decide (D.str sPair = .str [108, 101, 97, 102]) = false from rfl, Bool.not_false]
        refine ok_one ?_
        simp only [TrN.w1, tst, evE, evWs, evDs, evO, evC, evI, Ok_bind, Ok_ok, Ok_al, al_d, al_o, bind_ok, al_ok_d, al_ok_o, opt_some, testD_bl, List.getElem?_cons_zero, List.getElem?_cons_succ, List.set_cons_zero, List.set_cons_succ, Option.map_some, cmpW, ordW, bltW, binW, intW, addW, evS, Tg.put, if_true, Bool.false_eq_true, if_false]
        exact q2 hdn _
theorem word_ok (ok : HsP P N.toHsN) (hW : Has P N.iW N.bW 4 8) (hV : Has P N.iV N.bV 4 5) (H : Hs N.toHsN h a b S T) (hT : T.length < 8000000) {k d : Nat} (hk : k < 2 ^ d) (hd : d ≤ 12) (s : Int)
    (q1 : ∀ w l, dnT T k d s = some (w, l) → ∀ o, Q (.d (.int w)) (S ++ [o]))
    (q2 : dnT T k d s = none → ∀ o, Q (.d .non) (S ++ [o])) : Ok (run fu P (n + 3) N.iV [.ref h, .int s, .int (d : Int), .int (k : Int)] S) Q := by
  refine has_run hV rfl ?_
  show Ok (evSs fu _ _ _ N.bV [some (.ref h), some (.int s), some (.int (d : Int)), some (.int (k : Int)), none] S) _
  unfold TrN.bV
  refine ok_cons ?_
  simp only [TrN.v0, tst, evE, evWs, evDs, evO, evC, evI, Ok_bind, Ok_ok, Ok_al, al_d, al_o, bind_ok, al_ok_d, al_ok_o, opt_some, testD_bl, List.getElem?_cons_zero, List.getElem?_cons_succ, List.set_cons_zero, List.set_cons_succ, Option.map_some, cmpW, ordW, bltW, binW, intW, addW, evS, Tg.put, if_true, Bool.false_eq_true, if_false]
  refine way_ok ok hW H hT hk hd s (fun w l e hl => ?_) (fun e o => ?_)
  · simp only [tst, evE, evWs, evDs, evO, evC, evI, Ok_bind, Ok_ok, Ok_al, al_d, al_o, bind_ok, al_ok_d, al_ok_o, opt_some, testD_bl, List.getElem?_cons_zero, List.getElem?_cons_succ, List.set_cons_zero, List.set_cons_succ, Option.map_some, cmpW, ordW, bltW, binW, intW, addW, evS, Tg.put, if_true, Bool.false_eq_true, if_false]
    refine ok_cons ?_
    simp only [TrN.v1, tst, evE, evWs, evDs, evO, evC, evI, Ok_bind, Ok_ok, Ok_al, al_d, al_o, bind_ok, al_ok_d, al_ok_o, opt_some, testD_bl, List.getElem?_cons_zero, List.getElem?_cons_succ, List.set_cons_zero, List.set_cons_succ, Option.map_some, cmpW, ordW, bltW, binW, intW, addW, evS, Tg.put, if_true, Bool.false_eq_true, if_false, isNonW]
    refine ok_nil ?_
    refine ok_one ?_
    simp only [TrN.v3, tst, evE, evWs, evDs, evO, evC, evI, Ok_bind, Ok_ok, Ok_al, al_d, al_o, bind_ok, al_ok_d, al_ok_o, opt_some, testD_bl, List.getElem?_cons_zero, List.getElem?_cons_succ, List.set_cons_zero, List.set_cons_succ, Option.map_some, cmpW, ordW, bltW, binW, intW, addW, evS, Tg.put, if_true, Bool.false_eq_true, if_false]
    rw [idx_tup (v := 0) (x := .int w) rfl rfl (by decide)]
    simp only [tst, evE, evWs, evDs, evO, evC, evI, Ok_bind, Ok_ok, Ok_al, al_d, al_o, bind_ok, al_ok_d, al_ok_o, opt_some, testD_bl, List.getElem?_cons_zero, List.getElem?_cons_succ, List.set_cons_zero, List.set_cons_succ, Option.map_some, cmpW, ordW, bltW, binW, intW, addW, evS, Tg.put, if_true, Bool.false_eq_true, if_false]
    exact q1 w l e _
  · simp only [tst, evE, evWs, evDs, evO, evC, evI, Ok_bind, Ok_ok, Ok_al, al_d, al_o, bind_ok, al_ok_d, al_ok_o, opt_some, testD_bl, List.getElem?_cons_zero, List.getElem?_cons_succ, List.set_cons_zero, List.set_cons_succ, Option.map_some, cmpW, ordW, bltW, binW, intW, addW, evS, Tg.put, if_true, Bool.false_eq_true, if_false]
    refine ok_cons ?_
    simp only [TrN.v1, tst, evE, evWs, evDs, evO, evC, evI, Ok_bind, Ok_ok, Ok_al, al_d, al_o, bind_ok, al_ok_d, al_ok_o, opt_some, testD_bl, List.getElem?_cons_zero, List.getElem?_cons_succ, List.set_cons_zero, List.set_cons_succ, Option.map_some, cmpW, ordW, bltW, binW, intW, addW, evS, Tg.put, if_true, Bool.false_eq_true, if_false, isNonW]
    refine ok_one ?_
    simp only [TrN.w1, tst, evE, evWs, evDs, evO, evC, evI, Ok_bind, Ok_ok, Ok_al, al_d, al_o, bind_ok, al_ok_d, al_ok_o, opt_some, testD_bl, List.getElem?_cons_zero, List.getElem?_cons_succ, List.set_cons_zero, List.set_cons_succ, Option.map_some, cmpW, ordW, bltW, binW, intW, addW, evS, Tg.put, if_true, Bool.false_eq_true, if_false]
    exact q2 e o
theorem path_ok (ok : HsP P N.toHsN) (hW : Has P N.iW N.bW 4 8) (hB : Has P N.iB N.bB 4 5) (H : Hs N.toHsN h a b S T) (hT : T.length < 8000000) {k d : Nat} (hk : k < 2 ^ d) (hd : d ≤ 12) (s : Int)
    (q1 : ∀ w l, dnT T k d s = some (w, l) → l.length = d → ∀ o, Q (.d (.tup [.int w, .tup (l.reverse.map D.int)])) (S ++ [o]))
    (q2 : dnT T k d s = none → ∀ o, Q (.d .non) (S ++ [o])) : Ok (run fu P (n + 3) N.iB [.ref h, .int s, .int (d : Int), .int (k : Int)] S) Q := by
  refine has_run hB rfl ?_
  show Ok (evSs fu _ _ _ N.bB [some (.ref h), some (.int s), some (.int (d : Int)), some (.int (k : Int)), none] S) _
  unfold TrN.bB
  refine ok_cons ?_
  simp only [TrN.v0, tst, evE, evWs, evDs, evO, evC, evI, Ok_bind, Ok_ok, Ok_al, al_d, al_o, bind_ok, al_ok_d, al_ok_o, opt_some, testD_bl, List.getElem?_cons_zero, List.getElem?_cons_succ, List.set_cons_zero, List.set_cons_succ, Option.map_some, cmpW, ordW, bltW, binW, intW, addW, evS, Tg.put, if_true, Bool.false_eq_true, if_false]
  refine way_ok ok hW H hT hk hd s (fun w l e hl => ?_) (fun e o => ?_)
  · simp only [tst, evE, evWs, evDs, evO, evC, evI, Ok_bind, Ok_ok, Ok_al, al_d, al_o, bind_ok, al_ok_d, al_ok_o, opt_some, testD_bl, List.getElem?_cons_zero, List.getElem?_cons_succ, List.set_cons_zero, List.set_cons_succ, Option.map_some, cmpW, ordW, bltW, binW, intW, addW, evS, Tg.put, if_true, Bool.false_eq_true, if_false]
    refine ok_cons ?_
    simp only [TrN.v1, tst, evE, evWs, evDs, evO, evC, evI, Ok_bind, Ok_ok, Ok_al, al_d, al_o, bind_ok, al_ok_d, al_ok_o, opt_some, testD_bl, List.getElem?_cons_zero, List.getElem?_cons_succ, List.set_cons_zero, List.set_cons_succ, Option.map_some, cmpW, ordW, bltW, binW, intW, addW, evS, Tg.put, if_true, Bool.false_eq_true, if_false, isNonW]
    refine ok_nil ?_
    refine ok_one ?_
    simp only [TrN.p3, tst, evE, evWs, evDs, evO, evC, evI, Ok_bind, Ok_ok, Ok_al, al_d, al_o, bind_ok, al_ok_d, al_ok_o, opt_some, testD_bl, List.getElem?_cons_zero, List.getElem?_cons_succ, List.set_cons_zero, List.set_cons_succ, Option.map_some, cmpW, ordW, bltW, binW, intW, addW, evS, Tg.put, if_true, Bool.false_eq_true, if_false]
    rw [idx_tup (v := 0) (x := .int w) rfl rfl (by decide)]
    simp only [tst, evE, evWs, evDs, evO, evC, evI, Ok_bind, Ok_ok, Ok_al, al_d, al_o, bind_ok, al_ok_d, al_ok_o, opt_some, testD_bl, List.getElem?_cons_zero, List.getElem?_cons_succ, List.set_cons_zero, List.set_cons_succ, Option.map_some, cmpW, ordW, bltW, binW, intW, addW, evS, Tg.put, if_true, Bool.false_eq_true, if_false]
    rw [idx_tup (v := 1) (x := .ref S.length) rfl rfl (by decide)]
    simp only [tst, evE, evWs, evDs, evO, evC, evI, Ok_bind, Ok_ok, Ok_al, al_d, al_o, bind_ok, al_ok_d, al_ok_o, opt_some, testD_bl, List.getElem?_cons_zero, List.getElem?_cons_succ, List.set_cons_zero, List.set_cons_succ, Option.map_some, cmpW, ordW, bltW, binW, intW, addW, evS, Tg.put, if_true, Bool.false_eq_true, if_false, lsrc, app_at, List.length_cons, List.length_nil]
    rw [if_pos (by decide), ← List.map_reverse]
    exact q1 w l e hl _
  · simp only [tst, evE, evWs, evDs, evO, evC, evI, Ok_bind, Ok_ok, Ok_al, al_d, al_o, bind_ok, al_ok_d, al_ok_o, opt_some, testD_bl, List.getElem?_cons_zero, List.getElem?_cons_succ, List.set_cons_zero, List.set_cons_succ, Option.map_some, cmpW, ordW, bltW, binW, intW, addW, evS, Tg.put, if_true, Bool.false_eq_true, if_false]
    refine ok_cons ?_
    simp only [TrN.v1, tst, evE, evWs, evDs, evO, evC, evI, Ok_bind, Ok_ok, Ok_al, al_d, al_o, bind_ok, al_ok_d, al_ok_o, opt_some, testD_bl, List.getElem?_cons_zero, List.getElem?_cons_succ, List.set_cons_zero, List.set_cons_succ, Option.map_some, cmpW, ordW, bltW, binW, intW, addW, evS, Tg.put, if_true, Bool.false_eq_true, if_false, isNonW]
    refine ok_one ?_
    simp only [TrN.w1, tst, evE, evWs, evDs, evO, evC, evI, Ok_bind, Ok_ok, Ok_al, al_d, al_o, bind_ok, al_ok_d, al_ok_o, opt_some, testD_bl, List.getElem?_cons_zero, List.getElem?_cons_succ, List.set_cons_zero, List.set_cons_succ, Option.map_some, cmpW, ordW, bltW, binW, intW, addW, evS, Tg.put, if_true, Bool.false_eq_true, if_false]
    exact q2 e o
end
end PyI

set_option maxRecDepth 100000
set_option maxHeartbeats 1000000
/-! PyI: trees: puts. -/
namespace PyI
/-- the other one of a pair -/
def flip (m : Nat) : Nat := if m % 2 = 0 then m + 1 else m - 1
theorem flip_ne (m : Nat) : flip m ≠ m := by unfold flip; split <;> omega
theorem flip_half (m : Nat) : flip m / 2 = m / 2 := by unfold flip; split <;> omega
theorem two_mod (k d : Nat) : k % 2 ^ (d + 1) = k / 2 ^ d % 2 * 2 ^ d + k % 2 ^ d := by
  rw [Nat.pow_succ, Nat.mod_mul, Nat.add_comm, Nat.mul_comm]
theorem Sl.dn {T : List Th} {f : Nat → Int} {k : Nat} : ∀ {d i : Nat} {s : Int}, Sl T f d i s → ∃ l, dnT T k d s = some (f (i * 2 ^ d + k % 2 ^ d), l) ∧ l.length = d ∧ ∀ j, j < d → ∃ z, l.reverse[j]? = some z ∧ Sl T f j (flip ((i * 2 ^ d + k % 2 ^ d) / 2 ^ j)) z
  | 0, i, s, h => by
    refine ⟨[], ?_, rfl, fun j hj => absurd hj (Nat.not_lt_zero _)⟩
    rw [dnT_leaf0 h.opn, show i * 2 ^ 0 + k % 2 ^ 0 = i by omega]
  | d + 1, i, s, h => by
    obtain ⟨x, y, ha, hx, hy⟩ := h
    obtain ⟨b, hb⟩ : ∃ b, k / 2 ^ d % 2 = b := ⟨_, rfl⟩
    have hb2 : b < 2 := by omega
    have hK : i * 2 ^ (d + 1) + k % 2 ^ (d + 1) = (2 * i + b) * 2 ^ d + k % 2 ^ d := by
      rw [two_mod, hb, Nat.pow_succ, Nat.add_mul, Nat.mul_comm 2 i, Nat.mul_assoc i 2, Nat.mul_comm 2 (2 ^ d), Nat.add_assoc]
    have hu : Sl T f d (2 * i + b) (if k / 2 ^ d % 2 = 0 then x else y) := by
      rw [hb]
      by_cases z : b = 0
      · rw [if_pos z, z]; exact hx
      · rw [if_neg z, show b = 1 by omega]; exact hy
    have hv : Sl T f d (flip (2 * i + b)) (if k / 2 ^ d % 2 = 0 then y else x) := by
      rw [hb]
      unfold flip
      by_cases z : b = 0
      · rw [if_pos z, z, if_pos (by omega)]; exact hy
      · rw [if_neg z, show b = 1 by omega, if_neg (by omega)]; exact hx
    obtain ⟨l, h1, h2, h3⟩ := Sl.dn (k := k) hu
    refine ⟨(if k / 2 ^ d % 2 = 0 then y else x) :: l, ?_, by rw [List.length_cons, h2], fun j hj => ?_⟩
    · rw [dnT_pairS ha.opn, h1, hK]
      rfl
    · rw [List.reverse_cons, hK]
      by_cases z : j < d
      · rw [List.getElem?_append_left (by rw [List.length_reverse, h2]; exact z)]
        exact h3 j z
      · have : j = d := by omega
        subst this
        rw [List.getElem?_append_right (by rw [List.length_reverse, h2]; exact Nat.le_refl _), List.length_reverse, h2, Nat.sub_self]
        refine ⟨_, rfl, ?_⟩
        have hpos : 0 < 2 ^ j := Nat.pow_pos (by decide)
        rw [show ((2 * i + b) * 2 ^ j + k % 2 ^ j) / 2 ^ j = 2 * i + b by
          rw [Nat.mul_comm, Nat.mul_add_div hpos, Nat.div_eq_of_lt (Nat.mod_lt _ hpos), Nat.add_zero]]
        exact hv
/-- with another word at K -/
def updF (f : Nat → Int) (K : Nat) (w : Int) : Nat → Int := fun i => if i = K then w else f i
theorem Sl.off {T : List Th} {f : Nat → Int} {K : Nat} {w : Int} {j m : Nat} {s : Int} (hm : m ≠ K / 2 ^ j) (h : Sl T f j m s) : Sl T (updF f K w) j m s := by
  refine Sl.congr (fun i h1 h2 => ?_) h
  unfold updF
  rw [if_neg]
  intro e
  subst e
  exact hm (by
    have hpos : 0 < 2 ^ j := Nat.pow_pos (by decide)
    have := (Nat.le_div_iff_mul_le hpos).mpr h1
    have := (Nat.div_lt_iff_lt_mul hpos).mpr h2
    omega)
theorem Sl.up {T : List Th} {f : Nat → Int} {m j : Nat} {s x z : Int} (hx : Sl T f j m x) (hz : Sl T f j (flip m) z) (ha : At T s (if m % 2 = 0 then .pair x z else .pair z x)) : Sl T f (j + 1) (m / 2) s := by
  unfold flip at hz
  by_cases e : m % 2 = 0
  · rw [if_pos e] at ha hz
    refine ⟨x, z, ha, ?_, ?_⟩
    · rw [show 2 * (m / 2) = m by omega]; exact hx
    · rw [show 2 * (m / 2) = m by omega]; exact hz
  · rw [if_neg e] at ha hz
    refine ⟨z, x, ha, ?_, ?_⟩
    · rw [show 2 * (m / 2) = m - 1 by omega]; exact hz
    · rw [show 2 * (m / 2) + 1 = m by omega]; exact hx
theorem len_one {α : Type} (d : α) : [d].length ≤ LINE := by show 0 + 1 ≤ LINE; decide
theorem ok_lst1 {cb ci : Cb} {ini : Nat → Option Nat} {ρ : Env} {S : Sto} {e : Ex} {Q : W → Sto → Prop} (h : Ok (evE cb ci ini e ρ S) fun w S => Ok (w.al S) fun d S => Q (.o (.lst [d])) S) : Ok (evE cb ci ini (.lst (.cons e .nil)) ρ S) Q := by
  rw [evE, Ok_bind, evDs, Ok_bind, Ok_al]
  refine h.mono fun w S' h => ?_
  refine h.mono fun d S' h => ?_
  rw [evDs, bind_ok, Ok_ok, if_pos (len_one d)]
  exact h
theorem evI_rng1 {cb ci : Cb} {ini : Nat → Option Nat} {ρ : Env} {S : Sto} {v k : Nat} (hv : ρ[v]? = some (some (.int (k : Int)))) (hk : k ≤ 8000000) :
    evI cb ci ini (.rng1 (.var v)) ρ S = .ok ⟨rngL 0 1 k, []⟩ S := by
  have h1 : evE cb ci ini (.var v) ρ S = .ok (.d (.int (k : Int))) S := by
    simp only [tst, evE, evWs, evDs, evO, evC, evI, Ok_bind, Ok_ok, Ok_al, al_d, al_o, bind_ok, al_ok_d, al_ok_o, opt_some, testD_bl, List.getElem?_cons_zero, List.getElem?_cons_succ, List.set_cons_zero, List.set_cons_succ, Option.map_some, cmpW, ordW, bltW, binW, intW, addW, evS, Tg.put, if_true, Bool.false_eq_true, if_false, hv]
  rw [evI, h1, bind_ok]
  generalize hB : (2 : Int) ^ 62 = B
  have hB' : 10000000 < B := by omega
  clear hB
  dsimp only
  rw [if_pos ⟨by omega, by omega⟩, Int.toNat_natCast]
section
variable {N : TrN} {P : Pg} {h a b fu n : Nat} {S : Sto} {T : List Th} {Q : W → Sto → Prop}
theorem raised_ok (ok : HsP P N.toHsN) (hR : Has P N.iR N.bR 5 7) (H : Hs N.toHsN h a b S T) (hT : T.length + 20 < 8000000) {K d : Nat} (hd : d ≤ 12) (w : Int) {f : Nat → Int} {sib : List Int} (hsl : sib.length = d)
    (hs : ∀ j, j < d → ∃ z, sib[j]? = some z ∧ Sl T f j (flip (K / 2 ^ j)) z)
    (q : ∀ (S' : Sto) (T' : List Th) (p : Nat) (fo : List Int), Hs N.toHsN h a b S' T' → Ext T T' (d + 1) → Fh a b S S' → S'[p]? = some (.lst (fo.map D.int)) → fo.length = d + 1 → (∀ j s, fo[j]? = some s → Sl T' (updF f K w) j (K / 2 ^ j) s) → Q (.d (.ref p)) S') :
    Ok (run fu P (n + 3) N.iR [.ref h, .int (d : Int), .int (K : Int), .int w, .tup (sib.map D.int)] S) Q := by
  refine has_run hR rfl ?_
  show Ok (evSs fu _ _ _ N.bR [some (.ref h), some (.int (d : Int)), some (.int (K : Int)), some (.int w), some (.tup (sib.map D.int)), none, none] S) _
  unfold TrN.bR
  refine ok_cons ?_
  have hlm := H.lM ok (m := N.mL) (by simp)
  have hlp := H.lM ok (m := N.mP) (by simp)
  unfold TrN.r0
  rw [evS, Ok_bind, Ok_al]
  refine ok_lst1 ?_
  rw [ev_meth (f := N.iL) rfl H.i (H.lM ok (by simp)) (by simp)]
  simp only [tst, evE, evWs, evDs, evO, evC, evI, Ok_bind, Ok_ok, Ok_al, al_d, al_o, bind_ok, al_ok_d, al_ok_o, opt_some, testD_bl, List.getElem?_cons_zero, List.getElem?_cons_succ, List.set_cons_zero, List.set_cons_succ, Option.map_some, cmpW, ordW, bltW, binW, intW, addW, evS, Tg.put, if_true, Bool.false_eq_true, if_false]
  apply leaf_ok ok H (by omega) w
  intro S1 H1 hF1 hL1
  simp only [tst, evE, evWs, evDs, evO, evC, evI, Ok_bind, Ok_ok, Ok_al, al_d, al_o, bind_ok, al_ok_d, al_ok_o, opt_some, testD_bl, List.getElem?_cons_zero, List.getElem?_cons_succ, List.set_cons_zero, List.set_cons_succ, Option.map_some, cmpW, ordW, bltW, binW, intW, addW, evS, Tg.put, if_true, Bool.false_eq_true, if_false]
  have hz : True := trivial
  refine ok_cons ?_
  unfold TrN.r1
  rw [evS, evI_rng1 (v := 1) (k := d) rfl (by omega)]
  simp only [Ok_bind, bind_ok]
  have hb1 := H1.lt
  show Ok (forGo _ _ (rngL 0 1 d) _ _) _
  refine ok_for (fun l ρ S' => ∃ (fo : List Int) (T' : List Th) (x : Option D), fo.length ≤ d + 1 ∧ 0 < fo.length ∧ l = (rngL 0 1 d).drop (fo.length - 1) ∧ S'[S1.length]? = some (.lst (fo.map D.int)) ∧ Hs N.toHsN h a b S' T' ∧ Ext T T' fo.length ∧ Fh a b S S' ∧
      ρ = [some (.ref h), some (.int (d : Int)), some (.int (K : Int)), some (.int w), some (.tup (sib.map D.int)), some (.ref S1.length), x] ∧ ∀ j s, fo[j]? = some s → Sl T' (updF f K w) j (K / 2 ^ j) s) (fun _ _ _ _ => rfl) ?_ ?_ _ _ _
    ⟨[num T (.leaf w)], giv T (.leaf w), none, by simp, by simp, rfl, app_at _ _, H1.app _, giv_ext _ _, hF1.trans (Fh.app _), rfl, fun j s e => ?_⟩
  · rintro x l ρ S' ⟨fo, T', x1, hfo, hfo0, hl, ep, H', he, hF, rfl, hfs⟩
    obtain ⟨m, hm⟩ : ∃ m, fo.length = m + 1 := ⟨fo.length - 1, by omega⟩
    rw [hm, Nat.add_sub_cancel] at hl
    obtain ⟨hx, hr, hi⟩ := drop_inv hl.symm
    rw [rng_len] at hi
    obtain ⟨_, hx⟩ := rng_get hx
    have hx : x = .int (m : Int) := by rw [hx]; congr 1; omega
    subst hx
    have hks := shr_nat K m
    have hm2 := mod_two (K / 2 ^ m)
    obtain ⟨u, hu⟩ : ∃ u, fo[m]? = some u := ⟨_, List.getElem?_eq_getElem (by omega)⟩
    obtain ⟨z, hz, hzs⟩ := hs m hi
    have i1 : ∀ {S : Sto}, S[S1.length]? = some (.lst (fo.map D.int)) → idxW (.d (.ref S1.length)) (.int (m : Int)) S = some (.int u) := fun e => idx_rn e (by rw [List.getElem?_map, hu]; rfl)
    have i2 : ∀ S, idxW (.d (.tup (sib.map D.int))) (.int (m : Int)) S = some (.int z) := fun S => idx_tn (by rw [List.getElem?_map, hz]; rfl)
    have hT' : T'.length < 8000000 := by have := he.2; omega
    have fin : ∀ (S2 : Sto) (t : Th), t = (if K / 2 ^ m % 2 = 0 then Th.pair u z else Th.pair z u) → Hs N.toHsN h a b S2 (giv T' t) → Fh a b S' S2 → S2.length = S'.length →
        ∃ (fo' : List Int) (T'' : List Th) (x : Option D), fo'.length ≤ d + 1 ∧ 0 < fo'.length ∧ l = (rngL 0 1 d).drop (fo'.length - 1) ∧ (S2.set S1.length (.lst (fo.map D.int ++ [.int (num T' t)])))[S1.length]? = some (.lst (fo'.map D.int)) ∧ Hs N.toHsN h a b (S2.set S1.length (.lst (fo.map D.int ++ [.int (num T' t)]))) T'' ∧ Ext T T'' fo'.length ∧ Fh a b S (S2.set S1.length (.lst (fo.map D.int ++ [.int (num T' t)]))) ∧
      [some (D.ref h), some (.int (d : Int)), some (.int (K : Int)), some (.int w), some (.tup (sib.map D.int)), some (.ref S1.length), some (.int (m : Int))] = [some (.ref h), some (.int (d : Int)), some (.int (K : Int)), some (.int w), some (.tup (sib.map D.int)), some (.ref S1.length), x] ∧ ∀ j s, fo'[j]? = some s → Sl T'' (updF f K w) j (K / 2 ^ j) s := by
      intro S2 t ht H2 hF2 hL2
      have e2 := hF2.at_ ep (by omega) (by omega)
      refine ⟨fo ++ [num T' t], giv T' t, _, by rw [List.length_append, List.length_singleton]; omega, by simp, by rw [List.length_append, List.length_singleton, hm]; exact hr, by rw [set_at e2]; simp, ⟨?_, ?_, ?_, H2.nd⟩, by rw [List.length_append]; exact he.trans (giv_ext _ _), ⟨?_, ?_⟩, rfl, fun j s hj => ?_⟩
      · rw [List.getElem?_set_ne (by omega)]; exact H2.i
      · rw [List.getElem?_set_ne (by omega)]; exact H2.n
      · rw [List.getElem?_set_ne (by omega)]; exact H2.t
      · rw [List.length_set]; exact (hF.trans hF2).1
      · intro i hi2 x1 x2
        rw [List.getElem?_set_ne (by omega)]
        exact (hF.trans hF2).2 i hi2 x1 x2
      · by_cases hj2 : j < fo.length
        · rw [List.getElem?_append_left hj2] at hj
          exact (hfs j s hj).mono (giv_ext _ _).1
        · have : j = fo.length := by
            have := (List.getElem?_eq_some_iff.mp hj).1
            rw [List.length_append, List.length_singleton] at this
            omega
          subst this
          rw [List.getElem?_append_right (Nat.le_refl _), Nat.sub_self] at hj
          cases hj
          rw [hm, Nat.pow_succ, ← Nat.div_div_eq_div_mul]
          refine Sl.up ((hfs m u hu).mono (giv_ext _ _).1) (Sl.mono (he.1.trans (giv_ext _ _).1) (Sl.off (flip_ne _) hzs)) ?_
          rw [ht]
          exact num_at _ _
    simp only [Tg.put, List.set_cons_succ, List.set_cons_zero]
    refine ok_one ?_
    simp only [TrN.r2, tst, evE, evWs, evDs, evO, evC, evI, Ok_bind, Ok_ok, Ok_al, al_d, al_o, bind_ok, al_ok_d, al_ok_o, opt_some, testD_bl, List.getElem?_cons_zero, List.getElem?_cons_succ, List.set_cons_zero, List.set_cons_succ, Option.map_some, cmpW, ordW, bltW, binW, intW, addW, evS, Tg.put, if_true, Bool.false_eq_true, if_false, hks, hm2]
    rw [eqW_scal rfl]
    simp only [tst, evE, evWs, evDs, evO, evC, evI, Ok_bind, Ok_ok, Ok_al, al_d, al_o, bind_ok, al_ok_d, al_ok_o, opt_some, testD_bl, List.getElem?_cons_zero, List.getElem?_cons_succ, List.set_cons_zero, List.set_cons_succ, Option.map_some, cmpW, ordW, bltW, binW, intW, addW, evS, Tg.put, if_true, Bool.false_eq_true, if_false]
    by_cases hz2 : K / 2 ^ m % 2 = 0
    · rw [hz2]
      simp only [tst, evE, evWs, evDs, evO, evC, evI, Ok_bind, Ok_ok, Ok_al, al_d, al_o, bind_ok, al_ok_d, al_ok_o, opt_some, testD_bl, List.getElem?_cons_zero, List.getElem?_cons_succ, List.set_cons_zero, List.set_cons_succ, Option.map_some, cmpW, ordW, bltW, binW, intW, addW, evS, Tg.put, if_true, Bool.false_eq_true, if_false, show decide (D.int ((0 : Nat) : Int) = .int 0) = true from rfl]
      refine ok_one ?_
      simp only [TrN.r3, tst, evE, evWs, evDs, evO, evC, evI, Ok_bind, Ok_ok, Ok_al, al_d, al_o, bind_ok, al_ok_d, al_ok_o, opt_some, testD_bl, List.getElem?_cons_zero, List.getElem?_cons_succ, List.set_cons_zero, List.set_cons_succ, Option.map_some, cmpW, ordW, bltW, binW, intW, addW, evS, Tg.put, if_true, Bool.false_eq_true, if_false, Bmt.kd, kd_ref ep, Bmt.keeps, H'.i, hlp, List.lookup_cons, beq_self_eq_true, Option.isNone_none, i1 ep, i2]
      refine pair_ok ok H' hT' u z fun S2 H2 hF2 hL2 => ?_
      simp only [tst, evE, evWs, evDs, evO, evC, evI, Ok_bind, Ok_ok, Ok_al, al_d, al_o, bind_ok, al_ok_d, al_ok_o, opt_some, testD_bl, List.getElem?_cons_zero, List.getElem?_cons_succ, List.set_cons_zero, List.set_cons_succ, Option.map_some, cmpW, ordW, bltW, binW, intW, addW, evS, Tg.put, if_true, Bool.false_eq_true, if_false]
      rw [append_ref (hF2.at_ ep (by omega) (by omega)) (by rw [List.length_map]; simp only [LINE]; omega)]
      simp only [tst, evE, evWs, evDs, evO, evC, evI, Ok_bind, Ok_ok, Ok_al, al_d, al_o, bind_ok, al_ok_d, al_ok_o, opt_some, testD_bl, List.getElem?_cons_zero, List.getElem?_cons_succ, List.set_cons_zero, List.set_cons_succ, Option.map_some, cmpW, ordW, bltW, binW, intW, addW, evS, Tg.put, if_true, Bool.false_eq_true, if_false]
      exact fin S2 _ (by rw [if_pos hz2]) H2 hF2 hL2
    · rw [show K / 2 ^ m % 2 = 1 by omega]
      simp only [tst, evE, evWs, evDs, evO, evC, evI, Ok_bind, Ok_ok, Ok_al, al_d, al_o, bind_ok, al_ok_d, al_ok_o, opt_some, testD_bl, List.getElem?_cons_zero, List.getElem?_cons_succ, List.set_cons_zero, List.set_cons_succ, Option.map_some, cmpW, ordW, bltW, binW, intW, addW, evS, Tg.put, if_true, Bool.false_eq_true, if_false, show decide (D.int ((1 : Nat) : Int) = .int 0) = false from rfl]
      refine ok_one ?_
      simp only [TrN.r4, tst, evE, evWs, evDs, evO, evC, evI, Ok_bind, Ok_ok, Ok_al, al_d, al_o, bind_ok, al_ok_d, al_ok_o, opt_some, testD_bl, List.getElem?_cons_zero, List.getElem?_cons_succ, List.set_cons_zero, List.set_cons_succ, Option.map_some, cmpW, ordW, bltW, binW, intW, addW, evS, Tg.put, if_true, Bool.false_eq_true, if_false, Bmt.kd, kd_ref ep, Bmt.keeps, H'.i, hlp, List.lookup_cons, beq_self_eq_true, Option.isNone_none, i1 ep, i2]
      refine pair_ok ok H' hT' z u fun S2 H2 hF2 hL2 => ?_
      simp only [tst, evE, evWs, evDs, evO, evC, evI, Ok_bind, Ok_ok, Ok_al, al_d, al_o, bind_ok, al_ok_d, al_ok_o, opt_some, testD_bl, List.getElem?_cons_zero, List.getElem?_cons_succ, List.set_cons_zero, List.set_cons_succ, Option.map_some, cmpW, ordW, bltW, binW, intW, addW, evS, Tg.put, if_true, Bool.false_eq_true, if_false]
      rw [append_ref (hF2.at_ ep (by omega) (by omega)) (by rw [List.length_map]; simp only [LINE]; omega)]
      simp only [tst, evE, evWs, evDs, evO, evC, evI, Ok_bind, Ok_ok, Ok_al, al_d, al_o, bind_ok, al_ok_d, al_ok_o, opt_some, testD_bl, List.getElem?_cons_zero, List.getElem?_cons_succ, List.set_cons_zero, List.set_cons_succ, Option.map_some, cmpW, ordW, bltW, binW, intW, addW, evS, Tg.put, if_true, Bool.false_eq_true, if_false]
      exact fin S2 _ (by rw [if_neg hz2]) H2 hF2 hL2
  · rintro ρ S' ⟨fo, T', x1, hfo, hfo0, hl, ep, H', he, hF, rfl, hfs⟩
    have hfd : fo.length = d + 1 := by
      have := congrArg List.length hl
      rw [List.length_drop, rng_len] at this
      simp only [List.length_nil] at this
      omega
    refine ok_one ?_
    simp only [TrN.r5, tst, evE, evWs, evDs, evO, evC, evI, Ok_bind, Ok_ok, Ok_al, al_d, al_o, bind_ok, al_ok_d, al_ok_o, opt_some, testD_bl, List.getElem?_cons_zero, List.getElem?_cons_succ, List.set_cons_zero, List.set_cons_succ, Option.map_some, cmpW, ordW, bltW, binW, intW, addW, evS, Tg.put, if_true, Bool.false_eq_true, if_false]
    exact q S' T' _ fo H' (hfd ▸ he) hF ep hfd hfs
  · cases j with
    | zero =>
      cases e
      rw [show K / 2 ^ 0 = K by simp]
      show At _ _ (.leaf (updF f K w K))
      unfold updF
      rw [if_pos rfl]
      exact num_at _ _
    | succ j => cases e
theorem putIn_ok (ok : HsP P N.toHsN) (hW : Has P N.iW N.bW 4 8) (hB : Has P N.iB N.bB 4 5) (hR : Has P N.iR N.bR 5 7) (hU : Has P N.iU N.bU 5 6) (H : Hs N.toHsN h a b S T) (hT : T.length + 20 < 8000000) {K d : Nat} (hd : d ≤ 12) (hK : K < 2 ^ d) (w : Int) {f : Nat → Int} {s : Int} (hs : Sl T f d 0 s)
    (q : ∀ (S' : Sto) (T' : List Th) (s' : Int), Hs N.toHsN h a b S' T' → Ext T T' (d + 1) → Fh a b S S' → Sl T' (updF f K w) d 0 s' → Q (.d (.int s')) S') :
    Ok (run fu P (n + 4) N.iU [.ref h, .int s, .int (d : Int), .int (K : Int), .int w] S) Q := by
  refine has_run hU rfl ?_
  show Ok (evSs fu _ _ _ N.bU [some (.ref h), some (.int s), some (.int (d : Int)), some (.int (K : Int)), some (.int w), none] S) _
  unfold TrN.bU
  refine ok_cons ?_
  obtain ⟨l, h1, h2, h3⟩ := Sl.dn (k := K) hs
  have hK0 : 0 * 2 ^ d + K % 2 ^ d = K := by rw [Nat.mod_eq_of_lt hK]; omega
  rw [hK0] at h3
  simp only [TrN.u0, tst, evE, evWs, evDs, evO, evC, evI, Ok_bind, Ok_ok, Ok_al, al_d, al_o, bind_ok, al_ok_d, al_ok_o, opt_some, testD_bl, List.getElem?_cons_zero, List.getElem?_cons_succ, List.set_cons_zero, List.set_cons_succ, Option.map_some, cmpW, ordW, bltW, binW, intW, addW, evS, Tg.put, if_true, Bool.false_eq_true, if_false]
  refine path_ok ok hW hB H (by omega) hK hd s (fun w' l' e hl o => ?_) (fun e o => ?_)
  · rw [h1] at e
    cases e
    simp only [tst, evE, evWs, evDs, evO, evC, evI, Ok_bind, Ok_ok, Ok_al, al_d, al_o, bind_ok, al_ok_d, al_ok_o, opt_some, testD_bl, List.getElem?_cons_zero, List.getElem?_cons_succ, List.set_cons_zero, List.set_cons_succ, Option.map_some, cmpW, ordW, bltW, binW, intW, addW, evS, Tg.put, if_true, Bool.false_eq_true, if_false]
    refine ok_cons ?_
    simp only [TrN.u1, tst, evE, evWs, evDs, evO, evC, evI, Ok_bind, Ok_ok, Ok_al, al_d, al_o, bind_ok, al_ok_d, al_ok_o, opt_some, testD_bl, List.getElem?_cons_zero, List.getElem?_cons_succ, List.set_cons_zero, List.set_cons_succ, Option.map_some, cmpW, ordW, bltW, binW, intW, addW, evS, Tg.put, if_true, Bool.false_eq_true, if_false, isNonW]
    refine ok_nil ?_
    refine ok_one ?_
    simp only [TrN.u3, tst, evE, evWs, evDs, evO, evC, evI, Ok_bind, Ok_ok, Ok_al, al_d, al_o, bind_ok, al_ok_d, al_ok_o, opt_some, testD_bl, List.getElem?_cons_zero, List.getElem?_cons_succ, List.set_cons_zero, List.set_cons_succ, Option.map_some, cmpW, ordW, bltW, binW, intW, addW, evS, Tg.put, if_true, Bool.false_eq_true, if_false]
    rw [idx_tup (v := 1) (x := .tup (l.reverse.map D.int)) rfl rfl (by decide)]
    simp only [tst, evE, evWs, evDs, evO, evC, evI, Ok_bind, Ok_ok, Ok_al, al_d, al_o, bind_ok, al_ok_d, al_ok_o, opt_some, testD_bl, List.getElem?_cons_zero, List.getElem?_cons_succ, List.set_cons_zero, List.set_cons_succ, Option.map_some, cmpW, ordW, bltW, binW, intW, addW, evS, Tg.put, if_true, Bool.false_eq_true, if_false]
    refine raised_ok ok hR (H.app o) hT hd w (by rw [List.length_reverse]; exact hl) h3 fun S' T' p fo H' he hF ep hfd hfs => ?_
    obtain ⟨u, hu⟩ : ∃ u, fo[d]? = some u := ⟨_, List.getElem?_eq_getElem (by omega)⟩
    rw [idx_rn ep (i := d) (x := .int u) (by rw [List.getElem?_map, hu]; rfl)]
    (try simp only [tst, evE, evWs, evDs, evO, evC, evI, Ok_bind, Ok_ok, Ok_al, al_d, al_o, bind_ok, al_ok_d, al_ok_o, opt_some, testD_bl, List.getElem?_cons_zero, List.getElem?_cons_succ, List.set_cons_zero, List.set_cons_succ, Option.map_some, cmpW, ordW, bltW, binW, intW, addW, evS, Tg.put, if_true, Bool.false_eq_true, if_false])
    refine q S' T' u H' he ((Fh.app o).trans hF) ?_
    have := hfs d u hu
    rwa [Nat.div_eq_of_lt hK] at this
  · rw [h1] at e
    cases e
end
end PyI

set_option maxRecDepth 100000
set_option maxHeartbeats 1000000
/-! PyI: the laws' words and rows, and seals by halves. -/
namespace PyI
/-! ### rules -/
section
variable {cb ci : Cb} {ini : Nat → Option Nat} {ρ : Env} {S : Sto}
theorem ok_rng1 {e : Ex} {Q : Wk → Sto → Prop} (h : Ok (evE cb ci ini e ρ S) fun w S' => ∃ m : Nat, w = .d (.int (m : Int)) ∧ m ≤ 8000000 ∧ Q ⟨rngL 0 1 m, []⟩ S') : Ok (evI cb ci ini (.rng1 e) ρ S) Q := by
  rw [evI, Ok_bind]
  generalize hB : (2 : Int) ^ 62 = B
  have hB' : 10000000 < B := by omega
  clear hB
  refine h.mono fun w S' q => ?_
  obtain ⟨m, rfl, hm, q⟩ := q
  dsimp only
  rw [if_pos ⟨by omega, by omega⟩, Int.toNat_natCast]
  exact q
theorem ok_lcE {vs : List Nat} {t : Tg} {it : Itx} {c : Oex} {e : Ex} {Q : W → Sto → Prop} (h : Ok (evI cb ci ini it ρ S) fun k S => Ok (lcGo k (fun x S => Res.nox (match t.put x (wipeE ρ vs) with
    | some ρ' => (evC cb ci ini c ρ' S).bind fun b S => if b = true then (evE cb ci ini e ρ' S).al.bind fun y S => .ok (some y) S else .ok none S
    | none => .bad)) k.items [] S) Q) : Ok (evE cb ci ini (.lc vs t it c e) ρ S) Q := by
  rw [evE, Ok_bind]
  exact h
theorem ok_setE {fu : Nat} {i : Nat} {e : Ex} {Q : Out → Sto → Prop} (h : Ok (evE cb ci ini e ρ S) fun w S => Ok (w.al S) fun d S => Q (.nx (ρ.set i (some d))) S) : Ok (evS fu cb ci ini (.set (.nm i) e) ρ S) Q := by
  rw [evS, Ok_bind, Ok_al]
  exact h
theorem ok_retE {fu : Nat} {e : Ex} {Q : Out → Sto → Prop} (h : Ok (evE cb ci ini e ρ S) fun w S => Q (.rt w) S) : Ok (evS fu cb ci ini (.ret e) ρ S) Q := by
  rw [evS, Ok_bind]
  exact h
theorem ok_callE {f : Nat} {es : Exs} {Q : W → Sto → Prop} (h : Ok (evDs cb ci ini es ρ S) fun ds S => Ok (cb f ds S) Q) : Ok (evE cb ci ini (.call f es) ρ S) Q := by
  rw [evE, Ok_bind]
  exact h
theorem ok_dcons {e : Ex} {r : Exs} {Q : List D → Sto → Prop} (h : Ok (evE cb ci ini e ρ S) fun w S => Ok (w.al S) fun d S => Ok (evDs cb ci ini r ρ S) fun ds S => Q (d :: ds) S) : Ok (evDs cb ci ini (.cons e r) ρ S) Q := by
  rw [evDs, Ok_bind, Ok_al]
  refine h.mono fun w S h => h.mono fun d S h => ?_
  rw [Ok_bind]
  exact h
theorem ok_dnil {Q : List D → Sto → Prop} (h : Q [] S) : Ok (evDs cb ci ini .nil ρ S) Q := by
  rw [evDs]
  exact h
theorem ok_idxE {a b : Ex} {Q : W → Sto → Prop} (h : Ok (evE cb ci ini a ρ S) fun x S => Ok (evE cb ci ini b ρ S) fun k S => Ok (k.al S) fun k S => ∃ d, idxW x k S = some d ∧ Q (.d d) S) : Ok (evE cb ci ini (.idx a b) ρ S) Q := by
  rw [evE, Ok_bind]
  refine h.mono fun x S h => ?_
  rw [Ok_bind, Ok_al]
  refine h.mono fun k S h => h.mono fun k S h => ?_
  obtain ⟨d, h1, h2⟩ := h
  rw [h1]
  exact h2
theorem ok_lstE {es : Exs} {Q : W → Sto → Prop} (h : Ok (evDs cb ci ini es ρ S) fun ds S => ds.length ≤ 100 ∧ Q (.o (.lst ds)) S) : Ok (evE cb ci ini (.lst es) ρ S) Q := by
  rw [evE, Ok_bind]
  refine h.mono fun ds S h => ?_
  rw [if_pos (Nat.le_trans h.1 (by decide))]
  exact h.2
theorem ok_tupE {es : Exs} {Q : W → Sto → Prop} (h : Ok (evDs cb ci ini es ρ S) fun ds S => ds.length ≤ 100 ∧ Q (.d (.tup ds)) S) : Ok (evE cb ci ini (.tup es) ρ S) Q := by
  rw [evE, Ok_bind]
  refine h.mono fun ds S h => ?_
  rw [if_pos (Nat.le_trans h.1 (by decide))]
  exact h.2
end
/-! ### the laws' defs -/
structure LwN where
  iD : Nat
  iW : Nat
  iR : Nat
  iL : Nat
section
variable (L : LwN)
def LwN.dr (m : Int) : Ex := .call L.iD (.cons (.var 0) (.cons (.con (.int m)) .nil))
def LwN.bW : Sts := .cons (.ret (.idx (.lst (.cons (L.dr 3) (.cons (.bin .sub (.bin .sub (.con (.int 4294967296)) (.con (.int 1))) (L.dr 3)) (.cons (L.dr 4294967296) .nil)))) (L.dr 3))) .nil
def LwN.r0 : Stm := .set (.nm 2) (.lc [3] (.nm 3) (.rng1 (.bin .add (.con (.int 1)) (L.dr 4))) .no (.call L.iW (.cons (.var 0) .nil)))
def LwN.r1 : Stm := .set (.nm 4) (.lc [3] (.nm 3) (.rng1 (.bin .shl (.con (.int 1)) (.var 1))) .no (.idx (.var 2) (.call L.iD (.cons (.var 0) (.cons (.blt .len (.cons (.var 2) .nil)) .nil)))))
def LwN.r2 : Stm := .set (.nm 5) (L.dr 4)
def LwN.r4 : Stm := .set (.nm 4) (.bin .mul (.slc (.var 4) .no (.ya (.bin .fdiv (.bin .shl (.con (.int 1)) (.var 1)) (.con (.int 2))))) (.con (.int 2)))
def LwN.r3 : Stm := .ite (.band (.cmp .gt (.var 1) (.con (.int 0))) (.cmp .eq (.var 5) (.con (.int 0)))) (.cons LwN.r4 .nil) (.nil)
def LwN.r6 : Stm := .set (.nm 4) (.lc [3] (.nm 3) (.rng1 (.bin .shl (.con (.int 1)) (.var 1))) .no (.bin .mod (.bin .add (.idx (.var 2) (.con (.int 0))) (.bin .mul (.con (.int 5)) (.var 3))) (.con (.int 4294967296))))
def LwN.r5 : Stm := .ite (.cmp .eq (.var 5) (.con (.int 1))) (.cons LwN.r6 .nil) (.nil)
def LwN.r7 : Stm := .ret (.blt .tuple (.cons (.var 4) .nil))
def LwN.bR : Sts := .cons L.r0 (.cons L.r1 (.cons L.r2 (.cons LwN.r3 (.cons LwN.r5 (.cons LwN.r7 .nil)))))
end
structure LwP (P : Pg) (L : LwN) : Prop where
  D : Has P L.iD drawB 2 5
  W : Has P L.iW L.bW 1 1
  R : Has P L.iR L.bR 2 6
section
variable {L : LwN} {P : Pg} {k j fu n : Nat} {S : Sto} {Q : W → Sto → Prop}
theorem drw (lp : LwP P L) (hfu : 64 < fu) {m : Int} (hD : Dl k j S) (h0 : 0 < m) (h1 : m < 18446744073709551616)
    (q : ∀ (v : Int) (S' : Sto), 0 ≤ v → v < m → Dl k j S' → Fr k j S S' → S'.length = S.length → Q (.d (.int v)) S') : Ok (run fu P (n + 1) L.iD [.ref k, .int m] S) Q := by
  obtain ⟨F, a, b, c, d⟩ := lp.D
  exact draw_ok a b c d hfu hD h0 h1 q
theorem drE (lp : LwP P L) (hfu : 64 < fu) {ci : Cb} {ini : Nat → Option Nat} {ρ : Env} (hv : ρ[0]? = some (some (.ref k))) {m : Int} (hD : Dl k j S) (h0 : 0 < m) (h1 : m < 18446744073709551616)
    (q : ∀ (v : Int) (S' : Sto), 0 ≤ v → v < m → Dl k j S' → Fr k j S S' → S'.length = S.length → Q (.d (.int v)) S') : Ok (evE (run fu P (n + 1)) ci ini (L.dr m) ρ S) Q := by
  unfold LwN.dr
  refine ok_callE ?_
  simp only [tst, evE, evWs, evDs, evO, evC, evI, Ok_bind, Ok_ok, Ok_al, al_d, al_o, bind_ok, al_ok_d, al_ok_o, opt_some, testD_bl, List.getElem?_cons_zero, List.getElem?_cons_succ, List.set_cons_zero, List.set_cons_succ, Option.map_some, cmpW, ordW, bltW, binW, intW, addW, evS, Tg.put, if_true, Bool.false_eq_true, if_false, hv]
  exact drw lp hfu hD h0 h1 q
theorem wrd (lp : LwP P L) (hfu : 64 < fu) (hD : Dl k j S) (q : ∀ (v : Int) (S' : Sto), Dl k j S' → Fr k j S S' → S'.length = S.length → Q (.d (.int v)) S') : Ok (run fu P (n + 2) L.iW [.ref k] S) Q := by
  refine has_run lp.W rfl ?_
  show Ok (evSs fu _ _ _ L.bW [some (.ref k)] S) _
  unfold LwN.bW
  refine ok_one ?_
  refine ok_retE ?_
  refine ok_idxE ?_
  refine ok_lstE ?_
  refine ok_dcons ?_
  refine drE lp hfu rfl hD (by decide) (by decide) fun v1 S1 _ _ hD1 hF1 hL1 => ?_
  rw [al_d]
  refine ok_dcons ?_
  rw [evE, Ok_bind]
  simp only [tst, evE, evWs, evDs, evO, evC, evI, Ok_bind, Ok_ok, Ok_al, al_d, al_o, bind_ok, al_ok_d, al_ok_o, opt_some, testD_bl, List.getElem?_cons_zero, List.getElem?_cons_succ, List.set_cons_zero, List.set_cons_succ, Option.map_some, cmpW, ordW, bltW, binW, intW, addW, evS, Tg.put, if_true, Bool.false_eq_true, if_false]
  refine drE lp hfu rfl hD1 (by decide) (by decide) fun v2 S2 _ _ hD2 hF2 hL2 => ?_
  simp only [tst, evE, evWs, evDs, evO, evC, evI, Ok_bind, Ok_ok, Ok_al, al_d, al_o, bind_ok, al_ok_d, al_ok_o, opt_some, testD_bl, List.getElem?_cons_zero, List.getElem?_cons_succ, List.set_cons_zero, List.set_cons_succ, Option.map_some, cmpW, ordW, bltW, binW, intW, addW, evS, Tg.put, if_true, Bool.false_eq_true, if_false]
  refine drE lp hfu rfl hD2 (by decide) (by decide) fun v3 S3 _ _ hD3 hF3 hL3 => ?_
  simp only [tst, evE, evWs, evDs, evO, evC, evI, Ok_bind, Ok_ok, Ok_al, al_d, al_o, bind_ok, al_ok_d, al_ok_o, opt_some, testD_bl, List.getElem?_cons_zero, List.getElem?_cons_succ, List.set_cons_zero, List.set_cons_succ, Option.map_some, cmpW, ordW, bltW, binW, intW, addW, evS, Tg.put, if_true, Bool.false_eq_true, if_false]
  refine ⟨by simp, ?_⟩
  refine drE lp hfu rfl hD3 (by decide) (by decide) fun v4 S4 h0 h1 hD4 hF4 hL4 => ?_
  rw [al_d]
  obtain ⟨z, hz⟩ : ∃ z : Int, idxW (.o (.lst [.int v1, .int (4294967296 - 1 - v2), .int v3])) (.int v4) S4 = some (.int z) := by
    have : v4 = 0 ∨ v4 = 1 ∨ v4 = 2 := by omega
    rcases this with rfl | rfl | rfl
    · exact ⟨_, rfl⟩
    · exact ⟨_, rfl⟩
    · exact ⟨_, rfl⟩
  exact ⟨_, hz, q _ _ hD4 (((hF1.trans hF2).trans hF3).trans hF4) (by omega)⟩
theorem fdiv_two (d : Nat) : (((2 ^ (d + 1) : Nat) : Int) / 2) = ((2 ^ d : Nat) : Int) := by
  rw [Nat.pow_succ, Int.natCast_mul]
  omega
theorem cut_hi {α : Type} (l : List α) (n : Nat) : cut l none (some (n : Int)) = l.take n := by
  unfold cut sI
  simp only []
  rw [if_neg (by omega), Int.toNat_natCast, List.drop_zero, Nat.sub_zero]
  rw [Nat.min_def]
  split
  · rfl
  · rw [List.take_of_length_le (Nat.le_refl _), List.take_of_length_le (by omega)]
theorem cut_lo {α : Type} (l : List α) (n : Nat) : cut l (some (n : Int)) none = l.drop n := by
  unfold cut sI
  simp only []
  rw [if_neg (by omega), Int.toNat_natCast, Nat.min_def]
  split
  · rw [List.take_of_length_le (by rw [List.length_drop]; exact Nat.le_refl _)]
  · rw [List.drop_eq_nil_of_le (Nat.le_refl _), List.drop_eq_nil_of_le (by omega), List.take_nil]
theorem row (lp : LwP P L) (hfu : 64 < fu) (hD : Dl k j S) {d : Nat} (hd : d ≤ 6) (q : ∀ (ws : List Int) (S' : Sto), ws.length = 2 ^ d → Dl k j S' → Fr k j S S' → Q (.d (.tup (ws.map D.int))) S') : Ok (run fu P (n + 3) L.iR [.ref k, .int (d : Int)] S) Q := by
  refine has_run lp.R rfl ?_
  show Ok (evSs fu _ _ _ L.bR [some (.ref k), some (.int (d : Int)), none, none, none, none] S) _
  unfold LwN.bR
  have h2d : 2 ^ d ≤ 2 ^ 6 := Nat.pow_le_pow_right (by decide) hd
  have hpos : 0 < 2 ^ d := Nat.pow_pos (by decide)
  refine ok_cons ?_
  refine ok_setE ?_
  refine ok_lcE ?_
  refine ok_rng1 ?_
  rw [evE, Ok_bind]
  simp only [tst, evE, evWs, evDs, evO, evC, evI, Ok_bind, Ok_ok, Ok_al, al_d, al_o, bind_ok, al_ok_d, al_ok_o, opt_some, testD_bl, List.getElem?_cons_zero, List.getElem?_cons_succ, List.set_cons_zero, List.set_cons_succ, Option.map_some, cmpW, ordW, bltW, binW, intW, addW, evS, Tg.put, if_true, Bool.false_eq_true, if_false]
  refine drE lp hfu rfl hD (by decide) (by decide) fun v S1 h0 h1 hD1 hF1 _ => ?_
  simp only [tst, evE, evWs, evDs, evO, evC, evI, Ok_bind, Ok_ok, Ok_al, al_d, al_o, bind_ok, al_ok_d, al_ok_o, opt_some, testD_bl, List.getElem?_cons_zero, List.getElem?_cons_succ, List.set_cons_zero, List.set_cons_succ, Option.map_some, cmpW, ordW, bltW, binW, intW, addW, evS, Tg.put, if_true, Bool.false_eq_true, if_false]
  refine ⟨(1 + v).toNat, by rw [Int.toNat_of_nonneg (by omega)], by omega, ?_⟩
  refine ok_lc (fun l acc S' => ∃ fs : List Int, acc = fs.map D.int ∧ fs.length + l.length = (1 + v).toNat ∧ Dl k j S' ∧ Fr k j S S') (fun _ _ _ _ => rfl) ?_ ?_ _ _ _ ⟨[], rfl, by rw [rng_len]; simp, hD1, hF1⟩
  · rintro x l acc S' ⟨fs, rfl, hlen, hD', hF'⟩
    rw [List.length_cons] at hlen
    simp only [tst, evE, evWs, evDs, evO, evC, evI, Ok_bind, Ok_ok, Ok_al, al_d, al_o, bind_ok, al_ok_d, al_ok_o, opt_some, testD_bl, List.getElem?_cons_zero, List.getElem?_cons_succ, List.set_cons_zero, List.set_cons_succ, Option.map_some, cmpW, ordW, bltW, binW, intW, addW, evS, Tg.put, if_true, Bool.false_eq_true, if_false, Ok_nox, wipeE]
    refine wrd lp hfu hD' fun w S2 hD2 hF2 _ => ?_
    simp only [tst, evE, evWs, evDs, evO, evC, evI, Ok_bind, Ok_ok, Ok_al, al_d, al_o, bind_ok, al_ok_d, al_ok_o, opt_some, testD_bl, List.getElem?_cons_zero, List.getElem?_cons_succ, List.set_cons_zero, List.set_cons_succ, Option.map_some, cmpW, ordW, bltW, binW, intW, addW, evS, Tg.put, if_true, Bool.false_eq_true, if_false]
    exact ⟨by rw [List.length_map]; simp only [LINE]; omega, fs ++ [w], by simp, by rw [List.length_append, List.length_singleton]; omega, hD2, hF'.trans hF2⟩
  rintro acc S2 ⟨few, rfl, hlen, hD2, hF2⟩
  rw [List.length_nil] at hlen
  rw [al_o]
  have hS2 := hD2.lt
  have hSS := hF2.1
  obtain ⟨f0, fr, rfl⟩ : ∃ f0 fr, few = f0 :: fr := by
    cases few with
    | nil => simp at hlen; omega
    | cons a b => exact ⟨a, b, rfl⟩
  have efew : (S2 ++ [O.lst ((f0 :: fr).map D.int)])[S2.length]? = some (.lst ((f0 :: fr).map D.int)) := app_at _ _
  refine ok_cons ?_
  refine ok_setE ?_
  refine ok_lcE ?_
  refine ok_rng1 ?_
  simp only [tst, evE, evWs, evDs, evO, evC, evI, Ok_bind, Ok_ok, Ok_al, al_d, al_o, bind_ok, al_ok_d, al_ok_o, opt_some, testD_bl, List.getElem?_cons_zero, List.getElem?_cons_succ, List.set_cons_zero, List.set_cons_succ, Option.map_some, cmpW, ordW, bltW, binW, intW, addW, evS, Tg.put, if_true, Bool.false_eq_true, if_false, shl_one (show d ≤ 12 by omega)]
  refine ⟨2 ^ d, rfl, by omega, ?_⟩
  have hfl : (f0 :: fr).length ≤ 4 := by omega
  refine ok_lc (fun l acc S' => ∃ fs : List Int, acc = fs.map D.int ∧ fs.length + l.length = 2 ^ d ∧ Dl k j S' ∧ Fr k j S S' ∧ S'[S2.length]? = some (.lst ((f0 :: fr).map D.int))) (fun _ _ _ _ => rfl) ?_ ?_ _ _ _ ⟨[], rfl, by rw [rng_len]; simp, hD2.app _, hF2.trans (Fr.app _), efew⟩
  · rintro x l acc S' ⟨fs, rfl, hlen2, hD', hF', e'⟩
    rw [List.length_cons] at hlen2
    simp only [tst, evE, evWs, evDs, evO, evC, evI, Ok_bind, Ok_ok, Ok_al, al_d, al_o, bind_ok, al_ok_d, al_ok_o, opt_some, testD_bl, List.getElem?_cons_zero, List.getElem?_cons_succ, List.set_cons_zero, List.set_cons_succ, Option.map_some, cmpW, ordW, bltW, binW, intW, addW, evS, Tg.put, if_true, Bool.false_eq_true, if_false, Ok_nox, wipeE, len_ref e', List.length_map]
    refine drw lp hfu hD' (by rw [List.length_cons]; omega) (by omega) fun v S3 h0 h1 hD3 hF3 _ => ?_
    have e3 := hF3.at_ e' (by omega) (by omega)
    obtain ⟨y, _, hy, hym⟩ := idx_ref (v := v) e3 h0 (by rw [List.length_map]; exact h1)
    obtain ⟨z, _, rfl⟩ := List.mem_map.mp hym
    simp only [tst, evE, evWs, evDs, evO, evC, evI, Ok_bind, Ok_ok, Ok_al, al_d, al_o, bind_ok, al_ok_d, al_ok_o, opt_some, testD_bl, List.getElem?_cons_zero, List.getElem?_cons_succ, List.set_cons_zero, List.set_cons_succ, Option.map_some, cmpW, ordW, bltW, binW, intW, addW, evS, Tg.put, if_true, Bool.false_eq_true, if_false, hy]
    exact ⟨by simp only [LINE]; omega, fs ++ [z], by simp, by rw [List.length_append, List.length_singleton]; omega, hD3, hF'.trans hF3, e3⟩
  rintro acc S3 ⟨fs, rfl, hfs, hD3, hF3, e3⟩
  rw [List.length_nil, Nat.add_zero] at hfs
  rw [al_o]
  have hS3 := hD3.lt
  have hSS3 := hF3.1
  have efs : (S3 ++ [O.lst (fs.map D.int)])[S3.length]? = some (.lst (fs.map D.int)) := app_at _ _
  have e3' := app_keep (x := O.lst (fs.map D.int)) e3
  have hD3' := hD3.app (O.lst (fs.map D.int))
  have hF3' := hF3.trans (Fr.app (k := k) (j := j) (O.lst (fs.map D.int)))
  generalize S3 ++ [O.lst (fs.map D.int)] = S4 at efs e3' hD3' hF3'
  refine ok_cons ?_
  unfold LwN.r2
  refine ok_setE ?_
  refine drE lp hfu rfl hD3' (by decide) (by decide) fun form S5 g0 g1 hD5 hF5 _ => ?_
  rw [al_d]
  have e5 := hF5.at_ e3' (by omega) (by omega)
  have efs5 := hF5.at_ efs (by omega) (by omega)
  have hF5' := hF3'.trans hF5
  -- the rest, at a list of so many
  have fin : ∀ (p : Nat) (gs : List Int) (S' : Sto) (x y z u : Option D), gs.length = 2 ^ d → S'[p]? = some (.lst (gs.map D.int)) → Dl k j S' → Fr k j S S' → Ok (evSs fu (run fu P (n + 2)) (run fu P (n + 2)) P.T.ini (.cons LwN.r7 .nil) [x, y, z, u, some (.ref p), some (.int form)] S') fun o S => match o with
      | .nx _ => Q (.d .non) S
      | .rt w => Q w S
      | _ => False := by
    intro p gs S' x y z u hg e hD' hF'
    refine ok_one ?_
    simp only [LwN.r7, tst, evE, evWs, evDs, evO, evC, evI, Ok_bind, Ok_ok, Ok_al, al_d, al_o, bind_ok, al_ok_d, al_ok_o, opt_some, testD_bl, List.getElem?_cons_zero, List.getElem?_cons_succ, List.set_cons_zero, List.set_cons_succ, Option.map_some, cmpW, ordW, bltW, binW, intW, addW, evS, Tg.put, if_true, Bool.false_eq_true, if_false, tupOf, lstOf, e]
    exact q gs S' hg hD' hF'
  have last : ∀ (p : Nat) (gs : List Int) (S' : Sto) (y : Option D), gs.length = 2 ^ d → S'[p]? = some (.lst (gs.map D.int)) → S'[S2.length]? = some (.lst ((f0 :: fr).map D.int)) → Dl k j S' → Fr k j S S' → Ok (evSs fu (run fu P (n + 2)) (run fu P (n + 2)) P.T.ini (.cons LwN.r5 (.cons LwN.r7 .nil)) [some (.ref k), some (.int (d : Int)), some (.ref S2.length), y, some (.ref p), some (.int form)] S') fun o S => match o with
      | .nx _ => Q (.d .non) S
      | .rt w => Q w S
      | _ => False := by
    intro p gs S' y hg e ef hD' hF'
    refine ok_cons ?_
    simp only [LwN.r5, tst, evE, evWs, evDs, evO, evC, evI, Ok_bind, Ok_ok, Ok_al, al_d, al_o, bind_ok, al_ok_d, al_ok_o, opt_some, testD_bl, List.getElem?_cons_zero, List.getElem?_cons_succ, List.set_cons_zero, List.set_cons_succ, Option.map_some, cmpW, ordW, bltW, binW, intW, addW, evS, Tg.put, if_true, Bool.false_eq_true, if_false]
    rw [eqW_scal rfl]
    simp only [tst, evE, evWs, evDs, evO, evC, evI, Ok_bind, Ok_ok, Ok_al, al_d, al_o, bind_ok, al_ok_d, al_ok_o, opt_some, testD_bl, List.getElem?_cons_zero, List.getElem?_cons_succ, List.set_cons_zero, List.set_cons_succ, Option.map_some, cmpW, ordW, bltW, binW, intW, addW, evS, Tg.put, if_true, Bool.false_eq_true, if_false]
    by_cases h : D.int form = D.int 1
    · simp only [decide_eq_true h, tst, evE, evWs, evDs, evO, evC, evI, Ok_bind, Ok_ok, Ok_al, al_d, al_o, bind_ok, al_ok_d, al_ok_o, opt_some, testD_bl, List.getElem?_cons_zero, List.getElem?_cons_succ, List.set_cons_zero, List.set_cons_succ, Option.map_some, cmpW, ordW, bltW, binW, intW, addW, evS, Tg.put, if_true, Bool.false_eq_true, if_false]
      refine ok_one ?_
      refine ok_setE ?_
      refine ok_lcE ?_
      refine ok_rng1 ?_
      simp only [tst, evE, evWs, evDs, evO, evC, evI, Ok_bind, Ok_ok, Ok_al, al_d, al_o, bind_ok, al_ok_d, al_ok_o, opt_some, testD_bl, List.getElem?_cons_zero, List.getElem?_cons_succ, List.set_cons_zero, List.set_cons_succ, Option.map_some, cmpW, ordW, bltW, binW, intW, addW, evS, Tg.put, if_true, Bool.false_eq_true, if_false, shl_one (show d ≤ 12 by omega)]
      refine ⟨2 ^ d, rfl, by omega, ?_⟩
      refine ok_lc (fun l acc S'' => ∃ fs : List Int, acc = fs.map D.int ∧ l = (rngL 0 1 (2 ^ d)).drop fs.length ∧ fs.length ≤ 2 ^ d ∧ S'' = S') (fun _ _ _ _ => rfl) ?_ ?_ _ _ _ ⟨[], rfl, rfl, by simp, rfl⟩
      · rintro x l acc S'' ⟨fs, rfl, hl, hle, rfl⟩
        obtain ⟨hx, hr, hi⟩ := drop_inv hl.symm
        obtain ⟨hi2, rfl⟩ := rng_get hx
        have hm : ∀ S : Sto, mulW (.d (.int 5)) (.d (.int (0 + (fs.length : Int) * 1))) S = some (.d (.int (5 * (0 + (fs.length : Int) * 1)))) := fun S => mul_l ⟨by decide, by decide⟩
        have hi0 : idxW (.d (.ref S2.length)) (.int 0) S'' = some (.int f0) := idx_rn (i := 0) ef rfl
        simp only [tst, evE, evWs, evDs, evO, evC, evI, Ok_bind, Ok_ok, Ok_al, al_d, al_o, bind_ok, al_ok_d, al_ok_o, opt_some, testD_bl, List.getElem?_cons_zero, List.getElem?_cons_succ, List.set_cons_zero, List.set_cons_succ, Option.map_some, cmpW, ordW, bltW, binW, intW, addW, evS, Tg.put, if_true, Bool.false_eq_true, if_false, Ok_nox, wipeE, hi0, hm, show decide ((0 : Int) < 4294967296) = true from rfl]
        exact ⟨by rw [List.length_map]; simp only [LINE]; omega, fs ++ [_], by rw [List.map_append]; rfl, by rw [List.length_append]; exact hr, by rw [List.length_append, List.length_singleton]; omega, trivial⟩
      · rintro acc S'' ⟨fs, rfl, hl, hle, rfl⟩
        have hfl2 : fs.length = 2 ^ d := by
          have := congrArg List.length hl
          rw [List.length_drop, rng_len, List.length_nil] at this
          omega
        rw [al_o]
        exact fin _ fs _ _ _ _ _ hfl2 (app_at _ _) (hD'.app _) (hF'.trans (Fr.app _))
    · simp only [decide_eq_false h, tst, evE, evWs, evDs, evO, evC, evI, Ok_bind, Ok_ok, Ok_al, al_d, al_o, bind_ok, al_ok_d, al_ok_o, opt_some, testD_bl, List.getElem?_cons_zero, List.getElem?_cons_succ, List.set_cons_zero, List.set_cons_succ, Option.map_some, cmpW, ordW, bltW, binW, intW, addW, evS, Tg.put, if_true, Bool.false_eq_true, if_false]
      refine ok_nil ?_
      exact fin p gs S' _ _ _ _ hg e hD' hF'
  refine ok_cons ?_
  simp only [LwN.r3, tst, evE, evWs, evDs, evO, evC, evI, Ok_bind, Ok_ok, Ok_al, al_d, al_o, bind_ok, al_ok_d, al_ok_o, opt_some, testD_bl, List.getElem?_cons_zero, List.getElem?_cons_succ, List.set_cons_zero, List.set_cons_succ, Option.map_some, cmpW, ordW, bltW, binW, intW, addW, evS, Tg.put, if_true, Bool.false_eq_true, if_false]
  by_cases h0 : (0 : Int) < (d : Int)
  · simp only [h0, decide_true, tst, evE, evWs, evDs, evO, evC, evI, Ok_bind, Ok_ok, Ok_al, al_d, al_o, bind_ok, al_ok_d, al_ok_o, opt_some, testD_bl, List.getElem?_cons_zero, List.getElem?_cons_succ, List.set_cons_zero, List.set_cons_succ, Option.map_some, cmpW, ordW, bltW, binW, intW, addW, evS, Tg.put, if_true, Bool.false_eq_true, if_false]
    rw [eqW_scal rfl]
    simp only [tst, evE, evWs, evDs, evO, evC, evI, Ok_bind, Ok_ok, Ok_al, al_d, al_o, bind_ok, al_ok_d, al_ok_o, opt_some, testD_bl, List.getElem?_cons_zero, List.getElem?_cons_succ, List.set_cons_zero, List.set_cons_succ, Option.map_some, cmpW, ordW, bltW, binW, intW, addW, evS, Tg.put, if_true, Bool.false_eq_true, if_false]
    by_cases h : D.int form = D.int 0
    · simp only [decide_eq_true h, tst, evE, evWs, evDs, evO, evC, evI, Ok_bind, Ok_ok, Ok_al, al_d, al_o, bind_ok, al_ok_d, al_ok_o, opt_some, testD_bl, List.getElem?_cons_zero, List.getElem?_cons_succ, List.set_cons_zero, List.set_cons_succ, Option.map_some, cmpW, ordW, bltW, binW, intW, addW, evS, Tg.put, if_true, Bool.false_eq_true, if_false]
      refine ok_one ?_
      obtain ⟨e, rfl⟩ : ∃ e, d = e + 1 := ⟨d - 1, by omega⟩
      have hfd : (if decide ((0 : Int) < 2 ∧ (2 : Int).natAbs.log2 < 9000) = true then some (W.d (.int (((2 ^ (e + 1) : Nat) : Int) / 2))) else none) = some (.d (.int ((2 ^ e : Nat) : Int))) := by
        rw [if_pos (by decide), fdiv_two]
      have hp2 : 2 ^ (e + 1) = 2 * 2 ^ e := by rw [Nat.pow_succ]; omega
      have hmu : mulW (.o (.lst ((fs.map D.int).take (2 ^ e)))) (.d (.int 2)) S5 = some (.o (.lst ((fs.take (2 ^ e) ++ fs.take (2 ^ e)).map D.int))) := by
        unfold mulW repL mlsOf
        dsimp only
        rw [if_pos ⟨by decide, by decide, by rw [List.length_take, List.length_map, show (2 : Int).toNat = 2 from rfl]; simp only [LINE]; omega⟩]
        rw [show (2 : Int).toNat = 2 from rfl, ← List.map_take, List.map_append]
        simp [List.replicate]
      simp only [LwN.r4, tst, evE, evWs, evDs, evO, evC, evI, Ok_bind, Ok_ok, Ok_al, al_d, al_o, bind_ok, al_ok_d, al_ok_o, opt_some, testD_bl, List.getElem?_cons_zero, List.getElem?_cons_succ, List.set_cons_zero, List.set_cons_succ, Option.map_some, cmpW, ordW, bltW, binW, intW, addW, evS, Tg.put, if_true, Bool.false_eq_true, if_false, shl_one (show e + 1 ≤ 12 by omega), hfd, slc_ref efs5, cut_hi, hmu]
      have := last S5.length (fs.take (2 ^ e) ++ fs.take (2 ^ e)) (S5 ++ [O.lst ((fs.take (2 ^ e) ++ fs.take (2 ^ e)).map D.int)]) none (by rw [List.length_append, List.length_take, Nat.min_eq_left (by omega)]; omega) (app_at _ _) (app_keep e5) (hD5.app _) (hF5'.trans (Fr.app _))
      exact this
    · simp only [decide_eq_false h, tst, evE, evWs, evDs, evO, evC, evI, Ok_bind, Ok_ok, Ok_al, al_d, al_o, bind_ok, al_ok_d, al_ok_o, opt_some, testD_bl, List.getElem?_cons_zero, List.getElem?_cons_succ, List.set_cons_zero, List.set_cons_succ, Option.map_some, cmpW, ordW, bltW, binW, intW, addW, evS, Tg.put, if_true, Bool.false_eq_true, if_false]
      refine ok_nil ?_
      exact last S3.length fs S5 none hfs efs5 e5 hD5 hF5'
  · simp only [h0, decide_false, tst, evE, evWs, evDs, evO, evC, evI, Ok_bind, Ok_ok, Ok_al, al_d, al_o, bind_ok, al_ok_d, al_ok_o, opt_some, testD_bl, List.getElem?_cons_zero, List.getElem?_cons_succ, List.set_cons_zero, List.set_cons_succ, Option.map_some, cmpW, ordW, bltW, binW, intW, addW, evS, Tg.put, if_true, Bool.false_eq_true, if_false]
    refine ok_nil ?_
    exact last S3.length fs S5 none hfs efs5 e5 hD5 hF5'
end
end PyI

set_option maxRecDepth 100000
set_option maxHeartbeats 1000000
/-! PyI: the laws' programs: terms, statements, bodies. -/
namespace PyI
/-! ### forms -/
inductive Tm where
  | num (w : Int)
  | cell (x : List Nat)
  | row (r : List Nat) (t : Tm)
  | op (s : Nat) (a b : Tm)
def Tm.d : Tm → D
  | .num w => .tup [.str [110, 117, 109], .int w]
  | .cell x => .tup [.str [99, 101, 108, 108], .str x]
  | .row r t => .tup [.str [97, 116], .str r, t.d]
  | .op s a b => .tup [.str [111, 112], .str [s], a.d, b.d]
def Tm.ok (cs rs : List (List Nat)) : Tm → Prop
  | .num w => 0 ≤ w ∧ w < 4294967296
  | .cell x => x ∈ cs
  | .row r t => r ∈ rs ∧ t.ok cs rs
  | .op s a b => s ∈ [43, 45, 42, 60, 61] ∧ a.ok cs rs ∧ b.ok cs rs
def Tm.parts : Tm → Nat
  | .num _ => 1
  | .cell _ => 1
  | .row _ t => 1 + t.parts
  | .op _ a b => 1 + a.parts + b.parts
mutual
inductive St where
  | set (x : List Nat) (t : Tm)
  | put (r : List Nat) (i t : Tm)
  | call (f : List Nat)
  | whl (t : Tm) (b : Bd)
  | ife (t : Tm) (a b : Bd)
inductive Bd where
  | nil
  | cons (s : St) (r : Bd)
end
mutual
def St.d : St → D
  | .set x t => .tup [.str [115, 101, 116], .str x, t.d]
  | .put r i t => .tup [.str [112, 117, 116], .str r, i.d, t.d]
  | .call f => .tup [.str [99, 97, 108, 108], .str f]
  | .whl t b => .tup [.str [119, 104, 105, 108, 101], t.d, .tup b.ds]
  | .ife t a b => .tup [.str [105, 102], t.d, .tup a.ds, .tup b.ds]
def Bd.ds : Bd → List D
  | .nil => []
  | .cons s r => s.d :: r.ds
end
mutual
def St.ok (cs rs fs : List (List Nat)) : St → Prop
  | .set x t => x ∈ cs ∧ t.ok cs rs ∧ t.parts ≤ 20
  | .put r i t => r ∈ rs ∧ (i.ok cs rs ∧ i.parts ≤ 20) ∧ t.ok cs rs ∧ t.parts ≤ 20
  | .call f => f ∈ fs
  | .whl t b => (t.ok cs rs ∧ t.parts ≤ 20) ∧ b.ok cs rs fs
  | .ife t a b => (t.ok cs rs ∧ t.parts ≤ 20) ∧ a.ok cs rs fs ∧ b.ok cs rs fs
def Bd.ok (cs rs fs : List (List Nat)) : Bd → Prop
  | .nil => True
  | .cons s r => s.ok cs rs fs ∧ r.ok cs rs fs
end
mutual
/-- statements, those in it, too -/
def St.cost : St → Nat
  | .set _ _ => 1
  | .put _ _ _ => 1
  | .call _ => 1
  | .whl _ b => 1 + b.cost
  | .ife _ a b => 1 + a.cost + b.cost
def Bd.cost : Bd → Nat
  | .nil => 0
  | .cons s r => s.cost + r.cost
end
mutual
/-- how deep they are within one another -/
def St.nest : St → Nat
  | .set _ _ => 0
  | .put _ _ _ => 0
  | .call _ => 0
  | .whl _ b => 1 + b.nest
  | .ife _ a b => 1 + max a.nest b.nest
def Bd.nest : Bd → Nat
  | .nil => 0
  | .cons s r => max s.nest r.nest
end
def Bd.len : Bd → Nat
  | .nil => 0
  | .cons _ r => 1 + r.len
def Bd.app : Bd → Bd → Bd
  | .nil, b => b
  | .cons s r, b => .cons s (r.app b)
abbrev Bd.one (s : St) : Bd := .cons s .nil
theorem Bd.ds_app : ∀ (a b : Bd), (a.app b).ds = a.ds ++ b.ds
  | .nil, b => by simp [Bd.app, Bd.ds]
  | .cons s r, b => by simp [Bd.app, Bd.ds, Bd.ds_app r b]
theorem Bd.ok_app {cs rs fs : List (List Nat)} : ∀ {a b : Bd}, (a.app b).ok cs rs fs ↔ a.ok cs rs fs ∧ b.ok cs rs fs
  | .nil, b => by simp [Bd.app, Bd.ok]
  | .cons s r, b => by simp [Bd.app, Bd.ok, Bd.ok_app (a := r), and_assoc]
theorem Bd.cost_app : ∀ (a b : Bd), (a.app b).cost = a.cost + b.cost
  | .nil, b => by simp [Bd.app, Bd.cost]
  | .cons s r, b => by simp [Bd.app, Bd.cost, Bd.cost_app r b, Nat.add_assoc]
theorem Bd.nest_app : ∀ (a b : Bd), (a.app b).nest = max a.nest b.nest
  | .nil, b => by simp [Bd.app, Bd.nest]
  | .cons s r, b => by simp [Bd.app, Bd.nest, Bd.nest_app r b, Nat.max_assoc]
theorem Bd.len_app : ∀ (a b : Bd), (a.app b).len = a.len + b.len
  | .nil, b => by simp [Bd.app, Bd.len]
  | .cons s r, b => by simp [Bd.app, Bd.len, Bd.len_app r b, Nat.add_assoc]
theorem Bd.ds_len : ∀ (a : Bd), a.ds.length = a.len
  | .nil => rfl
  | .cons s r => by simp [Bd.ds, Bd.len, Bd.ds_len r, Nat.add_comm]
/-! ### the scene -/
structure Scn where
  ks : Nat
  pc : Nat
  pr : Nat
  pd : Nat
  cs : List (List Nat)
  rs : List (List Nat)
  fs : List (List Nat)
def kCells : D := .str [99, 101, 108, 108, 115]
def kRows : D := .str [114, 111, 119, 115]
def kDefs : D := .str [100, 101, 102, 115]
structure Sc (k j l : Nat) (z : Scn) (S : Sto) : Prop where
  e : S[z.ks]? = some (.dK [(kCells, .ref z.pc), (kRows, .ref z.pr), (kDefs, .ref z.pd)])
  ec : S[z.pc]? = some (.lst (z.cs.map D.str))
  er : S[z.pr]? = some (.lst (z.rs.map D.str))
  ed : S[z.pd]? = some (.lst (z.fs.map D.str))
  nk : z.ks ≠ k ∧ z.pc ≠ k ∧ z.pr ≠ k ∧ z.pd ≠ k
  nj : z.ks ≠ j ∧ z.pc ≠ j ∧ z.pr ≠ j ∧ z.pd ≠ j
  nl : z.ks ≠ l ∧ z.pc ≠ l ∧ z.pr ≠ l ∧ z.pd ≠ l
  lk : l ≠ k ∧ l ≠ j
  hc : 0 < z.cs.length ∧ z.cs.length ≤ 24 ∧ z.rs.length ≤ 24 ∧ z.fs.length ≤ 24
/-- all stays but the deal and left -/
def Fr3 (k j l : Nat) (S S' : Sto) : Prop := S.length ≤ S'.length ∧ ∀ i, i < S.length → i ≠ k → i ≠ j → i ≠ l → S'[i]? = S[i]?
theorem Fr3.refl {k j l : Nat} {S : Sto} : Fr3 k j l S S := ⟨Nat.le_refl _, fun _ _ _ _ _ => rfl⟩
theorem Fr3.trans {k j l : Nat} {S S' S'' : Sto} (h : Fr3 k j l S S') (h' : Fr3 k j l S' S'') : Fr3 k j l S S'' := ⟨Nat.le_trans h.1 h'.1, fun i hi a b c => by rw [h'.2 i (by have := h.1; omega) a b c, h.2 i hi a b c]⟩
theorem Fr3.app {k j l : Nat} {S : Sto} (o : O) : Fr3 k j l S (S ++ [o]) := ⟨by simp, fun i hi _ _ _ => List.getElem?_append_left hi⟩
theorem Fr3.at_ {k j l i : Nat} {S S' : Sto} {o : O} (h : Fr3 k j l S S') (e : S[i]? = some o) (a : i ≠ k) (b : i ≠ j) (c : i ≠ l) : S'[i]? = some o := by
  rw [h.2 i (List.getElem?_eq_some_iff.mp e).1 a b c, e]
theorem Fr.fr3 {k j l : Nat} {S S' : Sto} (h : Fr k j S S') : Fr3 k j l S S' := ⟨h.1, fun i hi a b _ => h.2 i hi a b⟩
theorem Fr3.set {k j l : Nat} {S : Sto} (o : O) : Fr3 k j l S (S.set l o) := ⟨by simp, fun i _ _ _ c => List.getElem?_set_ne (Ne.symm c)⟩
theorem Sc.fr3 {k j l : Nat} {z : Scn} {S S' : Sto} (h : Sc k j l z S) (f : Fr3 k j l S S') : Sc k j l z S' :=
  { h with
    e := f.at_ h.e h.nk.1 h.nj.1 h.nl.1
    ec := f.at_ h.ec h.nk.2.1 h.nj.2.1 h.nl.2.1
    er := f.at_ h.er h.nk.2.2.1 h.nj.2.2.1 h.nl.2.2.1
    ed := f.at_ h.ed h.nk.2.2.2 h.nj.2.2.2 h.nl.2.2.2 }
theorem Sc.fr {k j l : Nat} {z : Scn} {S S' : Sto} (h : Sc k j l z S) (f : Fr k j S S') : Sc k j l z S' := h.fr3 f.fr3
theorem Sc.kc {k j l : Nat} {z : Scn} {S : Sto} (h : Sc k j l z S) : idxW (.d (.ref z.ks)) kCells S = some (.ref z.pc) := by
  show idxO _ _ _ = _
  unfold idxO askOf
  simp only [h.e]
  rfl
theorem Sc.kr {k j l : Nat} {z : Scn} {S : Sto} (h : Sc k j l z S) : idxW (.d (.ref z.ks)) kRows S = some (.ref z.pr) := by
  show idxO _ _ _ = _
  unfold idxO askOf
  simp only [h.e]
  rfl
theorem Sc.kd {k j l : Nat} {z : Scn} {S : Sto} (h : Sc k j l z S) : idxW (.d (.ref z.ks)) kDefs S = some (.ref z.pd) := by
  show idxO _ _ _ = _
  unfold idxO askOf
  simp only [h.e]
  rfl
/-! ### the defs -/
structure BdN where
  iD : Nat
  iW : Nat
  iT : Nat
  iR : Nat
  iS : Nat
  iB : Nat
section
variable (N : BdN)
def BdN.dr (m : Int) : Ex := .call N.iD (.cons (.var 0) (.cons (.con (.int m)) .nil))
def BdN.pick (key : D) : Ex := .idx (.idx (.var 1) (.con key)) (.call N.iD (.cons (.var 0) (.cons (.blt .len (.cons (.idx (.var 1) (.con key)) .nil)) .nil)))
def BdN.lenK (key : D) : Ex := .blt .len (.cons (.idx (.var 1) (.con key)) .nil)
def BdN.term (e : Ex) : Ex := .call N.iT (.cons (.var 0) (.cons (.var 1) (.cons e .nil)))
def BdN.a0 : Stm := .set (.nm 3) (N.dr 8)
def BdN.a3 : Stm := .ret (.tup (.cons (.con (.str [110, 117, 109])) (.cons (.call N.iW (.cons (.var 0) .nil)) .nil)))
def BdN.a2 : Stm := .ite (.cmp .eq (N.dr 3) (.con (.int 0))) (.cons N.a3 .nil) (.nil)
def BdN.a4 : Stm := .ret (.tup (.cons (.con (.str [99, 101, 108, 108])) (.cons (N.pick (.str [99, 101, 108, 108, 115])) .nil)))
def BdN.a1 : Stm := .ite (.bor (.cmp .lt (.var 2) (.con (.int 3))) (.cmp .lt (.var 3) (.con (.int 3)))) (.cons N.a2 (.cons N.a4 .nil)) (.nil)
def BdN.a6 : Stm := .set (.nm 4) (N.pick (.str [114, 111, 119, 115]))
def BdN.a7 : Stm := .ret (.tup (.cons (.con (.str [97, 116])) (.cons (.var 4) (.cons (N.term (.bin .fdiv (.var 2) (.con (.int 2)))) .nil))))
def BdN.a5 : Stm := .ite (.band (.cmp .eq (.var 3) (.con (.int 3))) (.cmp .gt (BdN.lenK (.str [114, 111, 119, 115])) (.con (.int 0)))) (.cons N.a6 (.cons N.a7 .nil)) (.nil)
def BdN.a8 : Stm := .set (.nm 5) (.bin .fdiv (.bin .sub (.var 2) (.con (.int 1))) (.con (.int 2)))
def BdN.a9 : Stm := .set (.nm 6) (N.term (.var 5))
def BdN.a10 : Stm := .ret (.tup (.cons (.con (.str [111, 112])) (.cons (.idx (.con (.str [43, 45, 42, 60, 61])) (N.dr 5)) (.cons (.var 6) (.cons (N.term (.var 5)) .nil)))))
def BdN.bT : Sts := .cons N.a0 (.cons N.a1 (.cons N.a5 (.cons BdN.a8 (.cons N.a9 (.cons N.a10 .nil)))))
def BdN.w0 : Stm := .set (.nm 1) (N.dr 6)
def BdN.w2 : Stm := .ret (.call N.iD (.cons (.var 0) (.cons (.idx (.lst (.cons (.con (.int 2)) (.cons (.con (.int 5)) (.cons (.con (.int 5)) (.cons (.con (.int 10)) .nil))))) (.var 1)) .nil)))
def BdN.w1 : Stm := .ite (.cmp .lt (.var 1) (.con (.int 4))) (.cons N.w2 .nil) (.nil)
def BdN.w3 : Stm := .ret (.idx (.lst (.cons (N.dr 4294967296) (.cons (.bin .sub (.con (.int 4294967295)) (N.dr 3)) .nil))) (.bin .sub (.var 1) (.con (.int 4))))
def BdN.bW : Sts := .cons N.w0 (.cons N.w1 (.cons N.w3 .nil))
end
structure TmP (P : Pg) (N : BdN) : Prop where
  D : Has P N.iD drawB 2 5
  W : Has P N.iW N.bW 1 2
  T : Has P N.iT N.bT 3 7
section
variable {N : BdN} {P : Pg} {k j l fu n : Nat} {S : Sto} {Q : W → Sto → Prop}
theorem bdr (p : TmP P N) (hfu : 64 < fu) {m : Int} (hD : Dl k j S) (h0 : 0 < m) (h1 : m < 18446744073709551616)
    (q : ∀ (v : Int) (S' : Sto), 0 ≤ v → v < m → Dl k j S' → Fr k j S S' → Q (.d (.int v)) S') : Ok (run fu P (n + 1) N.iD [.ref k, .int m] S) Q := by
  obtain ⟨F, a, b, c, d⟩ := p.D
  exact draw_ok a b c d hfu hD h0 h1 fun v S' x y z w _ => q v S' x y z w
theorem bdrE (p : TmP P N) (hfu : 64 < fu) {ci : Cb} {ini : Nat → Option Nat} {ρ : Env} (hv : ρ[0]? = some (some (.ref k))) {m : Int} (hD : Dl k j S) (h0 : 0 < m) (h1 : m < 18446744073709551616)
    (q : ∀ (v : Int) (S' : Sto), 0 ≤ v → v < m → Dl k j S' → Fr k j S S' → Q (.d (.int v)) S') : Ok (evE (run fu P (n + 1)) ci ini (N.dr m) ρ S) Q := by
  unfold BdN.dr
  refine ok_callE ?_
  simp only [tst, evE, evWs, evDs, evO, evC, evI, Ok_bind, Ok_ok, Ok_al, al_d, al_o, bind_ok, al_ok_d, al_ok_o, opt_some, testD_bl, List.getElem?_cons_zero, List.getElem?_cons_succ, List.set_cons_zero, List.set_cons_succ, Option.map_some, cmpW, ordW, bltW, binW, intW, addW, evS, Tg.put, if_true, Bool.false_eq_true, if_false, hv]
  exact bdr p hfu hD h0 h1 q
/-- a name of the scene -/
theorem pickE (p : TmP P N) (hfu : 64 < fu) {ci : Cb} {ini : Nat → Option Nat} {ρ : Env} {ks pl : Nat} {key : D} {xs : List (List Nat)} (hv : ρ[0]? = some (some (.ref k))) (hv1 : ρ[1]? = some (some (.ref ks))) (hk : idxW (.d (.ref ks)) key S = some (.ref pl)) (e : S[pl]? = some (.lst (xs.map D.str)))
    (nk : pl ≠ k) (nj : pl ≠ j) (h0 : 0 < xs.length) (h1 : xs.length ≤ 24) (hD : Dl k j S)
    (q : ∀ (x : List Nat) (S' : Sto), x ∈ xs → Dl k j S' → Fr k j S S' → Q (.d (.str x)) S') : Ok (evE (run fu P (n + 1)) ci ini (N.pick key) ρ S) Q := by
  unfold BdN.pick
  refine ok_idxE ?_
  simp only [tst, evE, evWs, evDs, evO, evC, evI, Ok_bind, Ok_ok, Ok_al, al_d, al_o, bind_ok, al_ok_d, al_ok_o, opt_some, testD_bl, List.getElem?_cons_zero, List.getElem?_cons_succ, List.set_cons_zero, List.set_cons_succ, Option.map_some, cmpW, ordW, bltW, binW, intW, addW, evS, Tg.put, if_true, Bool.false_eq_true, if_false, hv, hv1, hk, len_ref e, List.length_map]
  refine bdr p hfu hD (by omega) (by omega) fun v S1 a b hD1 hF1 => ?_
  have e1 := hF1.at_ e nk nj
  obtain ⟨y, _, hy, hm⟩ := idx_ref e1 a (by rw [List.length_map]; exact b)
  obtain ⟨x, hx, rfl⟩ := List.mem_map.mp hm
  rw [al_d]
  exact ⟨_, hy, q x S1 hx hD1 hF1⟩
/-- a word -/
theorem bword (p : TmP P N) (hfu : 64 < fu) (hD : Dl k j S) (q : ∀ (v : Int) (S' : Sto), 0 ≤ v → v < 4294967296 → Dl k j S' → Fr k j S S' → Q (.d (.int v)) S') : Ok (run fu P (n + 2) N.iW [.ref k] S) Q := by
  refine has_run p.W rfl ?_
  show Ok (evSs fu _ _ _ N.bW [some (.ref k), none] S) _
  unfold BdN.bW
  refine ok_cons ?_
  unfold BdN.w0
  refine ok_setE ?_
  refine bdrE p hfu rfl hD (by decide) (by decide) fun v S1 h0 h1 hD1 hF1 => ?_
  rw [al_d]
  refine ok_cons ?_
  by_cases h4 : v < 4
  · simp only [BdN.w1, tst, evE, evWs, evDs, evO, evC, evI, Ok_bind, Ok_ok, Ok_al, al_d, al_o, bind_ok, al_ok_d, al_ok_o, opt_some, testD_bl, List.getElem?_cons_zero, List.getElem?_cons_succ, List.set_cons_zero, List.set_cons_succ, Option.map_some, cmpW, ordW, bltW, binW, intW, addW, evS, Tg.put, if_true, Bool.false_eq_true, if_false, decide_eq_true h4]
    refine ok_one ?_
    obtain ⟨m, hm, hm0, hm1⟩ : ∃ m : Int, idxW (.o (.lst [.int 2, .int 5, .int 5, .int 10])) (.int v) S1 = some (.int m) ∧ 0 < m ∧ m ≤ 10 := by
      have : v = 0 ∨ v = 1 ∨ v = 2 ∨ v = 3 := by omega
      rcases this with rfl | rfl | rfl | rfl
      · exact ⟨2, rfl, by decide, by decide⟩
      · exact ⟨5, rfl, by decide, by decide⟩
      · exact ⟨5, rfl, by decide, by decide⟩
      · exact ⟨10, rfl, by decide, by decide⟩
    simp only [BdN.w2, tst, evE, evWs, evDs, evO, evC, evI, Ok_bind, Ok_ok, Ok_al, al_d, al_o, bind_ok, al_ok_d, al_ok_o, opt_some, testD_bl, List.getElem?_cons_zero, List.getElem?_cons_succ, List.set_cons_zero, List.set_cons_succ, Option.map_some, cmpW, ordW, bltW, binW, intW, addW, evS, Tg.put, if_true, Bool.false_eq_true, if_false, List.length_cons, List.length_nil, show (0 + 1 + 1 + 1 + 1 ≤ LINE) = True from eq_true (by decide), hm]
    refine bdr p hfu hD1 hm0 (by omega) fun v2 S2 g0 g1 hD2 hF2 => ?_
    exact q v2 S2 g0 (by omega) hD2 (hF1.trans hF2)
  · simp only [BdN.w1, tst, evE, evWs, evDs, evO, evC, evI, Ok_bind, Ok_ok, Ok_al, al_d, al_o, bind_ok, al_ok_d, al_ok_o, opt_some, testD_bl, List.getElem?_cons_zero, List.getElem?_cons_succ, List.set_cons_zero, List.set_cons_succ, Option.map_some, cmpW, ordW, bltW, binW, intW, addW, evS, Tg.put, if_true, Bool.false_eq_true, if_false, decide_eq_false h4]
    refine ok_nil ?_
    refine ok_one ?_
    unfold BdN.w3
    refine ok_retE ?_
    refine ok_idxE ?_
    refine ok_lstE ?_
    refine ok_dcons ?_
    refine bdrE p hfu rfl hD1 (by decide) (by decide) fun v2 S2 g0 g1 hD2 hF2 => ?_
    rw [al_d]
    refine ok_dcons ?_
    rw [evE, Ok_bind]
    simp only [tst, evE, evWs, evDs, evO, evC, evI, Ok_bind, Ok_ok, Ok_al, al_d, al_o, bind_ok, al_ok_d, al_ok_o, opt_some, testD_bl, List.getElem?_cons_zero, List.getElem?_cons_succ, List.set_cons_zero, List.set_cons_succ, Option.map_some, cmpW, ordW, bltW, binW, intW, addW, evS, Tg.put, if_true, Bool.false_eq_true, if_false]
    refine bdrE p hfu rfl hD2 (by decide) (by decide) fun v3 S3 g2 g3 hD3 hF3 => ?_
    simp only [tst, evE, evWs, evDs, evO, evC, evI, Ok_bind, Ok_ok, Ok_al, al_d, al_o, bind_ok, al_ok_d, al_ok_o, opt_some, testD_bl, List.getElem?_cons_zero, List.getElem?_cons_succ, List.set_cons_zero, List.set_cons_succ, Option.map_some, cmpW, ordW, bltW, binW, intW, addW, evS, Tg.put, if_true, Bool.false_eq_true, if_false]
    refine ⟨by simp, ?_⟩
    obtain ⟨x, hx, hx0, hx1⟩ : ∃ x : Int, idxW (.o (.lst [.int v2, .int (4294967295 - v3)])) (.int (v - 4)) S3 = some (.int x) ∧ 0 ≤ x ∧ x < 4294967296 := by
      have : v = 4 ∨ v = 5 := by omega
      rcases this with rfl | rfl
      · exact ⟨v2, rfl, g0, g1⟩
      · exact ⟨4294967295 - v3, rfl, by omega, by omega⟩
    exact ⟨_, hx, q x S3 hx0 hx1 hD3 ((hF1.trans hF2).trans hF3)⟩
theorem half_nat (r : Nat) : (if decide ((0 : Int) < 2 ∧ (2 : Int).natAbs.log2 < 9000) = true then some (W.d (.int ((r : Int) / 2))) else none) = some (.d (.int ((r / 2 : Nat) : Int))) := by
  rw [if_pos (by decide)]
  congr 3
theorem dec3 {v : Int} {m : Nat} {w : Int} (hw : w = (m : Int)) : decide (v < w) = decide (v < (m : Int)) := by rw [hw]
theorem signs (v : Int) (h0 : 0 ≤ v) (h1 : v < 5) (S : Sto) : ∃ s, s ∈ [43, 45, 42, 60, 61] ∧ idxW (.d (.str [43, 45, 42, 60, 61])) (.int v) S = some (.str [s]) := by
  obtain ⟨c, hc, h⟩ := idx_str (S := S) (l := [43, 45, 42, 60, 61]) (v := v) (by decide) h0 h1
  exact ⟨c, hc, h⟩
/-- a term; rec: the parts of it -/
theorem term_step (p : TmP P N) (hfu : 64 < fu) {z : Scn} (n : Nat) (room : Nat) (S : Sto) (Q : W → Sto → Prop) (hr2 : room ≤ 100) (hD : Dl k j S) (hs : Sc k j l z S)
    (q : ∀ (t : Tm) (S' : Sto), t.ok z.cs z.rs → t.parts ≤ max 1 room → Dl k j S' → Fr k j S S' → Q (.d t.d) S')
    (rec : 3 ≤ room → ∀ (r : Nat), r ≤ room / 2 → ∀ (S : Sto) (Q : W → Sto → Prop), Dl k j S → Sc k j l z S →
      (∀ (t : Tm) (S' : Sto), t.ok z.cs z.rs → t.parts ≤ max 1 r → Dl k j S' → Fr k j S S' → Q (.d t.d) S') → Ok (run fu P (n + 2) N.iT [.ref k, .ref z.ks, .int (r : Int)] S) Q) :
    Ok (run fu P (n + 3) N.iT [.ref k, .ref z.ks, .int (room : Int)] S) Q := by
  refine has_run p.T rfl ?_
  show Ok (evSs fu _ _ _ N.bT [some (.ref k), some (.ref z.ks), some (.int (room : Int)), none, none, none, none] S) _
  unfold BdN.bT
  refine ok_cons ?_
  unfold BdN.a0
  refine ok_setE ?_
  refine bdrE p hfu rfl hD (by decide) (by decide) fun form S1 f0 f1 hD1 hF1 => ?_
  have hs1 := hs.fr hF1
  rw [al_d]
  refine ok_cons ?_
  by_cases hl : (room : Int) < 3 ∨ form < 3
  · have ht : ∀ (Q : Bool → Sto → Prop), Q true S1 → Ok (tst (evE (run fu P (n + 2)) (run fu P (n + 2)) P.T.ini (.bor (.cmp .lt (.var 2) (.con (.int 3))) (.cmp .lt (.var 3) (.con (.int 3))))) [some (.ref k), some (.ref z.ks), some (.int (room : Int)), some (.int form), none, none, none] S1) Q := by
      intro Q h
      by_cases h1 : (room : Int) < 3
      · simp only [tst, evE, evWs, evDs, evO, evC, evI, Ok_bind, Ok_ok, Ok_al, al_d, al_o, bind_ok, al_ok_d, al_ok_o, opt_some, testD_bl, List.getElem?_cons_zero, List.getElem?_cons_succ, List.set_cons_zero, List.set_cons_succ, Option.map_some, cmpW, ordW, bltW, binW, intW, addW, evS, Tg.put, if_true, Bool.false_eq_true, if_false, decide_eq_true h1]; exact h
      · simp only [tst, evE, evWs, evDs, evO, evC, evI, Ok_bind, Ok_ok, Ok_al, al_d, al_o, bind_ok, al_ok_d, al_ok_o, opt_some, testD_bl, List.getElem?_cons_zero, List.getElem?_cons_succ, List.set_cons_zero, List.set_cons_succ, Option.map_some, cmpW, ordW, bltW, binW, intW, addW, evS, Tg.put, if_true, Bool.false_eq_true, if_false, decide_eq_false h1, decide_eq_true (hl.resolve_left h1)]; exact h
    unfold BdN.a1
    rw [evS, Ok_bind]
    refine ht _ ?_
    simp only [if_true]
    refine ok_cons ?_
    unfold BdN.a2
    rw [evS, Ok_bind, tst, Ok_bind, evE, Ok_bind]
    refine bdrE p hfu rfl hD1 (by decide) (by decide) fun v2 S2 g0 g1 hD2 hF2 => ?_
    have hs2 := hs1.fr hF2
    simp only [tst, evE, evWs, evDs, evO, evC, evI, Ok_bind, Ok_ok, Ok_al, al_d, al_o, bind_ok, al_ok_d, al_ok_o, opt_some, testD_bl, List.getElem?_cons_zero, List.getElem?_cons_succ, List.set_cons_zero, List.set_cons_succ, Option.map_some, cmpW, ordW, bltW, binW, intW, addW, evS, Tg.put, if_true, Bool.false_eq_true, if_false]
    rw [eqW_scal rfl]
    simp only [tst, evE, evWs, evDs, evO, evC, evI, Ok_bind, Ok_ok, Ok_al, al_d, al_o, bind_ok, al_ok_d, al_ok_o, opt_some, testD_bl, List.getElem?_cons_zero, List.getElem?_cons_succ, List.set_cons_zero, List.set_cons_succ, Option.map_some, cmpW, ordW, bltW, binW, intW, addW, evS, Tg.put, if_true, Bool.false_eq_true, if_false]
    by_cases hz : D.int v2 = D.int 0
    · simp only [decide_eq_true hz, tst, evE, evWs, evDs, evO, evC, evI, Ok_bind, Ok_ok, Ok_al, al_d, al_o, bind_ok, al_ok_d, al_ok_o, opt_some, testD_bl, List.getElem?_cons_zero, List.getElem?_cons_succ, List.set_cons_zero, List.set_cons_succ, Option.map_some, cmpW, ordW, bltW, binW, intW, addW, evS, Tg.put, if_true, Bool.false_eq_true, if_false]
      refine ok_one ?_
      unfold BdN.a3
      refine ok_retE ?_
      refine ok_tupE ?_
      refine ok_dcons ?_
      simp only [tst, evE, evWs, evDs, evO, evC, evI, Ok_bind, Ok_ok, Ok_al, al_d, al_o, bind_ok, al_ok_d, al_ok_o, opt_some, testD_bl, List.getElem?_cons_zero, List.getElem?_cons_succ, List.set_cons_zero, List.set_cons_succ, Option.map_some, cmpW, ordW, bltW, binW, intW, addW, evS, Tg.put, if_true, Bool.false_eq_true, if_false]
      refine bword p hfu hD2 fun w S3 w0 w1 hD3 hF3 => ?_
      simp only [tst, evE, evWs, evDs, evO, evC, evI, Ok_bind, Ok_ok, Ok_al, al_d, al_o, bind_ok, al_ok_d, al_ok_o, opt_some, testD_bl, List.getElem?_cons_zero, List.getElem?_cons_succ, List.set_cons_zero, List.set_cons_succ, Option.map_some, cmpW, ordW, bltW, binW, intW, addW, evS, Tg.put, if_true, Bool.false_eq_true, if_false]
      exact ⟨by simp, q (.num w) S3 ⟨w0, w1⟩ (by simp [Tm.parts]; omega) hD3 ((hF1.trans hF2).trans hF3)⟩
    · simp only [decide_eq_false hz, tst, evE, evWs, evDs, evO, evC, evI, Ok_bind, Ok_ok, Ok_al, al_d, al_o, bind_ok, al_ok_d, al_ok_o, opt_some, testD_bl, List.getElem?_cons_zero, List.getElem?_cons_succ, List.set_cons_zero, List.set_cons_succ, Option.map_some, cmpW, ordW, bltW, binW, intW, addW, evS, Tg.put, if_true, Bool.false_eq_true, if_false]
      refine ok_nil ?_
      refine ok_one ?_
      unfold BdN.a4
      refine ok_retE ?_
      refine ok_tupE ?_
      refine ok_dcons ?_
      simp only [tst, evE, evWs, evDs, evO, evC, evI, Ok_bind, Ok_ok, Ok_al, al_d, al_o, bind_ok, al_ok_d, al_ok_o, opt_some, testD_bl, List.getElem?_cons_zero, List.getElem?_cons_succ, List.set_cons_zero, List.set_cons_succ, Option.map_some, cmpW, ordW, bltW, binW, intW, addW, evS, Tg.put, if_true, Bool.false_eq_true, if_false]
      refine pickE p hfu rfl rfl hs2.kc hs2.ec hs2.nk.2.1 hs2.nj.2.1 hs2.hc.1 hs2.hc.2.1 hD2 fun x S3 hx hD3 hF3 => ?_
      simp only [tst, evE, evWs, evDs, evO, evC, evI, Ok_bind, Ok_ok, Ok_al, al_d, al_o, bind_ok, al_ok_d, al_ok_o, opt_some, testD_bl, List.getElem?_cons_zero, List.getElem?_cons_succ, List.set_cons_zero, List.set_cons_succ, Option.map_some, cmpW, ordW, bltW, binW, intW, addW, evS, Tg.put, if_true, Bool.false_eq_true, if_false]
      exact ⟨by simp, q (.cell x) S3 hx (by simp [Tm.parts]; omega) hD3 ((hF1.trans hF2).trans hF3)⟩
  · obtain ⟨hr3, hf3⟩ : ¬ (room : Int) < 3 ∧ ¬ form < 3 := ⟨fun h => hl (.inl h), fun h => hl (.inr h)⟩
    simp only [BdN.a1, tst, evE, evWs, evDs, evO, evC, evI, Ok_bind, Ok_ok, Ok_al, al_d, al_o, bind_ok, al_ok_d, al_ok_o, opt_some, testD_bl, List.getElem?_cons_zero, List.getElem?_cons_succ, List.set_cons_zero, List.set_cons_succ, Option.map_some, cmpW, ordW, bltW, binW, intW, addW, evS, Tg.put, if_true, Bool.false_eq_true, if_false, decide_eq_false hr3, decide_eq_false hf3]
    refine ok_nil ?_
    have hrm : 3 ≤ room := by omega
    have hlr := len_ref hs1.er
    have hkr := hs1.kr
    have op : ∀ x : Option D, Ok (evSs fu (run fu P (n + 2)) (run fu P (n + 2)) P.T.ini (.cons BdN.a8 (.cons N.a9 (.cons N.a10 .nil))) [some (.ref k), some (.ref z.ks), some (.int (room : Int)), some (.int form), x, none, none] S1) fun o S => match o with
        | .nx _ => Q (.d .non) S
        | .rt w => Q w S
        | _ => False := by
      intro x
      refine ok_cons ?_
      have hh := half_nat (room - 1)
      rw [show ((room - 1 : Nat) : Int) = (room : Int) - 1 by omega] at hh
      simp only [BdN.a8, tst, evE, evWs, evDs, evO, evC, evI, Ok_bind, Ok_ok, Ok_al, al_d, al_o, bind_ok, al_ok_d, al_ok_o, opt_some, testD_bl, List.getElem?_cons_zero, List.getElem?_cons_succ, List.set_cons_zero, List.set_cons_succ, Option.map_some, cmpW, ordW, bltW, binW, intW, addW, evS, Tg.put, if_true, Bool.false_eq_true, if_false, hh]
      refine ok_cons ?_
      simp only [BdN.a9, BdN.term, tst, evE, evWs, evDs, evO, evC, evI, Ok_bind, Ok_ok, Ok_al, al_d, al_o, bind_ok, al_ok_d, al_ok_o, opt_some, testD_bl, List.getElem?_cons_zero, List.getElem?_cons_succ, List.set_cons_zero, List.set_cons_succ, Option.map_some, cmpW, ordW, bltW, binW, intW, addW, evS, Tg.put, if_true, Bool.false_eq_true, if_false]
      refine rec hrm ((room - 1) / 2) (by omega) S1 _ hD1 hs1 fun t S2 ht hp hD2 hF2 => ?_
      have hs2 := hs1.fr hF2
      simp only [tst, evE, evWs, evDs, evO, evC, evI, Ok_bind, Ok_ok, Ok_al, al_d, al_o, bind_ok, al_ok_d, al_ok_o, opt_some, testD_bl, List.getElem?_cons_zero, List.getElem?_cons_succ, List.set_cons_zero, List.set_cons_succ, Option.map_some, cmpW, ordW, bltW, binW, intW, addW, evS, Tg.put, if_true, Bool.false_eq_true, if_false]
      refine ok_one ?_
      unfold BdN.a10
      refine ok_retE ?_
      refine ok_tupE ?_
      refine ok_dcons ?_
      simp only [tst, evE, evWs, evDs, evO, evC, evI, Ok_bind, Ok_ok, Ok_al, al_d, al_o, bind_ok, al_ok_d, al_ok_o, opt_some, testD_bl, List.getElem?_cons_zero, List.getElem?_cons_succ, List.set_cons_zero, List.set_cons_succ, Option.map_some, cmpW, ordW, bltW, binW, intW, addW, evS, Tg.put, if_true, Bool.false_eq_true, if_false]
      refine bdrE p hfu rfl hD2 (by decide) (by decide) fun v3 S3 g0 g1 hD3 hF3 => ?_
      obtain ⟨s, hsg, hi⟩ := signs v3 g0 g1 S3
      have hs3 := hs2.fr hF3
      simp only [tst, evE, evWs, evDs, evO, evC, evI, Ok_bind, Ok_ok, Ok_al, al_d, al_o, bind_ok, al_ok_d, al_ok_o, opt_some, testD_bl, List.getElem?_cons_zero, List.getElem?_cons_succ, List.set_cons_zero, List.set_cons_succ, Option.map_some, cmpW, ordW, bltW, binW, intW, addW, evS, Tg.put, if_true, Bool.false_eq_true, if_false, hi, BdN.term]
      refine rec hrm ((room - 1) / 2) (by omega) S3 _ hD3 hs3 fun u S4 hu hup hD4 hF4 => ?_
      simp only [tst, evE, evWs, evDs, evO, evC, evI, Ok_bind, Ok_ok, Ok_al, al_d, al_o, bind_ok, al_ok_d, al_ok_o, opt_some, testD_bl, List.getElem?_cons_zero, List.getElem?_cons_succ, List.set_cons_zero, List.set_cons_succ, Option.map_some, cmpW, ordW, bltW, binW, intW, addW, evS, Tg.put, if_true, Bool.false_eq_true, if_false]
      exact ⟨by simp, q (.op s t u) S4 ⟨hsg, ht, hu⟩ (by simp only [Tm.parts]; omega) hD4 (((hF1.trans hF2).trans hF3).trans hF4)⟩
    refine ok_cons ?_
    have hkr' : idxW (.d (.ref z.ks)) (.str [114, 111, 119, 115]) S1 = some (.ref z.pr) := hkr
    simp only [BdN.a5, BdN.lenK, tst, evE, evWs, evDs, evO, evC, evI, Ok_bind, Ok_ok, Ok_al, al_d, al_o, bind_ok, al_ok_d, al_ok_o, opt_some, testD_bl, List.getElem?_cons_zero, List.getElem?_cons_succ, List.set_cons_zero, List.set_cons_succ, Option.map_some, cmpW, ordW, bltW, binW, intW, addW, evS, Tg.put, if_true, Bool.false_eq_true, if_false]
    rw [eqW_scal rfl]
    simp only [tst, evE, evWs, evDs, evO, evC, evI, Ok_bind, Ok_ok, Ok_al, al_d, al_o, bind_ok, al_ok_d, al_ok_o, opt_some, testD_bl, List.getElem?_cons_zero, List.getElem?_cons_succ, List.set_cons_zero, List.set_cons_succ, Option.map_some, cmpW, ordW, bltW, binW, intW, addW, evS, Tg.put, if_true, Bool.false_eq_true, if_false]
    by_cases h3 : D.int form = D.int 3
    · simp only [decide_eq_true h3, tst, evE, evWs, evDs, evO, evC, evI, Ok_bind, Ok_ok, Ok_al, al_d, al_o, bind_ok, al_ok_d, al_ok_o, opt_some, testD_bl, List.getElem?_cons_zero, List.getElem?_cons_succ, List.set_cons_zero, List.set_cons_succ, Option.map_some, cmpW, ordW, bltW, binW, intW, addW, evS, Tg.put, if_true, Bool.false_eq_true, if_false, hkr', hlr, List.length_map]
      by_cases h0 : 0 < z.rs.length
      · simp only [show decide ((0 : Int) < ((z.rs.length : Nat) : Int)) = true from decide_eq_true (by omega), tst, evE, evWs, evDs, evO, evC, evI, Ok_bind, Ok_ok, Ok_al, al_d, al_o, bind_ok, al_ok_d, al_ok_o, opt_some, testD_bl, List.getElem?_cons_zero, List.getElem?_cons_succ, List.set_cons_zero, List.set_cons_succ, Option.map_some, cmpW, ordW, bltW, binW, intW, addW, evS, Tg.put, if_true, Bool.false_eq_true, if_false]
        refine ok_cons ?_
        unfold BdN.a6
        refine ok_setE ?_
        refine pickE p hfu rfl rfl hkr hs1.er hs1.nk.2.2.1 hs1.nj.2.2.1 h0 hs1.hc.2.2.1 hD1 fun r S2 hr hD2 hF2 => ?_
        have hs2 := hs1.fr hF2
        rw [al_d]
        refine ok_one ?_
        unfold BdN.a7
        refine ok_retE ?_
        refine ok_tupE ?_
        refine ok_dcons ?_
        simp only [tst, evE, evWs, evDs, evO, evC, evI, Ok_bind, Ok_ok, Ok_al, al_d, al_o, bind_ok, al_ok_d, al_ok_o, opt_some, testD_bl, List.getElem?_cons_zero, List.getElem?_cons_succ, List.set_cons_zero, List.set_cons_succ, Option.map_some, cmpW, ordW, bltW, binW, intW, addW, evS, Tg.put, if_true, Bool.false_eq_true, if_false, BdN.term, half_nat]
        refine rec hrm (room / 2) (by omega) S2 _ hD2 hs2 fun t S3 ht hp hD3 hF3 => ?_
        simp only [tst, evE, evWs, evDs, evO, evC, evI, Ok_bind, Ok_ok, Ok_al, al_d, al_o, bind_ok, al_ok_d, al_ok_o, opt_some, testD_bl, List.getElem?_cons_zero, List.getElem?_cons_succ, List.set_cons_zero, List.set_cons_succ, Option.map_some, cmpW, ordW, bltW, binW, intW, addW, evS, Tg.put, if_true, Bool.false_eq_true, if_false]
        exact ⟨by simp, q (.row r t) S3 ⟨hr, ht⟩ (by simp only [Tm.parts]; omega) hD3 ((hF1.trans hF2).trans hF3)⟩
      · simp only [show decide ((0 : Int) < ((z.rs.length : Nat) : Int)) = false from decide_eq_false (by omega), tst, evE, evWs, evDs, evO, evC, evI, Ok_bind, Ok_ok, Ok_al, al_d, al_o, bind_ok, al_ok_d, al_ok_o, opt_some, testD_bl, List.getElem?_cons_zero, List.getElem?_cons_succ, List.set_cons_zero, List.set_cons_succ, Option.map_some, cmpW, ordW, bltW, binW, intW, addW, evS, Tg.put, if_true, Bool.false_eq_true, if_false]
        refine ok_nil ?_
        exact op none
    · simp only [decide_eq_false h3, tst, evE, evWs, evDs, evO, evC, evI, Ok_bind, Ok_ok, Ok_al, al_d, al_o, bind_ok, al_ok_d, al_ok_o, opt_some, testD_bl, List.getElem?_cons_zero, List.getElem?_cons_succ, List.set_cons_zero, List.set_cons_succ, Option.map_some, cmpW, ordW, bltW, binW, intW, addW, evS, Tg.put, if_true, Bool.false_eq_true, if_false]
      refine ok_nil ?_
      exact op none
theorem term_ok (p : TmP P N) (hfu : 64 < fu) {z : Scn} : ∀ (m n : Nat) (room : Nat) (S : Sto) (Q : W → Sto → Prop), room < 2 ^ m → room ≤ 100 → Dl k j S → Sc k j l z S →
    (∀ (t : Tm) (S' : Sto), t.ok z.cs z.rs → t.parts ≤ max 1 room → Dl k j S' → Fr k j S S' → Q (.d t.d) S') → Ok (run fu P (n + m + 3) N.iT [.ref k, .ref z.ks, .int (room : Int)] S) Q := by
  intro m
  induction m with
  | zero =>
    intro n room S Q hr hr2 hD hs q
    exact term_step p hfu n room S Q hr2 hD hs q fun h => absurd h (by simp at hr; omega)
  | succ m ih =>
    intro n room S Q hr hr2 hD hs q
    refine term_step p hfu (n + (m + 1)) room S Q hr2 hD hs q fun h r hrr S Q hD hs q => ?_
    have h2 : 2 ^ (m + 1) = 2 * 2 ^ m := by rw [Nat.pow_succ]; omega
    exact ih n r S Q (by omega) (by omega) hD hs q
end
end PyI

set_option maxRecDepth 100000
set_option maxHeartbeats 2000000
/-! PyI: the laws' programs: statements, bodies. -/
namespace PyI
section
variable (N : BdN)
def BdN.left : Ex := .idx (.var 2) (.con (.int 0))
def BdN.less : Stm := .ssub (.var 2) (.con (.int 0)) (.bin .sub BdN.left (.con (.int 1)))
def BdN.deeper : Ex := .call N.iB (.cons (.var 0) (.cons (.var 1) (.cons (.var 2) (.cons (.bin .add (.var 3) (.con (.int 1))) .nil))))
def BdN.cell4 : Ex := .tup (.cons (.con (.str [99, 101, 108, 108])) (.cons (.var 4) .nil))
def BdN.one : Ex := .tup (.cons (.con (.str [110, 117, 109])) (.cons (.con (.int 1)) .nil))
def BdN.step (c : Nat) : Ex := .tup (.cons (.con (.str [115, 101, 116])) (.cons (.var 4) (.cons (.tup (.cons (.con (.str [111, 112])) (.cons (.con (.str [c])) (.cons BdN.cell4 (.cons BdN.one .nil))))) .nil)))
def BdN.c0 : Stm := .set (.nm 4) (N.pick (.str [99, 101, 108, 108, 115]))
def BdN.c2 : Stm := .set (.nm 5) N.deeper
def BdN.c4 : Stm := .ret (.tup (.cons (.con (.str [119, 104, 105, 108, 101])) (.cons (N.term (.con (.int 5))) (.cons (.var 5) .nil))))
def BdN.c3 : Stm := .ite (.cmp .eq (N.dr 4) (.con (.int 0))) (.cons N.c4 .nil) (.nil)
def BdN.c5 : Stm := .set (.nm 6) (BdN.step 45)
def BdN.c6 : Stm := .set (.nm 7) (.tup (.cons (.con (.str [111, 112])) (.cons (.con (.str [60])) (.cons BdN.cell4 (.cons (.tup (.cons (.con (.str [110, 117, 109])) (.cons (.bin .add (.con (.int 1)) (N.dr 9)) .nil))) .nil)))))
def BdN.c7 : Stm := .set (.nm 8) (BdN.step 43)
def BdN.c8 : Stm := .ret (.idx (.lst (.cons (.tup (.cons (.con (.str [119, 104, 105, 108, 101])) (.cons BdN.cell4 (.cons (.bin .add (.var 5) (.tup (.cons (.var 6) .nil))) .nil)))) (.cons (.tup (.cons (.con (.str [119, 104, 105, 108, 101])) (.cons (.var 7) (.cons (.bin .add (.var 5) (.tup (.cons (.var 8) .nil))) .nil)))) .nil))) (N.dr 2))
def BdN.bR : Sts := .cons N.c0 (.cons BdN.less (.cons N.c2 (.cons N.c3 (.cons BdN.c5 (.cons N.c6 (.cons BdN.c7 (.cons N.c8 .nil)))))))
def BdN.e0 : Stm := .set (.nm 4) (N.dr 10)
def BdN.e2 : Stm := .set (.nm 5) N.deeper
def BdN.e3 : Stm := .ret (.tup (.cons (.con (.str [105, 102])) (.cons (N.term (.con (.int 5))) (.cons (.var 5) (.cons N.deeper .nil)))))
def BdN.e1 : Stm := .ite (.band (.cmp .eq (.var 4) (.con (.int 0))) (.cmp .lt (.var 3) (.con (.int 3)))) (.cons N.e2 (.cons N.e3 .nil)) (.nil)
def BdN.e5 : Stm := .ret (.call N.iR (.cons (.var 0) (.cons (.var 1) (.cons (.var 2) (.cons (.var 3) .nil)))))
def BdN.e4 : Stm := .ite (.band (.cmp .lt (.var 4) (.con (.int 3))) (.cmp .lt (.var 3) (.con (.int 3)))) (.cons N.e5 .nil) (.nil)
def BdN.e7 : Stm := .ret (.tup (.cons (.con (.str [99, 97, 108, 108])) (.cons (N.pick (.str [100, 101, 102, 115])) .nil)))
def BdN.e6 : Stm := .ite (.band (.cmp .lt (.var 4) (.con (.int 6))) (.cmp .gt (BdN.lenK (.str [100, 101, 102, 115])) (.con (.int 0)))) (.cons N.e7 .nil) (.nil)
def BdN.e9 : Stm := .set (.nm 6) (N.pick (.str [114, 111, 119, 115]))
def BdN.e10 : Stm := .ret (.tup (.cons (.con (.str [112, 117, 116])) (.cons (.var 6) (.cons (N.term (.con (.int 3))) (.cons (N.term (.con (.int 7))) .nil)))))
def BdN.e8 : Stm := .ite (.band (.cmp .eq (.var 4) (.con (.int 6))) (.cmp .gt (BdN.lenK (.str [114, 111, 119, 115])) (.con (.int 0)))) (.cons N.e9 (.cons N.e10 .nil)) (.nil)
def BdN.e11 : Stm := .set (.nm 7) (N.pick (.str [99, 101, 108, 108, 115]))
def BdN.e12 : Stm := .ret (.tup (.cons (.con (.str [115, 101, 116])) (.cons (.var 7) (.cons (N.term (.idx (.lst (.cons (.con (.int 3)) (.cons (.con (.int 9)) (.cons (.con (.int 20)) .nil)))) (N.dr 3))) .nil))))
def BdN.bS : Sts := .cons N.e0 (.cons N.e1 (.cons N.e4 (.cons N.e6 (.cons N.e8 (.cons N.e11 (.cons N.e12 .nil))))))
def BdN.h0 : Stm := .set (.nm 4) (.lst (.nil))
def BdN.h4 : Stm := .expr (.bmt .append (.var 4) (.cons (.call N.iS (.cons (.var 0) (.cons (.var 1) (.cons (.var 2) (.cons (.var 3) .nil))))) .nil))
def BdN.h2 : Stm := .ite (.cmp .gt BdN.left (.con (.int 1))) (.cons BdN.less (.cons N.h4 .nil)) (.nil)
def two (a b : Int) : Ex := .lst (.cons (.con (.int a)) (.cons (.con (.int b)) .nil))
def BdN.h1 : Stm := .for (.nm 5) (.rng1 (.call N.iD (.cons (.var 0) (.cons (.idx (.idx (.lst (.cons (two 5 13) (.cons (two 4 8) (.cons (two 3 6) (.cons (two 3 3) .nil))))) (.var 3)) (N.dr 2)) .nil)))) (.cons N.h2 .nil)
def BdN.h5 : Stm := .ret (.blt .tuple (.cons (.var 4) .nil))
def BdN.bB : Sts := .cons BdN.h0 (.cons N.h1 (.cons BdN.h5 .nil))
end
structure BdP (P : Pg) (N : BdN) : Prop extends TmP P N where
  R : Has P N.iR N.bR 4 9
  S : Has P N.iS N.bS 4 8
  B : Has P N.iB N.bB 4 6
/-- so many are left -/
def Lf (l : Nat) (v : Int) (S : Sto) : Prop := S[l]? = some (.lst [.int v])
theorem Lf.fr {k j l : Nat} {v : Int} {S S' : Sto} (h : Lf l v S) (f : Fr k j S S') (a : l ≠ k) (b : l ≠ j) : Lf l v S' := f.at_ h a b
section
variable (N : BdN) (P : Pg) (fu k j l : Nat) (z : Scn)
/-- what a body tells: d how deep it stands, r how much deeper it may go -/
def BodyS (r d : Nat) : Prop := ∀ (m : Nat) (v : Int) (S : Sto) (Q : W → Sto → Prop), 10 + 3 * r ≤ m → 0 ≤ v → Dl k j S → Sc k j l z S → Lf l v S →
  (∀ (b : Bd) (S' : Sto) (v' : Int), b.ok z.cs z.rs z.fs → b.nest ≤ r → b.len ≤ 12 → (b.len = 0 → v' = v) → 0 ≤ v' → v' + b.cost ≤ v → Lf l v' S' → Dl k j S' → Fr3 k j l S S' → Q (.d (.tup b.ds)) S') →
  Ok (run fu P m N.iB [.ref k, .ref z.ks, .ref l, .int (d : Int)] S) Q
def StatS (r d : Nat) : Prop := ∀ (m : Nat) (v : Int) (S : Sto) (Q : W → Sto → Prop), 9 + 3 * r ≤ m → 1 ≤ v → Dl k j S → Sc k j l z S → Lf l v S →
  (∀ (s : St) (S' : Sto) (v' : Int), s.ok z.cs z.rs z.fs → s.nest ≤ r → 0 ≤ v' → v' + s.cost ≤ v + 1 → Lf l v' S' → Dl k j S' → Fr3 k j l S S' → Q (.d s.d) S') →
  Ok (run fu P m N.iS [.ref k, .ref z.ks, .ref l, .int (d : Int)] S) Q
def RoundS (r d : Nat) : Prop := ∀ (m : Nat) (v : Int) (S : Sto) (Q : W → Sto → Prop), 8 + 3 * r ≤ m → 1 ≤ v → Dl k j S → Sc k j l z S → Lf l v S →
  (∀ (s : St) (S' : Sto) (v' : Int), s.ok z.cs z.rs z.fs → s.nest ≤ r → 0 ≤ v' → v' + s.cost ≤ v + 1 → Lf l v' S' → Dl k j S' → Fr3 k j l S S' → Q (.d s.d) S') →
  Ok (run fu P m N.iR [.ref k, .ref z.ks, .ref l, .int (d : Int)] S) Q
end
section
variable {N : BdN} {P : Pg} {fu k j l : Nat} {z : Scn}
theorem less_ok {cb ci : Cb} {ini : Nat → Option Nat} {ρ : Env} {S : Sto} {v : Int} {Q : Out → Sto → Prop} (hv : ρ[2]? = some (some (.ref l))) (h : Lf l v S) (q : Q (.nx ρ) (S.set l (.lst [.int (v - 1)]))) : Ok (evS fu cb ci ini BdN.less ρ S) Q := by
  have i0 : idxW (.d (.ref l)) (.int 0) S = some (.int v) := idx_rn (i := 0) h rfl
  simp only [BdN.less, BdN.left, tst, evE, evWs, evDs, evO, evC, evI, Ok_bind, Ok_ok, Ok_al, al_d, al_o, bind_ok, al_ok_d, al_ok_o, opt_some, testD_bl, List.getElem?_cons_zero, List.getElem?_cons_succ, List.set_cons_zero, List.set_cons_succ, Option.map_some, cmpW, ordW, bltW, binW, intW, addW, evS, Tg.put, if_true, Bool.false_eq_true, if_false, hv, i0]
  rw [setD_ref h (by decide) (by simp)]
  exact q
theorem Lf.set {v w : Int} {S : Sto} (h : Lf l v S) : Lf l w (S.set l (.lst [.int w])) := set_at h
theorem termE (p : BdP P N) (hfu : 64 < fu) {m : Nat} (hm : 8 ≤ m) {ci : Cb} {ini : Nat → Option Nat} {ρ : Env} {S : Sto} {e : Ex} {Q : W → Sto → Prop} (hv : ρ[0]? = some (some (.ref k))) (hv1 : ρ[1]? = some (some (.ref z.ks))) (he : Ok (evE (run fu P m) ci ini e ρ S) fun w S' => ∃ room : Nat, w = .d (.int (room : Int)) ∧ room ≤ 20 ∧ Dl k j S' ∧ Fr k j S S') (hs : Sc k j l z S)
    (q : ∀ (t : Tm) (S' : Sto), t.ok z.cs z.rs → t.parts ≤ 20 → Dl k j S' → Fr k j S S' → Q (.d t.d) S') : Ok (evE (run fu P m) ci ini (N.term e) ρ S) Q := by
  obtain ⟨n, rfl⟩ : ∃ n, m = n + 5 + 3 := ⟨m - 8, by omega⟩
  unfold BdN.term
  refine ok_callE ?_
  simp only [evDs, evE, hv, hv1, tst, evE, evWs, evDs, evO, evC, evI, Ok_bind, Ok_ok, Ok_al, al_d, al_o, bind_ok, al_ok_d, al_ok_o, opt_some, testD_bl, List.getElem?_cons_zero, List.getElem?_cons_succ, List.set_cons_zero, List.set_cons_succ, Option.map_some, cmpW, ordW, bltW, binW, intW, addW, evS, Tg.put, if_true, Bool.false_eq_true, if_false]
  refine he.mono fun w S' h => ?_
  obtain ⟨room, rfl, hr, hD, hF⟩ := h
  simp only [tst, evE, evWs, evDs, evO, evC, evI, Ok_bind, Ok_ok, Ok_al, al_d, al_o, bind_ok, al_ok_d, al_ok_o, opt_some, testD_bl, List.getElem?_cons_zero, List.getElem?_cons_succ, List.set_cons_zero, List.set_cons_succ, Option.map_some, cmpW, ordW, bltW, binW, intW, addW, evS, Tg.put, if_true, Bool.false_eq_true, if_false]
  exact term_ok p.toTmP hfu 5 n room S' Q (by omega) (by omega) hD (hs.fr hF) fun t S' a b c d => q t S' a (by omega) c (hF.trans d)
theorem pickM (p : BdP P N) (hfu : 64 < fu) {m : Nat} (hm : 1 ≤ m) {S : Sto} {Q : W → Sto → Prop} {ci : Cb} {ini : Nat → Option Nat} {ρ : Env} {ks pl : Nat} {key : D} {xs : List (List Nat)} (hv : ρ[0]? = some (some (.ref k))) (hv1 : ρ[1]? = some (some (.ref ks))) (hk : idxW (.d (.ref ks)) key S = some (.ref pl)) (e : S[pl]? = some (.lst (xs.map D.str)))
    (nk : pl ≠ k) (nj : pl ≠ j) (h0 : 0 < xs.length) (h1 : xs.length ≤ 24) (hD : Dl k j S)
    (q : ∀ (x : List Nat) (S' : Sto), x ∈ xs → Dl k j S' → Fr k j S S' → Q (.d (.str x)) S') : Ok (evE (run fu P m) ci ini (N.pick key) ρ S) Q := by
  obtain ⟨n, rfl⟩ : ∃ n, m = n + 1 := ⟨m - 1, by omega⟩
  exact pickE p.toTmP hfu hv hv1 hk e nk nj h0 h1 hD q
theorem drM (p : BdP P N) (hfu : 64 < fu) {m : Nat} (hm : 1 ≤ m) {S : Sto} {Q : W → Sto → Prop} {ci : Cb} {ini : Nat → Option Nat} {ρ : Env} (hv : ρ[0]? = some (some (.ref k))) {c : Int} (hD : Dl k j S) (h0 : 0 < c) (h1 : c < 18446744073709551616)
    (q : ∀ (v : Int) (S' : Sto), 0 ≤ v → v < c → Dl k j S' → Fr k j S S' → Q (.d (.int v)) S') : Ok (evE (run fu P m) ci ini (N.dr c) ρ S) Q := by
  obtain ⟨n, rfl⟩ : ∃ n, m = n + 1 := ⟨m - 1, by omega⟩
  exact bdrE p.toTmP hfu hv hD h0 h1 q
theorem tup_cat {l m : List D} (hl : l.length + m.length ≤ 1000) (S : Sto) : addW (.d (.tup l)) (.d (.tup m)) S = some (.d (.tup (l ++ m))) := by
  show (if l.length + m.length ≤ LINE then some (W.d (.tup (l ++ m))) else none) = _
  rw [if_pos (Nat.le_trans hl (by decide))]
theorem round_step (p : BdP P N) (hfu : 64 < fu) {r d : Nat} (hB : BodyS N P fu k j l z r (d + 1)) : RoundS N P fu k j l z (r + 1) d := by
  intro m v S Q hm hv hD hs hl q
  obtain ⟨m, rfl⟩ : ∃ m', m = m' + 1 := ⟨m - 1, by omega⟩
  refine has_run p.R rfl ?_
  show Ok (evSs fu (run fu P m) (run fu P m) _ N.bR [some (.ref k), some (.ref z.ks), some (.ref l), some (.int (d : Int)), none, none, none, none, none] S) _
  unfold BdN.bR
  refine ok_cons ?_
  unfold BdN.c0
  refine ok_setE ?_
  refine pickM p hfu (by omega) rfl rfl hs.kc hs.ec hs.nk.2.1 hs.nj.2.1 hs.hc.1 hs.hc.2.1 hD fun x S1 hx hD1 hF1 => ?_
  have hs1 := hs.fr hF1
  have hl1 := hl.fr hF1 hs.lk.1 hs.lk.2
  rw [al_d]
  refine ok_cons ?_
  refine less_ok rfl hl1 ?_
  have hl2 : Lf l (v - 1) (S1.set l (.lst [.int (v - 1)])) := hl1.set
  have hF2 : Fr3 k j l S (S1.set l (.lst [.int (v - 1)])) := hF1.fr3.trans (Fr3.set _)
  have hs2 := hs.fr3 hF2
  have hD2 : Dl k j (S1.set l (.lst [.int (v - 1)])) := hD1.set_ne hs.lk.1 hs.lk.2
  generalize S1.set l (.lst [.int (v - 1)]) = S2 at hl2 hF2 hs2 hD2 ⊢
  refine ok_cons ?_
  unfold BdN.c2 BdN.deeper
  simp only [tst, evE, evWs, evDs, evO, evC, evI, Ok_bind, Ok_ok, Ok_al, al_d, al_o, bind_ok, al_ok_d, al_ok_o, opt_some, testD_bl, List.getElem?_cons_zero, List.getElem?_cons_succ, List.set_cons_zero, List.set_cons_succ, Option.map_some, cmpW, ordW, bltW, binW, intW, addW, evS, Tg.put, if_true, Bool.false_eq_true, if_false]
  refine hB m (v - 1) S2 _ (by omega) (by omega) hD2 hs2 hl2 fun b S3 v3 hb hbn hbl _ hv3 hv3' hl3 hD3 hF3 => ?_
  have hs3 := hs2.fr3 hF3
  have hF3' := hF2.trans hF3
  simp only [tst, evE, evWs, evDs, evO, evC, evI, Ok_bind, Ok_ok, Ok_al, al_d, al_o, bind_ok, al_ok_d, al_ok_o, opt_some, testD_bl, List.getElem?_cons_zero, List.getElem?_cons_succ, List.set_cons_zero, List.set_cons_succ, Option.map_some, cmpW, ordW, bltW, binW, intW, addW, evS, Tg.put, if_true, Bool.false_eq_true, if_false]
  refine ok_cons ?_
  unfold BdN.c3
  rw [evS, Ok_bind, tst, Ok_bind, evE, Ok_bind]
  refine drM p hfu (by omega) rfl hD3 (by decide) (by decide) fun v4 S4 a4 b4 hD4 hF4 => ?_
  have hs4 := hs3.fr hF4
  have hl4 := hl3.fr hF4 hs.lk.1 hs.lk.2
  have hF4' := hF3'.trans hF4.fr3
  simp only [tst, evE, evWs, evDs, evO, evC, evI, Ok_bind, Ok_ok, Ok_al, al_d, al_o, bind_ok, al_ok_d, al_ok_o, opt_some, testD_bl, List.getElem?_cons_zero, List.getElem?_cons_succ, List.set_cons_zero, List.set_cons_succ, Option.map_some, cmpW, ordW, bltW, binW, intW, addW, evS, Tg.put, if_true, Bool.false_eq_true, if_false]
  rw [eqW_scal rfl]
  simp only [tst, evE, evWs, evDs, evO, evC, evI, Ok_bind, Ok_ok, Ok_al, al_d, al_o, bind_ok, al_ok_d, al_ok_o, opt_some, testD_bl, List.getElem?_cons_zero, List.getElem?_cons_succ, List.set_cons_zero, List.set_cons_succ, Option.map_some, cmpW, ordW, bltW, binW, intW, addW, evS, Tg.put, if_true, Bool.false_eq_true, if_false]
  by_cases h0 : D.int v4 = D.int 0
  · simp only [decide_eq_true h0, tst, evE, evWs, evDs, evO, evC, evI, Ok_bind, Ok_ok, Ok_al, al_d, al_o, bind_ok, al_ok_d, al_ok_o, opt_some, testD_bl, List.getElem?_cons_zero, List.getElem?_cons_succ, List.set_cons_zero, List.set_cons_succ, Option.map_some, cmpW, ordW, bltW, binW, intW, addW, evS, Tg.put, if_true, Bool.false_eq_true, if_false]
    refine ok_one ?_
    unfold BdN.c4
    refine ok_retE ?_
    refine ok_tupE ?_
    refine ok_dcons ?_
    simp only [tst, evE, evWs, evDs, evO, evC, evI, Ok_bind, Ok_ok, Ok_al, al_d, al_o, bind_ok, al_ok_d, al_ok_o, opt_some, testD_bl, List.getElem?_cons_zero, List.getElem?_cons_succ, List.set_cons_zero, List.set_cons_succ, Option.map_some, cmpW, ordW, bltW, binW, intW, addW, evS, Tg.put, if_true, Bool.false_eq_true, if_false]
    refine termE p hfu (by omega) rfl rfl (by simp only [tst, evE, evWs, evDs, evO, evC, evI, Ok_bind, Ok_ok, Ok_al, al_d, al_o, bind_ok, al_ok_d, al_ok_o, opt_some, testD_bl, List.getElem?_cons_zero, List.getElem?_cons_succ, List.set_cons_zero, List.set_cons_succ, Option.map_some, cmpW, ordW, bltW, binW, intW, addW, evS, Tg.put, if_true, Bool.false_eq_true, if_false]; exact ⟨5, rfl, by decide, hD4, Fr.refl⟩) hs4 fun t S5 ht htp hD5 hF5 => ?_
    simp only [tst, evE, evWs, evDs, evO, evC, evI, Ok_bind, Ok_ok, Ok_al, al_d, al_o, bind_ok, al_ok_d, al_ok_o, opt_some, testD_bl, List.getElem?_cons_zero, List.getElem?_cons_succ, List.set_cons_zero, List.set_cons_succ, Option.map_some, cmpW, ordW, bltW, binW, intW, addW, evS, Tg.put, if_true, Bool.false_eq_true, if_false]
    refine ⟨by simp, q (.whl t b) S5 v3 ⟨⟨ht, htp⟩, hb⟩ (by simp only [St.nest]; omega) hv3 (by simp only [St.cost]; omega) (hl4.fr hF5 hs.lk.1 hs.lk.2) hD5 (hF4'.trans hF5.fr3)⟩
  · simp only [decide_eq_false h0, tst, evE, evWs, evDs, evO, evC, evI, Ok_bind, Ok_ok, Ok_al, al_d, al_o, bind_ok, al_ok_d, al_ok_o, opt_some, testD_bl, List.getElem?_cons_zero, List.getElem?_cons_succ, List.set_cons_zero, List.set_cons_succ, Option.map_some, cmpW, ordW, bltW, binW, intW, addW, evS, Tg.put, if_true, Bool.false_eq_true, if_false]
    refine ok_nil ?_
    have l2 : ∀ (c e : D), ([c, e] : List D).length ≤ LINE := fun c e => by show 0 + 1 + 1 ≤ LINE; decide
    have l3 : ∀ (c e f : D), ([c, e, f] : List D).length ≤ LINE := fun c e f => by show 0 + 1 + 1 + 1 ≤ LINE; decide
    have l4 : ∀ (c e f g : D), ([c, e, f, g] : List D).length ≤ LINE := fun c e f g => by show 0 + 1 + 1 + 1 + 1 ≤ LINE; decide
    have stepE : ∀ (c : Nat) (ρ : Env) (S : Sto), ρ[4]? = some (some (.str x)) → evE (run fu P m) (run fu P m) P.T.ini (BdN.step c) ρ S = .ok (.d (St.set x (.op c (.cell x) (.num 1))).d) S := by
      intro c ρ S h
      simp only [BdN.step, BdN.cell4, BdN.one, evE, evDs, h, bind_ok, al_ok_d, l2, l3, l4, if_true, St.d, Tm.d]
    refine ok_cons ?_
    unfold BdN.c5
    refine ok_setE ?_
    rw [stepE 45 _ _ rfl, Ok_ok, al_d]
    refine ok_cons ?_
    unfold BdN.c6
    refine ok_setE ?_
    refine ok_tupE ?_
    refine ok_dcons ?_
    simp only [tst, evE, evWs, evDs, evO, evC, evI, Ok_bind, Ok_ok, Ok_al, al_d, al_o, bind_ok, al_ok_d, al_ok_o, opt_some, testD_bl, List.getElem?_cons_zero, List.getElem?_cons_succ, List.set_cons_zero, List.set_cons_succ, Option.map_some, cmpW, ordW, bltW, binW, intW, addW, evS, Tg.put, if_true, Bool.false_eq_true, if_false]
    simp only [BdN.cell4, evE, evDs, bind_ok, al_ok_d, l2, if_true, List.getElem?_cons_zero, List.getElem?_cons_succ, List.set_cons_zero, List.set_cons_succ, Ok_bind, Ok_ok, Ok_al, al_d]
    refine drM p hfu (by omega) rfl hD4 (by decide) (by decide) fun v5 S5 a5 b5 hD5 hF5 => ?_
    have hs5 := hs4.fr hF5
    have hl5 := hl4.fr hF5 hs.lk.1 hs.lk.2
    have hF5' := hF4'.trans hF5.fr3
    simp only [tst, evE, evWs, evDs, evO, evC, evI, Ok_bind, Ok_ok, Ok_al, al_d, al_o, bind_ok, al_ok_d, al_ok_o, opt_some, testD_bl, List.getElem?_cons_zero, List.getElem?_cons_succ, List.set_cons_zero, List.set_cons_succ, Option.map_some, cmpW, ordW, bltW, binW, intW, addW, evS, Tg.put, if_true, Bool.false_eq_true, if_false, l2]
    refine ⟨by simp, ?_⟩
    refine ok_cons ?_
    unfold BdN.c7
    refine ok_setE ?_
    rw [stepE 43 _ _ rfl, Ok_ok, al_d]
    refine ok_one ?_
    unfold BdN.c8
    refine ok_retE ?_
    refine ok_idxE ?_
    have hcat : ∀ (y : D) (S : Sto), addW (.d (.tup b.ds)) (.d (.tup [y])) S = some (.d (.tup (b.ds ++ [y]))) := fun y S => tup_cat (by rw [Bd.ds_len]; simp; omega) S
    have l1 : ∀ (c : D), ([c] : List D).length ≤ LINE := fun c => len_one c
    simp only [BdN.cell4, evE, evDs, bind_ok, al_ok_d, l1, l2, l3, if_true, List.getElem?_cons_zero, List.getElem?_cons_succ, List.set_cons_zero, List.set_cons_succ, Ok_bind, Ok_ok, Ok_al, al_d, binW, hcat, opt_some]
    refine drM p hfu (by omega) rfl hD5 (by decide) (by decide) fun v6 S6 a6 b6 hD6 hF6 => ?_
    rw [al_d]
    have hl6 := hl5.fr hF6 hs.lk.1 hs.lk.2
    have hF6' := hF5'.trans hF6.fr3
    have hok : ∀ (t : Tm) (c : Nat), c ∈ [43, 45, 42, 60, 61] → t.ok z.cs z.rs → t.parts ≤ 20 → Q (.d (St.whl t (b.app (.one (.set x (.op c (.cell x) (.num 1)))))).d) S6 := fun t c hc h1 h2 => by
      refine q _ S6 v3 ⟨⟨h1, h2⟩, Bd.ok_app.mpr ⟨hb, ⟨hx, ⟨hc, hx, by decide, by decide⟩, by simp [Tm.parts]⟩, trivial⟩⟩ ?_ hv3 ?_ hl6 hD6 hF6'
      · simp only [St.nest, Bd.nest_app, Bd.nest]; omega
      · simp only [St.cost, Bd.cost_app, Bd.cost]; omega
    have : v6 = 0 ∨ v6 = 1 := by omega
    rcases this with rfl | rfl
    · refine ⟨_, rfl, ?_⟩
      have := hok (.cell x) 45 (by decide) hx (by simp [Tm.parts])
      simp only [St.d, Bd.ds_app, Bd.ds, Tm.d] at this ⊢
      exact this
    · refine ⟨_, rfl, ?_⟩
      have := hok (.op 60 (.cell x) (.num (1 + v5))) 43 (by decide) ⟨by decide, hx, by omega, by omega⟩ (by simp [Tm.parts])
      simp only [St.d, Bd.ds_app, Bd.ds, Tm.d] at this ⊢
      exact this
theorem stat_step (p : BdP P N) (hfu : 64 < fu) {r d : Nat} (hd : d + r = 3) (hB : ∀ r', r = r' + 1 → BodyS N P fu k j l z r' (d + 1)) (hR : ∀ r', r = r' + 1 → RoundS N P fu k j l z r d) : StatS N P fu k j l z r d := by
  intro m v S Q hm hv hD hs hl q
  obtain ⟨m, rfl⟩ : ∃ m', m = m' + 1 := ⟨m - 1, by omega⟩
  refine has_run p.S rfl ?_
  show Ok (evSs fu (run fu P m) (run fu P m) _ N.bS [some (.ref k), some (.ref z.ks), some (.ref l), some (.int (d : Int)), none, none, none, none] S) _
  unfold BdN.bS
  refine ok_cons ?_
  unfold BdN.e0
  refine ok_setE ?_
  refine drM p hfu (by omega) rfl hD (by decide) (by decide) fun form S1 f0 f1 hD1 hF1 => ?_
  have hs1 := hs.fr hF1
  have hl1 := hl.fr hF1 hs.lk.1 hs.lk.2
  have hF1' := hF1.fr3 (l := l)
  rw [al_d]
  have hkr : idxW (.d (.ref z.ks)) (.str [114, 111, 119, 115]) S1 = some (.ref z.pr) := hs1.kr
  have hkd : idxW (.d (.ref z.ks)) (.str [100, 101, 102, 115]) S1 = some (.ref z.pd) := hs1.kd
  have hlr := len_ref hs1.er
  have hld := len_ref hs1.ed
  have cst : ∀ (e : Nat) (S : Sto), Dl k j S → Ok (evE (run fu P m) (run fu P m) P.T.ini (.con (.int (e : Int))) [] S) fun w S' => w = .d (.int (e : Int)) ∧ Dl k j S' ∧ Fr k j S S' := fun e S h => by
    simp only [tst, evE, evWs, evDs, evO, evC, evI, Ok_bind, Ok_ok, Ok_al, al_d, al_o, bind_ok, al_ok_d, al_ok_o, opt_some, testD_bl, List.getElem?_cons_zero, List.getElem?_cons_succ, List.set_cons_zero, List.set_cons_succ, Option.map_some, cmpW, ordW, bltW, binW, intW, addW, evS, Tg.put, if_true, Bool.false_eq_true, if_false]; exact ⟨trivial, h, Fr.refl⟩
  -- set
  have fS : ∀ (x5 x6 : Option D), Ok (evSs fu (run fu P m) (run fu P m) P.T.ini (.cons N.e11 (.cons N.e12 .nil)) [some (.ref k), some (.ref z.ks), some (.ref l), some (.int (d : Int)), some (.int form), x5, x6, none] S1) fun o S => match o with
      | .nx _ => Q (.d .non) S
      | .rt w => Q w S
      | _ => False := by
    intro x5 x6
    refine ok_cons ?_
    unfold BdN.e11
    refine ok_setE ?_
    refine pickM p hfu (by omega) rfl rfl hs1.kc hs1.ec hs1.nk.2.1 hs1.nj.2.1 hs1.hc.1 hs1.hc.2.1 hD1 fun x S2 hx hD2 hF2 => ?_
    have hs2 := hs1.fr hF2
    rw [al_d]
    refine ok_one ?_
    unfold BdN.e12
    refine ok_retE ?_
    refine ok_tupE ?_
    refine ok_dcons ?_
    simp only [tst, evE, evWs, evDs, evO, evC, evI, Ok_bind, Ok_ok, Ok_al, al_d, al_o, bind_ok, al_ok_d, al_ok_o, opt_some, testD_bl, List.getElem?_cons_zero, List.getElem?_cons_succ, List.set_cons_zero, List.set_cons_succ, Option.map_some, cmpW, ordW, bltW, binW, intW, addW, evS, Tg.put, if_true, Bool.false_eq_true, if_false]
    refine termE p hfu (by omega) rfl rfl ?_ hs2 fun t S3 ht htp hD3 hF3 => ?_
    · refine ok_idxE ?_
      refine ok_lstE ?_
      simp only [tst, evE, evWs, evDs, evO, evC, evI, Ok_bind, Ok_ok, Ok_al, al_d, al_o, bind_ok, al_ok_d, al_ok_o, opt_some, testD_bl, List.getElem?_cons_zero, List.getElem?_cons_succ, List.set_cons_zero, List.set_cons_succ, Option.map_some, cmpW, ordW, bltW, binW, intW, addW, evS, Tg.put, if_true, Bool.false_eq_true, if_false]
      refine ⟨by simp, ?_⟩
      refine drM p hfu (by omega) rfl hD2 (by decide) (by decide) fun v6 S6 a6 b6 hD6 hF6 => ?_
      rw [al_d]
      have : v6 = 0 ∨ v6 = 1 ∨ v6 = 2 := by omega
      rcases this with rfl | rfl | rfl
      · exact ⟨_, rfl, 3, rfl, by decide, hD6, hF6⟩
      · exact ⟨_, rfl, 9, rfl, by decide, hD6, hF6⟩
      · exact ⟨_, rfl, 20, rfl, by decide, hD6, hF6⟩
    · simp only [tst, evE, evWs, evDs, evO, evC, evI, Ok_bind, Ok_ok, Ok_al, al_d, al_o, bind_ok, al_ok_d, al_ok_o, opt_some, testD_bl, List.getElem?_cons_zero, List.getElem?_cons_succ, List.set_cons_zero, List.set_cons_succ, Option.map_some, cmpW, ordW, bltW, binW, intW, addW, evS, Tg.put, if_true, Bool.false_eq_true, if_false]
      have hF13 := (hF1.trans hF2).trans hF3
      exact ⟨by simp, q (.set x t) S3 v ⟨hx, ht, htp⟩ (by simp [St.nest]) (by omega) (by simp only [St.cost]; omega) (hl.fr hF13 hs.lk.1 hs.lk.2) hD3 hF13.fr3⟩
  -- put
  have fP : ∀ (x5 : Option D), Ok (evSs fu (run fu P m) (run fu P m) P.T.ini (.cons N.e8 (.cons N.e11 (.cons N.e12 .nil))) [some (.ref k), some (.ref z.ks), some (.ref l), some (.int (d : Int)), some (.int form), x5, none, none] S1) fun o S => match o with
      | .nx _ => Q (.d .non) S
      | .rt w => Q w S
      | _ => False := by
    intro x5
    refine ok_cons ?_
    simp only [BdN.e8, BdN.lenK, tst, evE, evWs, evDs, evO, evC, evI, Ok_bind, Ok_ok, Ok_al, al_d, al_o, bind_ok, al_ok_d, al_ok_o, opt_some, testD_bl, List.getElem?_cons_zero, List.getElem?_cons_succ, List.set_cons_zero, List.set_cons_succ, Option.map_some, cmpW, ordW, bltW, binW, intW, addW, evS, Tg.put, if_true, Bool.false_eq_true, if_false]
    rw [eqW_scal rfl]
    simp only [tst, evE, evWs, evDs, evO, evC, evI, Ok_bind, Ok_ok, Ok_al, al_d, al_o, bind_ok, al_ok_d, al_ok_o, opt_some, testD_bl, List.getElem?_cons_zero, List.getElem?_cons_succ, List.set_cons_zero, List.set_cons_succ, Option.map_some, cmpW, ordW, bltW, binW, intW, addW, evS, Tg.put, if_true, Bool.false_eq_true, if_false]
    by_cases h6 : D.int form = D.int 6
    · simp only [decide_eq_true h6, tst, evE, evWs, evDs, evO, evC, evI, Ok_bind, Ok_ok, Ok_al, al_d, al_o, bind_ok, al_ok_d, al_ok_o, opt_some, testD_bl, List.getElem?_cons_zero, List.getElem?_cons_succ, List.set_cons_zero, List.set_cons_succ, Option.map_some, cmpW, ordW, bltW, binW, intW, addW, evS, Tg.put, if_true, Bool.false_eq_true, if_false, hkr, hlr, List.length_map]
      by_cases h0 : 0 < z.rs.length
      · simp only [show decide ((0 : Int) < ((z.rs.length : Nat) : Int)) = true from decide_eq_true (by omega), tst, evE, evWs, evDs, evO, evC, evI, Ok_bind, Ok_ok, Ok_al, al_d, al_o, bind_ok, al_ok_d, al_ok_o, opt_some, testD_bl, List.getElem?_cons_zero, List.getElem?_cons_succ, List.set_cons_zero, List.set_cons_succ, Option.map_some, cmpW, ordW, bltW, binW, intW, addW, evS, Tg.put, if_true, Bool.false_eq_true, if_false]
        refine ok_cons ?_
        unfold BdN.e9
        refine ok_setE ?_
        refine pickM p hfu (by omega) rfl rfl hkr hs1.er hs1.nk.2.2.1 hs1.nj.2.2.1 h0 hs1.hc.2.2.1 hD1 fun x S2 hx hD2 hF2 => ?_
        have hs2 := hs1.fr hF2
        rw [al_d]
        refine ok_one ?_
        unfold BdN.e10
        refine ok_retE ?_
        refine ok_tupE ?_
        refine ok_dcons ?_
        simp only [tst, evE, evWs, evDs, evO, evC, evI, Ok_bind, Ok_ok, Ok_al, al_d, al_o, bind_ok, al_ok_d, al_ok_o, opt_some, testD_bl, List.getElem?_cons_zero, List.getElem?_cons_succ, List.set_cons_zero, List.set_cons_succ, Option.map_some, cmpW, ordW, bltW, binW, intW, addW, evS, Tg.put, if_true, Bool.false_eq_true, if_false]
        refine termE p hfu (by omega) rfl rfl (by simp only [tst, evE, evWs, evDs, evO, evC, evI, Ok_bind, Ok_ok, Ok_al, al_d, al_o, bind_ok, al_ok_d, al_ok_o, opt_some, testD_bl, List.getElem?_cons_zero, List.getElem?_cons_succ, List.set_cons_zero, List.set_cons_succ, Option.map_some, cmpW, ordW, bltW, binW, intW, addW, evS, Tg.put, if_true, Bool.false_eq_true, if_false]; exact ⟨3, rfl, by decide, hD2, Fr.refl⟩) hs2 fun t S3 ht htp hD3 hF3 => ?_
        have hs3 := hs2.fr hF3
        simp only [tst, evE, evWs, evDs, evO, evC, evI, Ok_bind, Ok_ok, Ok_al, al_d, al_o, bind_ok, al_ok_d, al_ok_o, opt_some, testD_bl, List.getElem?_cons_zero, List.getElem?_cons_succ, List.set_cons_zero, List.set_cons_succ, Option.map_some, cmpW, ordW, bltW, binW, intW, addW, evS, Tg.put, if_true, Bool.false_eq_true, if_false]
        refine termE p hfu (by omega) rfl rfl (by simp only [tst, evE, evWs, evDs, evO, evC, evI, Ok_bind, Ok_ok, Ok_al, al_d, al_o, bind_ok, al_ok_d, al_ok_o, opt_some, testD_bl, List.getElem?_cons_zero, List.getElem?_cons_succ, List.set_cons_zero, List.set_cons_succ, Option.map_some, cmpW, ordW, bltW, binW, intW, addW, evS, Tg.put, if_true, Bool.false_eq_true, if_false]; exact ⟨7, rfl, by decide, hD3, Fr.refl⟩) hs3 fun u S4 hu hup hD4 hF4 => ?_
        simp only [tst, evE, evWs, evDs, evO, evC, evI, Ok_bind, Ok_ok, Ok_al, al_d, al_o, bind_ok, al_ok_d, al_ok_o, opt_some, testD_bl, List.getElem?_cons_zero, List.getElem?_cons_succ, List.set_cons_zero, List.set_cons_succ, Option.map_some, cmpW, ordW, bltW, binW, intW, addW, evS, Tg.put, if_true, Bool.false_eq_true, if_false]
        have hF14 := ((hF1.trans hF2).trans hF3).trans hF4
        exact ⟨by simp, q (.put x t u) S4 v ⟨hx, ⟨ht, htp⟩, hu, hup⟩ (by simp [St.nest]) (by omega) (by simp only [St.cost]; omega) (hl.fr hF14 hs.lk.1 hs.lk.2) hD4 hF14.fr3⟩
      · simp only [show decide ((0 : Int) < ((z.rs.length : Nat) : Int)) = false from decide_eq_false (by omega), tst, evE, evWs, evDs, evO, evC, evI, Ok_bind, Ok_ok, Ok_al, al_d, al_o, bind_ok, al_ok_d, al_ok_o, opt_some, testD_bl, List.getElem?_cons_zero, List.getElem?_cons_succ, List.set_cons_zero, List.set_cons_succ, Option.map_some, cmpW, ordW, bltW, binW, intW, addW, evS, Tg.put, if_true, Bool.false_eq_true, if_false]
        refine ok_nil ?_
        exact fS _ _
    · simp only [decide_eq_false h6, tst, evE, evWs, evDs, evO, evC, evI, Ok_bind, Ok_ok, Ok_al, al_d, al_o, bind_ok, al_ok_d, al_ok_o, opt_some, testD_bl, List.getElem?_cons_zero, List.getElem?_cons_succ, List.set_cons_zero, List.set_cons_succ, Option.map_some, cmpW, ordW, bltW, binW, intW, addW, evS, Tg.put, if_true, Bool.false_eq_true, if_false]
      refine ok_nil ?_
      exact fS _ _
  -- call
  have fC : ∀ (x5 : Option D), Ok (evSs fu (run fu P m) (run fu P m) P.T.ini (.cons N.e6 (.cons N.e8 (.cons N.e11 (.cons N.e12 .nil)))) [some (.ref k), some (.ref z.ks), some (.ref l), some (.int (d : Int)), some (.int form), x5, none, none] S1) fun o S => match o with
      | .nx _ => Q (.d .non) S
      | .rt w => Q w S
      | _ => False := by
    intro x5
    refine ok_cons ?_
    simp only [BdN.e6, BdN.lenK, tst, evE, evWs, evDs, evO, evC, evI, Ok_bind, Ok_ok, Ok_al, al_d, al_o, bind_ok, al_ok_d, al_ok_o, opt_some, testD_bl, List.getElem?_cons_zero, List.getElem?_cons_succ, List.set_cons_zero, List.set_cons_succ, Option.map_some, cmpW, ordW, bltW, binW, intW, addW, evS, Tg.put, if_true, Bool.false_eq_true, if_false]
    by_cases h6 : form < 6
    · simp only [decide_eq_true h6, tst, evE, evWs, evDs, evO, evC, evI, Ok_bind, Ok_ok, Ok_al, al_d, al_o, bind_ok, al_ok_d, al_ok_o, opt_some, testD_bl, List.getElem?_cons_zero, List.getElem?_cons_succ, List.set_cons_zero, List.set_cons_succ, Option.map_some, cmpW, ordW, bltW, binW, intW, addW, evS, Tg.put, if_true, Bool.false_eq_true, if_false, hkd, hld, List.length_map]
      by_cases h0 : 0 < z.fs.length
      · simp only [show decide ((0 : Int) < ((z.fs.length : Nat) : Int)) = true from decide_eq_true (by omega), tst, evE, evWs, evDs, evO, evC, evI, Ok_bind, Ok_ok, Ok_al, al_d, al_o, bind_ok, al_ok_d, al_ok_o, opt_some, testD_bl, List.getElem?_cons_zero, List.getElem?_cons_succ, List.set_cons_zero, List.set_cons_succ, Option.map_some, cmpW, ordW, bltW, binW, intW, addW, evS, Tg.put, if_true, Bool.false_eq_true, if_false]
        refine ok_one ?_
        unfold BdN.e7
        refine ok_retE ?_
        refine ok_tupE ?_
        refine ok_dcons ?_
        simp only [tst, evE, evWs, evDs, evO, evC, evI, Ok_bind, Ok_ok, Ok_al, al_d, al_o, bind_ok, al_ok_d, al_ok_o, opt_some, testD_bl, List.getElem?_cons_zero, List.getElem?_cons_succ, List.set_cons_zero, List.set_cons_succ, Option.map_some, cmpW, ordW, bltW, binW, intW, addW, evS, Tg.put, if_true, Bool.false_eq_true, if_false]
        refine pickM p hfu (by omega) rfl rfl hkd hs1.ed hs1.nk.2.2.2 hs1.nj.2.2.2 h0 hs1.hc.2.2.2 hD1 fun x S2 hx hD2 hF2 => ?_
        simp only [tst, evE, evWs, evDs, evO, evC, evI, Ok_bind, Ok_ok, Ok_al, al_d, al_o, bind_ok, al_ok_d, al_ok_o, opt_some, testD_bl, List.getElem?_cons_zero, List.getElem?_cons_succ, List.set_cons_zero, List.set_cons_succ, Option.map_some, cmpW, ordW, bltW, binW, intW, addW, evS, Tg.put, if_true, Bool.false_eq_true, if_false]
        have hF12 := hF1.trans hF2
        exact ⟨by simp, q (.call x) S2 v hx (by simp [St.nest]) (by omega) (by simp only [St.cost]; omega) (hl.fr hF12 hs.lk.1 hs.lk.2) hD2 hF12.fr3⟩
      · simp only [show decide ((0 : Int) < ((z.fs.length : Nat) : Int)) = false from decide_eq_false (by omega), tst, evE, evWs, evDs, evO, evC, evI, Ok_bind, Ok_ok, Ok_al, al_d, al_o, bind_ok, al_ok_d, al_ok_o, opt_some, testD_bl, List.getElem?_cons_zero, List.getElem?_cons_succ, List.set_cons_zero, List.set_cons_succ, Option.map_some, cmpW, ordW, bltW, binW, intW, addW, evS, Tg.put, if_true, Bool.false_eq_true, if_false]
        refine ok_nil ?_
        exact fP _
    · simp only [decide_eq_false h6, tst, evE, evWs, evDs, evO, evC, evI, Ok_bind, Ok_ok, Ok_al, al_d, al_o, bind_ok, al_ok_d, al_ok_o, opt_some, testD_bl, List.getElem?_cons_zero, List.getElem?_cons_succ, List.set_cons_zero, List.set_cons_succ, Option.map_some, cmpW, ordW, bltW, binW, intW, addW, evS, Tg.put, if_true, Bool.false_eq_true, if_false]
      refine ok_nil ?_
      exact fP _
  -- a round
  have fR : ∀ (x5 : Option D), Ok (evSs fu (run fu P m) (run fu P m) P.T.ini (.cons N.e4 (.cons N.e6 (.cons N.e8 (.cons N.e11 (.cons N.e12 .nil))))) [some (.ref k), some (.ref z.ks), some (.ref l), some (.int (d : Int)), some (.int form), x5, none, none] S1) fun o S => match o with
      | .nx _ => Q (.d .non) S
      | .rt w => Q w S
      | _ => False := by
    intro x5
    refine ok_cons ?_
    simp only [BdN.e4, tst, evE, evWs, evDs, evO, evC, evI, Ok_bind, Ok_ok, Ok_al, al_d, al_o, bind_ok, al_ok_d, al_ok_o, opt_some, testD_bl, List.getElem?_cons_zero, List.getElem?_cons_succ, List.set_cons_zero, List.set_cons_succ, Option.map_some, cmpW, ordW, bltW, binW, intW, addW, evS, Tg.put, if_true, Bool.false_eq_true, if_false]
    by_cases h3 : form < 3
    · simp only [decide_eq_true h3, tst, evE, evWs, evDs, evO, evC, evI, Ok_bind, Ok_ok, Ok_al, al_d, al_o, bind_ok, al_ok_d, al_ok_o, opt_some, testD_bl, List.getElem?_cons_zero, List.getElem?_cons_succ, List.set_cons_zero, List.set_cons_succ, Option.map_some, cmpW, ordW, bltW, binW, intW, addW, evS, Tg.put, if_true, Bool.false_eq_true, if_false]
      cases r with
      | zero =>
        simp only [show decide ((d : Int) < 3) = false from decide_eq_false (by omega), tst, evE, evWs, evDs, evO, evC, evI, Ok_bind, Ok_ok, Ok_al, al_d, al_o, bind_ok, al_ok_d, al_ok_o, opt_some, testD_bl, List.getElem?_cons_zero, List.getElem?_cons_succ, List.set_cons_zero, List.set_cons_succ, Option.map_some, cmpW, ordW, bltW, binW, intW, addW, evS, Tg.put, if_true, Bool.false_eq_true, if_false]
        refine ok_nil ?_
        exact fC _
      | succ r' =>
        simp only [show decide ((d : Int) < 3) = true from decide_eq_true (by omega), tst, evE, evWs, evDs, evO, evC, evI, Ok_bind, Ok_ok, Ok_al, al_d, al_o, bind_ok, al_ok_d, al_ok_o, opt_some, testD_bl, List.getElem?_cons_zero, List.getElem?_cons_succ, List.set_cons_zero, List.set_cons_succ, Option.map_some, cmpW, ordW, bltW, binW, intW, addW, evS, Tg.put, if_true, Bool.false_eq_true, if_false]
        refine ok_one ?_
        unfold BdN.e5
        refine ok_retE ?_
        simp only [tst, evE, evWs, evDs, evO, evC, evI, Ok_bind, Ok_ok, Ok_al, al_d, al_o, bind_ok, al_ok_d, al_ok_o, opt_some, testD_bl, List.getElem?_cons_zero, List.getElem?_cons_succ, List.set_cons_zero, List.set_cons_succ, Option.map_some, cmpW, ordW, bltW, binW, intW, addW, evS, Tg.put, if_true, Bool.false_eq_true, if_false]
        refine hR r' rfl m v S1 _ (by omega) hv hD1 hs1 hl1 fun s S' v' a b c e f g h' => ?_
        exact q s S' v' a b c e f g (hF1'.trans h')
    · simp only [decide_eq_false h3, tst, evE, evWs, evDs, evO, evC, evI, Ok_bind, Ok_ok, Ok_al, al_d, al_o, bind_ok, al_ok_d, al_ok_o, opt_some, testD_bl, List.getElem?_cons_zero, List.getElem?_cons_succ, List.set_cons_zero, List.set_cons_succ, Option.map_some, cmpW, ordW, bltW, binW, intW, addW, evS, Tg.put, if_true, Bool.false_eq_true, if_false]
      refine ok_nil ?_
      exact fC _
  refine ok_cons ?_
  simp only [BdN.e1, tst, evE, evWs, evDs, evO, evC, evI, Ok_bind, Ok_ok, Ok_al, al_d, al_o, bind_ok, al_ok_d, al_ok_o, opt_some, testD_bl, List.getElem?_cons_zero, List.getElem?_cons_succ, List.set_cons_zero, List.set_cons_succ, Option.map_some, cmpW, ordW, bltW, binW, intW, addW, evS, Tg.put, if_true, Bool.false_eq_true, if_false]
  rw [eqW_scal rfl]
  simp only [tst, evE, evWs, evDs, evO, evC, evI, Ok_bind, Ok_ok, Ok_al, al_d, al_o, bind_ok, al_ok_d, al_ok_o, opt_some, testD_bl, List.getElem?_cons_zero, List.getElem?_cons_succ, List.set_cons_zero, List.set_cons_succ, Option.map_some, cmpW, ordW, bltW, binW, intW, addW, evS, Tg.put, if_true, Bool.false_eq_true, if_false]
  by_cases h0 : D.int form = D.int 0
  · simp only [decide_eq_true h0, tst, evE, evWs, evDs, evO, evC, evI, Ok_bind, Ok_ok, Ok_al, al_d, al_o, bind_ok, al_ok_d, al_ok_o, opt_some, testD_bl, List.getElem?_cons_zero, List.getElem?_cons_succ, List.set_cons_zero, List.set_cons_succ, Option.map_some, cmpW, ordW, bltW, binW, intW, addW, evS, Tg.put, if_true, Bool.false_eq_true, if_false]
    cases r with
    | zero =>
      simp only [show decide ((d : Int) < 3) = false from decide_eq_false (by omega), tst, evE, evWs, evDs, evO, evC, evI, Ok_bind, Ok_ok, Ok_al, al_d, al_o, bind_ok, al_ok_d, al_ok_o, opt_some, testD_bl, List.getElem?_cons_zero, List.getElem?_cons_succ, List.set_cons_zero, List.set_cons_succ, Option.map_some, cmpW, ordW, bltW, binW, intW, addW, evS, Tg.put, if_true, Bool.false_eq_true, if_false]
      refine ok_nil ?_
      exact fR _
    | succ r' =>
      simp only [show decide ((d : Int) < 3) = true from decide_eq_true (by omega), tst, evE, evWs, evDs, evO, evC, evI, Ok_bind, Ok_ok, Ok_al, al_d, al_o, bind_ok, al_ok_d, al_ok_o, opt_some, testD_bl, List.getElem?_cons_zero, List.getElem?_cons_succ, List.set_cons_zero, List.set_cons_succ, Option.map_some, cmpW, ordW, bltW, binW, intW, addW, evS, Tg.put, if_true, Bool.false_eq_true, if_false]
      refine ok_cons ?_
      unfold BdN.e2 BdN.deeper
      simp only [tst, evE, evWs, evDs, evO, evC, evI, Ok_bind, Ok_ok, Ok_al, al_d, al_o, bind_ok, al_ok_d, al_ok_o, opt_some, testD_bl, List.getElem?_cons_zero, List.getElem?_cons_succ, List.set_cons_zero, List.set_cons_succ, Option.map_some, cmpW, ordW, bltW, binW, intW, addW, evS, Tg.put, if_true, Bool.false_eq_true, if_false]
      refine hB r' rfl m v S1 _ (by omega) (by omega) hD1 hs1 hl1 fun b S2 v2 hb hbn hbl _ hv2 hv2' hl2 hD2 hF2 => ?_
      have hs2 := hs1.fr3 hF2
      simp only [tst, evE, evWs, evDs, evO, evC, evI, Ok_bind, Ok_ok, Ok_al, al_d, al_o, bind_ok, al_ok_d, al_ok_o, opt_some, testD_bl, List.getElem?_cons_zero, List.getElem?_cons_succ, List.set_cons_zero, List.set_cons_succ, Option.map_some, cmpW, ordW, bltW, binW, intW, addW, evS, Tg.put, if_true, Bool.false_eq_true, if_false]
      refine ok_one ?_
      unfold BdN.e3 BdN.deeper
      refine ok_retE ?_
      refine ok_tupE ?_
      refine ok_dcons ?_
      simp only [tst, evE, evWs, evDs, evO, evC, evI, Ok_bind, Ok_ok, Ok_al, al_d, al_o, bind_ok, al_ok_d, al_ok_o, opt_some, testD_bl, List.getElem?_cons_zero, List.getElem?_cons_succ, List.set_cons_zero, List.set_cons_succ, Option.map_some, cmpW, ordW, bltW, binW, intW, addW, evS, Tg.put, if_true, Bool.false_eq_true, if_false]
      refine termE p hfu (by omega) rfl rfl (by simp only [tst, evE, evWs, evDs, evO, evC, evI, Ok_bind, Ok_ok, Ok_al, al_d, al_o, bind_ok, al_ok_d, al_ok_o, opt_some, testD_bl, List.getElem?_cons_zero, List.getElem?_cons_succ, List.set_cons_zero, List.set_cons_succ, Option.map_some, cmpW, ordW, bltW, binW, intW, addW, evS, Tg.put, if_true, Bool.false_eq_true, if_false]; exact ⟨5, rfl, by decide, hD2, Fr.refl⟩) hs2 fun t S3 ht htp hD3 hF3 => ?_
      have hs3 := hs2.fr hF3
      have hl3 := hl2.fr hF3 hs.lk.1 hs.lk.2
      simp only [tst, evE, evWs, evDs, evO, evC, evI, Ok_bind, Ok_ok, Ok_al, al_d, al_o, bind_ok, al_ok_d, al_ok_o, opt_some, testD_bl, List.getElem?_cons_zero, List.getElem?_cons_succ, List.set_cons_zero, List.set_cons_succ, Option.map_some, cmpW, ordW, bltW, binW, intW, addW, evS, Tg.put, if_true, Bool.false_eq_true, if_false]
      refine hB r' rfl m v2 S3 _ (by omega) hv2 hD3 hs3 hl3 fun c S4 v4 hc hcn hcl _ hv4 hv4' hl4 hD4 hF4 => ?_
      simp only [tst, evE, evWs, evDs, evO, evC, evI, Ok_bind, Ok_ok, Ok_al, al_d, al_o, bind_ok, al_ok_d, al_ok_o, opt_some, testD_bl, List.getElem?_cons_zero, List.getElem?_cons_succ, List.set_cons_zero, List.set_cons_succ, Option.map_some, cmpW, ordW, bltW, binW, intW, addW, evS, Tg.put, if_true, Bool.false_eq_true, if_false]
      exact ⟨by simp, q (.ife t b c) S4 v4 ⟨⟨ht, htp⟩, hb, hc⟩ (by simp only [St.nest]; omega) hv4 (by simp only [St.cost]; omega) hl4 hD4 (((hF1'.trans hF2).trans hF3.fr3).trans hF4)⟩
  · simp only [decide_eq_false h0, tst, evE, evWs, evDs, evO, evC, evI, Ok_bind, Ok_ok, Ok_al, al_d, al_o, bind_ok, al_ok_d, al_ok_o, opt_some, testD_bl, List.getElem?_cons_zero, List.getElem?_cons_succ, List.set_cons_zero, List.set_cons_succ, Option.map_some, cmpW, ordW, bltW, binW, intW, addW, evS, Tg.put, if_true, Bool.false_eq_true, if_false]
    refine ok_nil ?_
    exact fR _
theorem two_ok {cb ci : Cb} {ini : Nat → Option Nat} {ρ : Env} {S : Sto} {a b : Int} : evE cb ci ini (two a b) ρ S = .ok (.o (.lst [.int a, .int b])) S := by
  have l2 : ([.int a, .int b] : List D).length ≤ LINE := by show 0 + 1 + 1 ≤ LINE; decide
  simp only [two, evE, evDs, bind_ok, al_ok_d, l2, if_true]
theorem Fr3.set_new {k j l p : Nat} {S S' : Sto} {o : O} (h : Fr3 k j l S S') (hp : S.length ≤ p) : Fr3 k j l S (S'.set p o) :=
  ⟨by rw [List.length_set]; exact h.1, fun i hi a b c => by rw [List.getElem?_set_ne (by omega)]; exact h.2 i hi a b c⟩
theorem body_step (p : BdP P N) (hfu : 64 < fu) {r d : Nat} (hd : d + r = 3) (hS : StatS N P fu k j l z r d) : BodyS N P fu k j l z r d := by
  intro m v S Q hm hv hD hs hl q
  obtain ⟨m, rfl⟩ : ∃ m', m = m' + 1 := ⟨m - 1, by omega⟩
  refine has_run p.B rfl ?_
  show Ok (evSs fu (run fu P m) (run fu P m) _ N.bB [some (.ref k), some (.ref z.ks), some (.ref l), some (.int (d : Int)), none, none] S) _
  unfold BdN.bB
  have hlS : l < S.length := (List.getElem?_eq_some_iff.mp hl).1
  have hkj := hD.lt
  refine ok_cons ?_
  unfold BdN.h0
  refine ok_setE ?_
  refine ok_lstE ?_
  simp only [tst, evE, evWs, evDs, evO, evC, evI, Ok_bind, Ok_ok, Ok_al, al_d, al_o, bind_ok, al_ok_d, al_ok_o, opt_some, testD_bl, List.getElem?_cons_zero, List.getElem?_cons_succ, List.set_cons_zero, List.set_cons_succ, Option.map_some, cmpW, ordW, bltW, binW, intW, addW, evS, Tg.put, if_true, Bool.false_eq_true, if_false]
  refine ⟨by simp, ?_⟩
  refine ok_cons ?_
  unfold BdN.h1
  rw [evS, Ok_bind]
  refine ok_rng1 ?_
  refine ok_callE ?_
  refine ok_dcons ?_
  simp only [List.getElem?_cons_zero, evE, Ok_ok, al_d]
  refine ok_dcons ?_
  refine ok_idxE ?_
  refine ok_idxE ?_
  refine ok_lstE ?_
  refine ok_dcons ?_
  rw [two_ok, Ok_ok, al_o]
  refine ok_dcons ?_
  rw [two_ok, Ok_ok, al_o]
  refine ok_dcons ?_
  rw [two_ok, Ok_ok, al_o]
  refine ok_dcons ?_
  rw [two_ok, Ok_ok, al_o]
  refine ok_dnil ?_
  refine ⟨by simp, ?_⟩
  have e0 : (S ++ [O.lst []])[S.length]? = some (.lst []) := app_at _ _
  have hF0 : Fr3 k j l S (S ++ [O.lst []]) := Fr3.app _
  have hL0 : (S ++ [O.lst []]).length = S.length + 1 := by simp
  have hl0 : Lf l v (S ++ [O.lst []]) := app_keep hl
  have hD0 := hD.app (O.lst [])
  generalize S ++ [O.lst []] = S0 at e0 hF0 hL0 hl0 hD0 ⊢
  have hF4 : Fr k j S0 (S0 ++ [O.lst [.int 5, .int 13]] ++ [O.lst [.int 4, .int 8]] ++ [O.lst [.int 3, .int 6]] ++ [O.lst [.int 3, .int 3]]) := (((Fr.app _).trans (Fr.app _)).trans (Fr.app _)).trans (Fr.app _)
  have hD4 := (((hD0.app (O.lst [.int 5, .int 13])).app (O.lst [.int 4, .int 8])).app (O.lst [.int 3, .int 6])).app (O.lst [.int 3, .int 3])
  obtain ⟨pq, a, b, hi, hq, hpq, ha0, ha1, hb0, hb1⟩ : ∃ (pq : Nat) (a b : Int), idxW (.o (.lst [.ref S0.length, .ref (S0 ++ [O.lst [.int 5, .int 13]]).length, .ref (S0 ++ [O.lst [.int 5, .int 13]] ++ [O.lst [.int 4, .int 8]]).length, .ref (S0 ++ [O.lst [.int 5, .int 13]] ++ [O.lst [.int 4, .int 8]] ++ [O.lst [.int 3, .int 6]]).length])) (.int (d : Int)) (S0 ++ [O.lst [.int 5, .int 13]] ++ [O.lst [.int 4, .int 8]] ++ [O.lst [.int 3, .int 6]] ++ [O.lst [.int 3, .int 3]]) = some (.ref pq) ∧ (S0 ++ [O.lst [.int 5, .int 13]] ++ [O.lst [.int 4, .int 8]] ++ [O.lst [.int 3, .int 6]] ++ [O.lst [.int 3, .int 3]])[pq]? = some (.lst [.int a, .int b]) ∧ S0.length ≤ pq ∧ 3 ≤ a ∧ a ≤ 13 ∧ 3 ≤ b ∧ b ≤ 13 := by
    have : d = 0 ∨ d = 1 ∨ d = 2 ∨ d = 3 := by omega
    rcases this with rfl | rfl | rfl | rfl
    · exact ⟨_, 5, 13, rfl, app_keep (app_keep (app_keep (app_at _ _))), by omega, by decide, by decide, by decide, by decide⟩
    · exact ⟨_, 4, 8, rfl, app_keep (app_keep (app_at _ _)), by simp, by decide, by decide, by decide, by decide⟩
    · exact ⟨_, 3, 6, rfl, app_keep (app_at _ _), by simp, by decide, by decide, by decide, by decide⟩
    · exact ⟨_, 3, 3, rfl, app_at _ _, by simp, by decide, by decide, by decide, by decide⟩
  simp only [List.getElem?_cons_zero, List.getElem?_cons_succ, List.set_cons_succ, List.set_cons_zero, Ok_ok, al_d]
  refine ⟨_, hi, ?_⟩
  generalize (S0 ++ [O.lst [.int 5, .int 13]] ++ [O.lst [.int 4, .int 8]] ++ [O.lst [.int 3, .int 6]] ++ [O.lst [.int 3, .int 3]] : Sto) = S4 at hq hF4 hD4 ⊢
  refine drM p hfu (by omega) rfl hD4 (by decide) (by decide) fun w S5 w0 w1 hD5 hF5 => ?_
  have hq5 := hF5.at_ hq (by omega) (by omega)
  rw [al_d]
  obtain ⟨c, hc, hc0, hc1⟩ : ∃ c : Int, idxW (.d (.ref pq)) (.int w) S5 = some (.int c) ∧ 3 ≤ c ∧ c ≤ 13 := by
    have : w = 0 ∨ w = 1 := by omega
    rcases this with rfl | rfl
    · exact ⟨a, idx_rn (i := 0) hq5 rfl, ha0, ha1⟩
    · exact ⟨b, idx_rn (i := 1) hq5 rfl, hb0, hb1⟩
  refine ⟨_, hc, ?_⟩
  refine ok_dnil ?_
  obtain ⟨m', rfl⟩ : ∃ m', m = m' + 1 := ⟨m - 1, by omega⟩
  refine bdr p.toTmP hfu hD5 (by omega) (by omega) fun u S6 u0 u1 hD6 hF6 => ?_
  refine ⟨u.toNat, by rw [Int.toNat_of_nonneg u0], by omega, ?_⟩
  have hF06 := (hF4.trans hF5).trans hF6
  have e6 := hF06.at_ e0 (by omega) (by omega)
  have hF6' := hF0.trans hF06.fr3
  have hl6 := hl0.fr hF06 hs.lk.1 hs.lk.2
  refine ok_for (fun it ρ S' => ∃ (b : Bd) (v' : Int) (x : Option D), ρ = [some (.ref k), some (.ref z.ks), some (.ref l), some (.int (d : Int)), some (.ref S.length), x] ∧ S'[S.length]? = some (.lst b.ds) ∧ b.ok z.cs z.rs z.fs ∧ b.nest ≤ r ∧ b.len + it.length ≤ 12 ∧ (b.len = 0 → v' = v) ∧ 0 ≤ v' ∧ v' + b.cost ≤ v ∧ Lf l v' S' ∧ Dl k j S' ∧ Fr3 k j l S S') (fun _ _ _ _ => rfl) ?_ ?_ _ _ _
    ⟨.nil, v, none, rfl, e6, trivial, by simp [Bd.nest], by rw [rng_len]; simp only [Bd.len]; omega, fun _ => rfl, hv, by simp [Bd.cost], hl6, hD6, hF6'⟩
  · rintro y it ρ S' ⟨b, v', x, rfl, e', hb, hbn, hbl, hz0, hv0, hvv, hl', hD', hF'⟩
    rw [List.length_cons] at hbl
    have hs' := hs.fr3 hF'
    unfold forF
    simp only [Tg.put, List.set_cons_succ, List.set_cons_zero]
    refine ok_one ?_
    have i0 : idxW (.d (.ref l)) (.int 0) S' = some (.int v') := idx_rn (i := 0) hl' rfl
    simp only [BdN.h2, BdN.left, tst, evE, evWs, evDs, evO, evC, evI, Ok_bind, Ok_ok, Ok_al, al_d, al_o, bind_ok, al_ok_d, al_ok_o, opt_some, testD_bl, List.getElem?_cons_zero, List.getElem?_cons_succ, List.set_cons_zero, List.set_cons_succ, Option.map_some, cmpW, ordW, bltW, binW, intW, addW, evS, Tg.put, if_true, Bool.false_eq_true, if_false, i0]
    by_cases h1 : (1 : Int) < v'
    · simp only [decide_eq_true h1, tst, evE, evWs, evDs, evO, evC, evI, Ok_bind, Ok_ok, Ok_al, al_d, al_o, bind_ok, al_ok_d, al_ok_o, opt_some, testD_bl, List.getElem?_cons_zero, List.getElem?_cons_succ, List.set_cons_zero, List.set_cons_succ, Option.map_some, cmpW, ordW, bltW, binW, intW, addW, evS, Tg.put, if_true, Bool.false_eq_true, if_false]
      refine ok_cons ?_
      refine less_ok rfl hl' ?_
      have e2 : (S'.set l (.lst [.int (v' - 1)]))[S.length]? = some (.lst b.ds) := by rw [List.getElem?_set_ne (by omega)]; exact e'
      have hF2 := hF'.trans (Fr3.set (k := k) (j := j) (S := S') (.lst [.int (v' - 1)]))
      have hs2 := hs.fr3 hF2
      have hD2 := hD'.set_ne (o := .lst [.int (v' - 1)]) hs.lk.1 hs.lk.2
      have hl2 : Lf l (v' - 1) (S'.set l (.lst [.int (v' - 1)])) := hl'.set
      generalize S'.set l (.lst [.int (v' - 1)]) = S2 at e2 hF2 hs2 hD2 hl2 ⊢
      refine ok_one ?_
      unfold BdN.h4
      rw [evS, Ok_bind, evE]
      simp only [tst, evE, evWs, evDs, evO, evC, evI, Ok_bind, Ok_ok, Ok_al, al_d, al_o, bind_ok, al_ok_d, al_ok_o, opt_some, testD_bl, List.getElem?_cons_zero, List.getElem?_cons_succ, List.set_cons_zero, List.set_cons_succ, Option.map_some, cmpW, ordW, bltW, binW, intW, addW, evS, Tg.put, if_true, Bool.false_eq_true, if_false, Bmt.kd, kd_ref e2, Bmt.keeps]
      refine hS (m' + 1) (v' - 1) S2 _ (by omega) (by omega) hD2 hs2 hl2 fun s S3 v3 hs3 hsn hv3 hv3' hl3 hD3 hF3 => ?_
      have e3 := hF3.at_ e2 (by omega) (by omega) (by omega)
      simp only [tst, evE, evWs, evDs, evO, evC, evI, Ok_bind, Ok_ok, Ok_al, al_d, al_o, bind_ok, al_ok_d, al_ok_o, opt_some, testD_bl, List.getElem?_cons_zero, List.getElem?_cons_succ, List.set_cons_zero, List.set_cons_succ, Option.map_some, cmpW, ordW, bltW, binW, intW, addW, evS, Tg.put, if_true, Bool.false_eq_true, if_false]
      rw [append_ref e3 (by rw [Bd.ds_len]; simp only [LINE]; omega)]
      simp only [tst, evE, evWs, evDs, evO, evC, evI, Ok_bind, Ok_ok, Ok_al, al_d, al_o, bind_ok, al_ok_d, al_ok_o, opt_some, testD_bl, List.getElem?_cons_zero, List.getElem?_cons_succ, List.set_cons_zero, List.set_cons_succ, Option.map_some, cmpW, ordW, bltW, binW, intW, addW, evS, Tg.put, if_true, Bool.false_eq_true, if_false]
      refine ⟨b.app (.one s), v3, _, rfl, ?_, Bd.ok_app.mpr ⟨hb, hs3, trivial⟩, ?_, ?_, fun e => ?_, hv3, ?_, ?_, hD3.set_ne (by omega) (by omega), (hF2.trans hF3).set_new (Nat.le_refl _)⟩
      · rw [set_at e3, Bd.ds_app]; rfl
      · simp only [Bd.nest_app, Bd.nest]; omega
      · simp only [Bd.len_app, Bd.len]; omega
      · simp only [Bd.len_app, Bd.len] at e; omega
      · simp only [Bd.cost_app, Bd.cost]; omega
      · show (S3.set S.length _)[l]? = _
        rw [List.getElem?_set_ne (by omega)]
        exact hl3
    · simp only [decide_eq_false h1, tst, evE, evWs, evDs, evO, evC, evI, Ok_bind, Ok_ok, Ok_al, al_d, al_o, bind_ok, al_ok_d, al_ok_o, opt_some, testD_bl, List.getElem?_cons_zero, List.getElem?_cons_succ, List.set_cons_zero, List.set_cons_succ, Option.map_some, cmpW, ordW, bltW, binW, intW, addW, evS, Tg.put, if_true, Bool.false_eq_true, if_false]
      refine ok_nil ?_
      exact ⟨b, v', _, rfl, e', hb, hbn, by omega, hz0, hv0, hvv, hl', hD', hF'⟩
  rintro ρ S' ⟨b, v', x, rfl, e', hb, hbn, hbl, hz0, hv0, hvv, hl', hD', hF'⟩
  refine ok_one ?_
  simp only [BdN.h5, tst, evE, evWs, evDs, evO, evC, evI, Ok_bind, Ok_ok, Ok_al, al_d, al_o, bind_ok, al_ok_d, al_ok_o, opt_some, testD_bl, List.getElem?_cons_zero, List.getElem?_cons_succ, List.set_cons_zero, List.set_cons_succ, Option.map_some, cmpW, ordW, bltW, binW, intW, addW, evS, Tg.put, if_true, Bool.false_eq_true, if_false, tupOf, lstOf, e']
  exact q b S' v' hb hbn (by simpa using hbl) hz0 hv0 hvv hl' hD' hF'
/-- all of them -/
theorem bld_ok (p : BdP P N) (hfu : 64 < fu) : ∀ (r d : Nat), d + r = 3 → BodyS N P fu k j l z r d ∧ StatS N P fu k j l z r d
  | 0, d, h => by
    have hS := stat_step (k := k) (j := j) (l := l) (z := z) p hfu h (fun r' e => absurd e (by omega)) (fun r' e => absurd e (by omega))
    exact ⟨body_step p hfu h hS, hS⟩
  | r + 1, d, h => by
    have ih := bld_ok p hfu r (d + 1) (by omega)
    have hB : ∀ r', r + 1 = r' + 1 → BodyS N P fu k j l z r' (d + 1) := fun r' e => (show r = r' by omega) ▸ ih.1
    have hS := stat_step (k := k) (j := j) (l := l) (z := z) p hfu h hB (fun r' e => round_step p hfu ih.1)
    exact ⟨body_step p hfu h hS, hS⟩
end
end PyI

set_option maxRecDepth 100000
set_option maxHeartbeats 2000000
/-! PyI: the laws' names. -/
namespace PyI
def abc : List Nat := [97, 98, 99, 100, 101, 102, 103, 104, 105, 106, 107, 108, 109, 110, 111, 112, 113, 114, 115, 116, 117, 118, 119, 120, 121, 122]
def kept6 : List (List Nat) := [[99, 101, 108, 108], [114, 111, 119], [100, 101, 102], [109, 97, 105, 110], [115, 101, 116], [112, 117, 116]]
def kept6' : List (List Nat) := [[119, 104, 105, 108, 101], [105, 102], [101, 108, 115, 101], [99, 97, 108, 108], [101, 110, 100], [97, 116]]
def keptL : List (List Nat) := kept6 ++ kept6'
def spareL : List (List Nat) := [[99, 101, 108, 108, 115], [100, 101], [109, 97, 105, 110, 115], [115, 101, 116, 120], [101, 110, 100, 115], [97, 116, 120], [105], [99, 97, 108, 108, 115]]
/-- a name -/
def Nm (s : List Nat) : Prop := 1 ≤ s.length ∧ s.length ≤ 6 ∧ (∀ c ∈ s, 97 ≤ c ∧ c ≤ 122) ∧ s ∉ keptL
theorem abc_at {v : Nat} (h : v < 26) : abc[v]? = some (97 + v) := by
  have : ∀ v, v < 26 → abc[v]? = some (97 + v) := by decide
  exact this v h
theorem abc_idx {v : Int} {S : Sto} (h0 : 0 ≤ v) (h1 : v < 26) : idxW (.d (.str abc)) (.int v) S = some (.str [97 + v.toNat]) := by
  show (if abc.length ≤ LINE then (atD abc v).map fun c => D.str [c] else none) = _
  rw [if_pos (by decide)]
  unfold atD
  rw [ixI_nat h0 (show v < ((abc.length : Nat) : Int) from h1)]
  show Option.map _ (abc[v.toNat]?) = _
  rw [abc_at (by omega)]
  rfl
/-- the name of number i -/
def nmX (core : List Nat) (at_ turn i : Nat) : List Nat := core.take at_ ++ ([97 + (turn + 7 * i) % 26] ++ core.drop at_) ++ if i % 5 / 4 = 1 then [122] else []
def nmY (x : List Nat) : List Nat := x ++ if keptL.contains x = true then [113] else []
theorem nmX_at {core : List Nat} {at_ turn i : Nat} (h : at_ ≤ core.length) : (nmX core at_ turn i)[at_]? = some (97 + (turn + 7 * i) % 26) := by
  have e : nmX core at_ turn i = core.take at_ ++ ((97 + (turn + 7 * i) % 26) :: (core.drop at_ ++ if i % 5 / 4 = 1 then [122] else [])) := by
    unfold nmX
    simp
  rw [e, List.getElem?_append_right (by rw [List.length_take]; omega), List.length_take, Nat.min_eq_left h, Nat.sub_self]
  rfl
theorem nmY_at {x : List Nat} {i c : Nat} (h : x[i]? = some c) : (nmY x)[i]? = some c := by
  unfold nmY
  rw [List.getElem?_append_left (List.getElem?_eq_some_iff.mp h).1]
  exact h
theorem nmX_len {core : List Nat} {at_ turn i : Nat} (h : at_ ≤ core.length) (hc : core.length ≤ 4) : 1 ≤ (nmX core at_ turn i).length ∧ (nmX core at_ turn i).length ≤ 6 := by
  unfold nmX
  simp only [List.length_append, List.length_take, List.length_drop, List.length_singleton]
  split <;> simp <;> omega
theorem nmX_mem {core : List Nat} {at_ turn i : Nat} (hc : ∀ c ∈ core, 97 ≤ c ∧ c ≤ 122) : ∀ c ∈ nmX core at_ turn i, 97 ≤ c ∧ c ≤ 122 := by
  intro c h
  unfold nmX at h
  rcases List.mem_append.mp h with h | h
  · rcases List.mem_append.mp h with h | h
    · exact hc c (List.mem_of_mem_take h)
    · rcases List.mem_append.mp h with h | h
      · rw [List.mem_singleton.mp h]; omega
      · exact hc c (List.mem_of_mem_drop h)
  · split at h
    · rw [List.mem_singleton.mp h]; omega
    · cases h
theorem kept_len : ∀ w ∈ keptL, w.length ≤ 5 ∧ w ++ [113] ∉ keptL := by decide
theorem nmY_nm {x : List Nat} (h : 1 ≤ x.length ∧ x.length ≤ 6) (hm : ∀ c ∈ x, 97 ≤ c ∧ c ≤ 122) : Nm (nmY x) := by
  unfold nmY
  by_cases e : keptL.contains x = true
  · rw [if_pos e]
    have hk := kept_len x (by simpa using e)
    refine ⟨by simp, by simp; omega, fun c hc => ?_, hk.2⟩
    rcases List.mem_append.mp hc with hc | hc
    · exact hm c hc
    · rw [List.mem_singleton.mp hc]; omega
  · rw [if_neg e, List.append_nil]
    exact ⟨h.1, h.2, hm, by simpa using e⟩
theorem spare_nm : ∀ s ∈ spareL, Nm s := by
  have : ∀ s ∈ spareL, 1 ≤ s.length ∧ s.length ≤ 6 ∧ (∀ c ∈ s, 97 ≤ c ∧ c ≤ 122) ∧ s ∉ keptL := by decide
  exact this
theorem nodup_set {α : Type} : ∀ {l : List α} {i : Nat} {a : α}, l.Nodup → a ∉ l → (l.set i a).Nodup
  | [], _, _, h, _ => h
  | x :: r, 0, a, h, ha => List.nodup_cons.mpr ⟨fun z => ha (List.mem_cons_of_mem _ z), (List.nodup_cons.mp h).2⟩
  | x :: r, i + 1, a, h, ha => by
    have ⟨h1, h2⟩ := List.nodup_cons.mp h
    refine List.nodup_cons.mpr ⟨fun z => ?_, nodup_set h2 fun z => ha (List.mem_cons_of_mem _ z)⟩
    rcases List.mem_or_eq_of_mem_set z with z | rfl
    · exact h1 z
    · exact ha List.mem_cons_self
theorem names_nodup {core : List Nat} {at_ turn : Nat} (h : at_ ≤ core.length) (ht : turn < 26) : (((List.range 24).map (nmX core at_ turn)).map nmY).Nodup := by
  rw [List.map_map]
  unfold List.Nodup
  rw [List.pairwise_map]
  refine List.Pairwise.imp_of_mem (R := (· < ·)) (fun {i j} hi hj hij e => ?_) List.pairwise_lt_range
  have hi := List.mem_range.mp hi
  have hj := List.mem_range.mp hj
  have e1 := nmY_at (nmX_at (turn := turn) (i := i) h)
  have e2 := nmY_at (nmX_at (turn := turn) (i := j) h)
  simp only [Function.comp] at e
  rw [e, e2] at e1
  have e3 := Option.some.inj e1
  omega
/-! ### the def -/
section
variable (N : BdN)
def BdN.n0 : Stm := .set (.nm 2) (.con (.str [97, 98, 99, 100, 101, 102, 103, 104, 105, 106, 107, 108, 109, 110, 111, 112, 113, 114, 115, 116, 117, 118, 119, 120, 121, 122]))
def BdN.n1 : Stm := .set (.nm 3) (.bmt .join (.con (.str [])) (.cons (.lc [4] (.nm 4) (.rng1 (N.dr 5)) .no (.idx (.var 2) (N.dr 26))) .nil))
def BdN.n2 : Stm := .set (.nm 5) (.call N.iD (.cons (.var 0) (.cons (.bin .add (.blt .len (.cons (.var 3) .nil)) (.con (.int 1))) .nil)))
def BdN.n3 : Stm := .set (.nm 6) (N.dr 26)
def BdN.n4 : Stm := .set (.nm 7) (.lst (.nil))
def BdN.n6 : Stm := .set (.nm 8) (.bin .add (.idx (.var 2) (.bin .mod (.bin .add (.var 6) (.bin .mul (.con (.int 7)) (.var 4))) (.con (.int 26)))) (.slc (.var 3) (.ya (.var 5)) .no))
def BdN.n7 : Stm := .expr (.bmt .append (.var 7) (.cons (.bin .add (.bin .add (.slc (.var 3) .no (.ya (.var 5))) (.var 8)) (.idx (.lst (.cons (.con (.str [])) (.cons (.con (.str [122])) .nil))) (.bin .fdiv (.bin .mod (.var 4) (.con (.int 5))) (.con (.int 4))))) .nil))
def BdN.n5 : Stm := .for (.nm 4) (.rng1 (.var 1)) (.cons BdN.n6 (.cons BdN.n7 .nil))
def BdN.n8 : Stm := .set (.nm 9) (.lst (.cons (.con (.str [99, 101, 108, 108, 115])) (.cons (.con (.str [100, 101])) (.cons (.con (.str [109, 97, 105, 110, 115])) (.cons (.con (.str [115, 101, 116, 120])) (.cons (.con (.str [101, 110, 100, 115])) (.cons (.con (.str [97, 116, 120])) (.cons (.con (.str [105])) (.cons (.con (.str [99, 97, 108, 108, 115])) .nil)))))))))
def BdN.k1 : Stm := .set (.nm 10) (.lst (.cons (.con (.str [99, 101, 108, 108])) (.cons (.con (.str [114, 111, 119])) (.cons (.con (.str [100, 101, 102])) (.cons (.con (.str [109, 97, 105, 110])) (.cons (.con (.str [115, 101, 116])) (.cons (.con (.str [112, 117, 116])) .nil)))))))
def BdN.k2 : Stm := .set (.nm 10) (.bin .add (.var 10) (.lst (.cons (.con (.str [119, 104, 105, 108, 101])) (.cons (.con (.str [105, 102])) (.cons (.con (.str [101, 108, 115, 101])) (.cons (.con (.str [99, 97, 108, 108])) (.cons (.con (.str [101, 110, 100])) (.cons (.con (.str [97, 116])) .nil))))))))
def BdN.kt : Stm := .set (.nm 10) (.tup (.cons (.con (.str [99, 101, 108, 108])) (.cons (.con (.str [114, 111, 119])) (.cons (.con (.str [100, 101, 102])) (.cons (.con (.str [109, 97, 105, 110])) (.cons (.con (.str [115, 101, 116])) (.cons (.con (.str [112, 117, 116])) (.cons (.con (.str [119, 104, 105, 108, 101])) (.cons (.con (.str [105, 102])) (.cons (.con (.str [101, 108, 115, 101])) (.cons (.con (.str [99, 97, 108, 108])) (.cons (.con (.str [101, 110, 100])) (.cons (.con (.str [97, 116])) .nil)))))))))))))
def BdN.n10 : Stm := .set (.nm 7) (.lc [11] (.nm 11) (.seq (.var 7)) .no (.bin .add (.var 11) (.bin .mul (.con (.str [113])) (.blt .int1 (.cons (.cmp .isin (.var 11) (.var 10)) .nil)))))
def BdN.n11 : Stm := .set (.nm 11) (.idx (.var 9) (N.dr 8))
def BdN.n13 : Stm := .ssub (.var 7) (.call N.iD (.cons (.var 0) (.cons (.var 1) .nil))) (.var 11)
def BdN.n12 : Stm := .ite (.band (.cmp .eq (N.dr 3) (.con (.int 1))) (.cmp .notin (.var 11) (.var 7))) (.cons N.n13 .nil) (.nil)
def BdN.n14 : Stm := .ret (.var 7)
def BdN.nZ : Sts := .cons BdN.n10 (.cons N.n11 (.cons N.n12 (.cons BdN.n14 .nil)))
def BdN.nA (r : Sts) : Sts := .cons BdN.n0 (.cons N.n1 (.cons N.n2 (.cons N.n3 (.cons BdN.n4 (.cons BdN.n5 (.cons BdN.n8 r))))))
/-- the words in a tuple -/
def BdN.bN1 : Sts := N.nA (.cons BdN.kt N.nZ)
/-- the words in two lists -/
def BdN.bN2 : Sts := N.nA (.cons BdN.k1 (.cons BdN.k2 N.nZ))
end
section
variable {N : BdN} {P : Pg} {k j fu n : Nat} {S : Sto}
theorem nam_pre (p : TmP P N) (hfu : 64 < fu) (hD : Dl k j S) {r : Sts} {Q : Out → Sto → Prop}
    (q : ∀ (core : List Nat) (at_ turn : Nat) (x4 x8 : Option D) (pf ps : Nat) (S' : Sto), (∀ c ∈ core, 97 ≤ c ∧ c ≤ 122) → core.length ≤ 4 → at_ ≤ core.length → turn < 26 → S.length ≤ pf → S.length ≤ ps → S'[pf]? = some (.lst (((List.range 24).map (nmX core at_ turn)).map D.str)) → S'[ps]? = some (.lst (spareL.map D.str)) → Dl k j S' → Fr k j S S' →
      Ok (evSs fu (run fu P (n + 1)) (run fu P (n + 1)) P.T.ini r [some (.ref k), some (.int 24), some (.str abc), some (.str core), x4, some (.int (at_ : Int)), some (.int (turn : Int)), some (.ref pf), x8, some (.ref ps), none, none] S') Q) :
    Ok (evSs fu (run fu P (n + 1)) (run fu P (n + 1)) P.T.ini (N.nA r) [some (.ref k), some (.int 24), none, none, none, none, none, none, none, none, none, none] S) Q := by
  unfold BdN.nA
  refine ok_cons ?_
  unfold BdN.n0
  refine ok_setE ?_
  simp only [tst, evE, evWs, evDs, evO, evC, evI, Ok_bind, Ok_ok, Ok_al, al_d, al_o, bind_ok, al_ok_d, al_ok_o, opt_some, testD_bl, List.getElem?_cons_zero, List.getElem?_cons_succ, List.set_cons_zero, List.set_cons_succ, Option.map_some, cmpW, ordW, bltW, binW, intW, addW, evS, Tg.put, if_true, Bool.false_eq_true, if_false]
  refine ok_cons ?_
  unfold BdN.n1
  refine ok_setE ?_
  rw [evE, Ok_bind, evE, Ok_ok]
  simp only [Bmt.kd, kdOk, Bmt.keeps, if_true, Bool.false_eq_true, if_false, Ok_bind, evWs]
  refine ok_lcE ?_
  refine ok_rng1 ?_
  refine bdrE p hfu rfl hD (by decide) (by decide) fun v S1 h0 h1 hD1 hF1 => ?_
  refine ⟨v.toNat, by rw [Int.toNat_of_nonneg h0], by omega, ?_⟩
  refine ok_lc (fun l acc S' => ∃ xs : List (List Nat), acc = xs.map D.str ∧ (∀ x ∈ xs, ∃ c, x = [c] ∧ 97 ≤ c ∧ c ≤ 122) ∧ xs.length + l.length = v.toNat ∧ Dl k j S' ∧ Fr k j S S') (fun _ _ _ _ => rfl) ?_ ?_ _ _ _ ⟨[], rfl, by simp, by simp [rng_len], hD1, hF1⟩
  · rintro x l acc S' ⟨xs, rfl, hx, hlen, hD', hF'⟩
    rw [List.length_cons] at hlen
    simp only [tst, evE, evWs, evDs, evO, evC, evI, Ok_bind, Ok_ok, Ok_al, al_d, al_o, bind_ok, al_ok_d, al_ok_o, opt_some, testD_bl, List.getElem?_cons_zero, List.getElem?_cons_succ, List.set_cons_zero, List.set_cons_succ, Option.map_some, cmpW, ordW, bltW, binW, intW, addW, evS, Tg.put, if_true, Bool.false_eq_true, if_false, Ok_nox, wipeE]
    refine bdrE p hfu rfl hD' (by decide) (by decide) fun v2 S2 g0 g1 hD2 hF2 => ?_
    simp only [tst, evE, evWs, evDs, evO, evC, evI, Ok_bind, Ok_ok, Ok_al, al_d, al_o, bind_ok, al_ok_d, al_ok_o, opt_some, testD_bl, List.getElem?_cons_zero, List.getElem?_cons_succ, List.set_cons_zero, List.set_cons_succ, Option.map_some, cmpW, ordW, bltW, binW, intW, addW, evS, Tg.put, if_true, Bool.false_eq_true, if_false]
    have hc := abc_idx (S := S2) g0 g1
    unfold abc at hc
    simp only [hc, tst, evE, evWs, evDs, evO, evC, evI, Ok_bind, Ok_ok, Ok_al, al_d, al_o, bind_ok, al_ok_d, al_ok_o, opt_some, testD_bl, List.getElem?_cons_zero, List.getElem?_cons_succ, List.set_cons_zero, List.set_cons_succ, Option.map_some, cmpW, ordW, bltW, binW, intW, addW, evS, Tg.put, if_true, Bool.false_eq_true, if_false]
    refine ⟨by rw [List.length_map]; simp only [LINE]; omega, xs ++ [[97 + v2.toNat]], by simp, fun y hy => ?_, by simp only [List.length_append, List.length_cons, List.length_nil]; omega, hD2, hF'.trans hF2⟩
    rcases List.mem_append.mp hy with hy | hy
    · exact hx y hy
    · rw [List.mem_singleton.mp hy]; exact ⟨_, rfl, by omega, by omega⟩
  rintro acc S2 ⟨xs, rfl, hx, hlen, hD2, hF2⟩
  have hsum : (xs.map (·.length)).sum = xs.length := flat_len fun x h => by obtain ⟨c, rfl, _⟩ := hx x h; rfl
  have hxl : xs.length ≤ 4 := by simp only [List.length_nil] at hlen; omega
  simp only [tst, evE, evWs, evDs, evO, evC, evI, Ok_bind, Ok_ok, Ok_al, al_d, al_o, bind_ok, al_ok_d, al_ok_o, opt_some, testD_bl, List.getElem?_cons_zero, List.getElem?_cons_succ, List.set_cons_zero, List.set_cons_succ, Option.map_some, cmpW, ordW, bltW, binW, intW, addW, evS, Tg.put, if_true, Bool.false_eq_true, if_false]
  rw [join_own (by rw [hsum]; omega)]
  simp only [tst, evE, evWs, evDs, evO, evC, evI, Ok_bind, Ok_ok, Ok_al, al_d, al_o, bind_ok, al_ok_d, al_ok_o, opt_some, testD_bl, List.getElem?_cons_zero, List.getElem?_cons_succ, List.set_cons_zero, List.set_cons_succ, Option.map_some, cmpW, ordW, bltW, binW, intW, addW, evS, Tg.put, if_true, Bool.false_eq_true, if_false]
  have hcl : xs.flatten.length ≤ 4 := by rw [List.length_flatten, hsum]; exact hxl
  have hcm : ∀ c ∈ xs.flatten, 97 ≤ c ∧ c ≤ 122 := fun c hc => by
    obtain ⟨y, hy, hcy⟩ := List.mem_flatten.mp hc
    obtain ⟨d, rfl, hd⟩ := hx y hy
    rw [List.mem_singleton.mp hcy]
    exact hd
  generalize xs.flatten = core at hcl hcm
  refine ok_cons ?_
  unfold BdN.n2
  refine ok_setE ?_
  refine ok_callE ?_
  simp only [tst, evE, evWs, evDs, evO, evC, evI, Ok_bind, Ok_ok, Ok_al, al_d, al_o, bind_ok, al_ok_d, al_ok_o, opt_some, testD_bl, List.getElem?_cons_zero, List.getElem?_cons_succ, List.set_cons_zero, List.set_cons_succ, Option.map_some, cmpW, ordW, bltW, binW, intW, addW, evS, Tg.put, if_true, Bool.false_eq_true, if_false]
  rw [len_str (by simp only [LINE]; omega)]
  simp only [tst, evE, evWs, evDs, evO, evC, evI, Ok_bind, Ok_ok, Ok_al, al_d, al_o, bind_ok, al_ok_d, al_ok_o, opt_some, testD_bl, List.getElem?_cons_zero, List.getElem?_cons_succ, List.set_cons_zero, List.set_cons_succ, Option.map_some, cmpW, ordW, bltW, binW, intW, addW, evS, Tg.put, if_true, Bool.false_eq_true, if_false]
  refine bdr p hfu hD2 (by omega) (by omega) fun at_ S3 a0 a1 hD3 hF3 => ?_
  obtain ⟨at_, rfl⟩ : ∃ m : Nat, at_ = (m : Int) := ⟨at_.toNat, by omega⟩
  simp only [tst, evE, evWs, evDs, evO, evC, evI, Ok_bind, Ok_ok, Ok_al, al_d, al_o, bind_ok, al_ok_d, al_ok_o, opt_some, testD_bl, List.getElem?_cons_zero, List.getElem?_cons_succ, List.set_cons_zero, List.set_cons_succ, Option.map_some, cmpW, ordW, bltW, binW, intW, addW, evS, Tg.put, if_true, Bool.false_eq_true, if_false]
  refine ok_cons ?_
  unfold BdN.n3
  refine ok_setE ?_
  refine bdrE p hfu rfl hD3 (by decide) (by decide) fun turn S4 c0 c1 hD4 hF4 => ?_
  obtain ⟨turn, rfl⟩ : ∃ m : Nat, turn = (m : Int) := ⟨turn.toNat, by omega⟩
  rw [al_d]
  refine ok_cons ?_
  unfold BdN.n4
  refine ok_setE ?_
  refine ok_lstE ?_
  simp only [tst, evE, evWs, evDs, evO, evC, evI, Ok_bind, Ok_ok, Ok_al, al_d, al_o, bind_ok, al_ok_d, al_ok_o, opt_some, testD_bl, List.getElem?_cons_zero, List.getElem?_cons_succ, List.set_cons_zero, List.set_cons_succ, Option.map_some, cmpW, ordW, bltW, binW, intW, addW, evS, Tg.put, if_true, Bool.false_eq_true, if_false]
  refine ⟨by simp, ?_⟩
  have hFa := (hF2.trans hF3).trans hF4
  have hlt := hD4.lt
  have hSl : S.length ≤ S4.length := hFa.1
  refine ok_cons ?_
  unfold BdN.n5
  rw [evS, Ok_bind]
  refine ok_rng1 ?_
  simp only [tst, evE, evWs, evDs, evO, evC, evI, Ok_bind, Ok_ok, Ok_al, al_d, al_o, bind_ok, al_ok_d, al_ok_o, opt_some, testD_bl, List.getElem?_cons_zero, List.getElem?_cons_succ, List.set_cons_zero, List.set_cons_succ, Option.map_some, cmpW, ordW, bltW, binW, intW, addW, evS, Tg.put, if_true, Bool.false_eq_true, if_false]
  refine ⟨24, rfl, by omega, ?_⟩
  refine ok_for (fun l ρ S' => ∃ (i : Nat) (x own : Option D), i ≤ 24 ∧ l = (rngL 0 1 24).drop i ∧ ρ = [some (.ref k), some (.int 24), some (.str abc), some (.str core), x, some (.int (at_ : Int)), some (.int (turn : Int)), some (.ref S4.length), own, none, none, none] ∧
      S'[S4.length]? = some (.lst (((List.range i).map (nmX core at_ turn)).map D.str)) ∧ Dl k j S' ∧ Fr k j S S') (fun _ _ _ _ => rfl) ?_ ?_ _ _ _
    ⟨0, none, none, by decide, rfl, rfl, app_at _ _, hD4.app _, hFa.trans (Fr.app _)⟩
  · rintro x l ρ S' ⟨i, x0, own, hi24, hl, rfl, e, hD', hF'⟩
    obtain ⟨hx, hr, hi⟩ := drop_inv hl.symm
    rw [rng_len] at hi
    obtain ⟨_, hx⟩ := rng_get hx
    have hx : x = .int (i : Int) := by rw [hx]; congr 1; omega
    subst hx
    unfold forF
    simp only [Tg.put, List.set_cons_succ, List.set_cons_zero]
    refine ok_cons ?_
    have hc : ∀ S : Sto, mulW (.d (.int 7)) (.d (.int (i : Int))) S = some (.d (.int (7 * (i : Int)))) := fun S => mul_l ⟨by decide, by decide⟩
    have hcc : idxW (.d (.str abc)) (.int (((turn : Int) + 7 * (i : Int)) % 26)) S' = some (.str [97 + (turn + 7 * i) % 26]) := by
      rw [abc_idx (Int.emod_nonneg _ (by decide)) (Int.emod_lt_of_pos _ (by decide))]
      rw [show (((turn : Int) + 7 * (i : Int)) % 26).toNat = (turn + 7 * i) % 26 by omega]
    simp only [BdN.n6, tst, evE, evWs, evDs, evO, evC, evI, Ok_bind, Ok_ok, Ok_al, al_d, al_o, bind_ok, al_ok_d, al_ok_o, opt_some, testD_bl, List.getElem?_cons_zero, List.getElem?_cons_succ, List.set_cons_zero, List.set_cons_succ, Option.map_some, cmpW, ordW, bltW, binW, intW, addW, evS, Tg.put, if_true, Bool.false_eq_true, if_false, hc, show decide ((0 : Int) < 26) = true from rfl, hcc]
    rw [slc_str (by simp only [LINE]; omega), cut_lo]
    simp only [tst, evE, evWs, evDs, evO, evC, evI, Ok_bind, Ok_ok, Ok_al, al_d, al_o, bind_ok, al_ok_d, al_ok_o, opt_some, testD_bl, List.getElem?_cons_zero, List.getElem?_cons_succ, List.set_cons_zero, List.set_cons_succ, Option.map_some, cmpW, ordW, bltW, binW, intW, addW, evS, Tg.put, if_true, Bool.false_eq_true, if_false]
    rw [if_pos (by simp only [LINE, List.length_cons, List.length_nil, List.length_drop]; omega)]
    simp only [tst, evE, evWs, evDs, evO, evC, evI, Ok_bind, Ok_ok, Ok_al, al_d, al_o, bind_ok, al_ok_d, al_ok_o, opt_some, testD_bl, List.getElem?_cons_zero, List.getElem?_cons_succ, List.set_cons_zero, List.set_cons_succ, Option.map_some, cmpW, ordW, bltW, binW, intW, addW, evS, Tg.put, if_true, Bool.false_eq_true, if_false]
    refine ok_one ?_
    unfold BdN.n7
    rw [evS, Ok_bind, evE]
    simp only [tst, evE, evWs, evDs, evO, evC, evI, Ok_bind, Ok_ok, Ok_al, al_d, al_o, bind_ok, al_ok_d, al_ok_o, opt_some, testD_bl, List.getElem?_cons_zero, List.getElem?_cons_succ, List.set_cons_zero, List.set_cons_succ, Option.map_some, cmpW, ordW, bltW, binW, intW, addW, evS, Tg.put, if_true, Bool.false_eq_true, if_false, Bmt.kd, kd_ref e, Bmt.keeps]
    rw [slc_str (by simp only [LINE]; omega), cut_hi]
    simp only [tst, evE, evWs, evDs, evO, evC, evI, Ok_bind, Ok_ok, Ok_al, al_d, al_o, bind_ok, al_ok_d, al_ok_o, opt_some, testD_bl, List.getElem?_cons_zero, List.getElem?_cons_succ, List.set_cons_zero, List.set_cons_succ, Option.map_some, cmpW, ordW, bltW, binW, intW, addW, evS, Tg.put, if_true, Bool.false_eq_true, if_false]
    rw [if_pos (by simp only [LINE, List.length_append, List.length_cons, List.length_nil, List.length_drop, List.length_take]; omega)]
    simp only [tst, evE, evWs, evDs, evO, evC, evI, Ok_bind, Ok_ok, Ok_al, al_d, al_o, bind_ok, al_ok_d, al_ok_o, opt_some, testD_bl, List.getElem?_cons_zero, List.getElem?_cons_succ, List.set_cons_zero, List.set_cons_succ, Option.map_some, cmpW, ordW, bltW, binW, intW, addW, evS, Tg.put, if_true, Bool.false_eq_true, if_false, List.length_nil, List.length_cons]
    rw [if_pos (by decide)]
    simp only [tst, evE, evWs, evDs, evO, evC, evI, Ok_bind, Ok_ok, Ok_al, al_d, al_o, bind_ok, al_ok_d, al_ok_o, opt_some, testD_bl, List.getElem?_cons_zero, List.getElem?_cons_succ, List.set_cons_zero, List.set_cons_succ, Option.map_some, cmpW, ordW, bltW, binW, intW, addW, evS, Tg.put, if_true, Bool.false_eq_true, if_false]
    rw [if_pos (by decide)]
    simp only [tst, evE, evWs, evDs, evO, evC, evI, Ok_bind, Ok_ok, Ok_al, al_d, al_o, bind_ok, al_ok_d, al_ok_o, opt_some, testD_bl, List.getElem?_cons_zero, List.getElem?_cons_succ, List.set_cons_zero, List.set_cons_succ, Option.map_some, cmpW, ordW, bltW, binW, intW, addW, evS, Tg.put, if_true, Bool.false_eq_true, if_false]
    rw [if_pos (by decide)]
    simp only [tst, evE, evWs, evDs, evO, evC, evI, Ok_bind, Ok_ok, Ok_al, al_d, al_o, bind_ok, al_ok_d, al_ok_o, opt_some, testD_bl, List.getElem?_cons_zero, List.getElem?_cons_succ, List.set_cons_zero, List.set_cons_succ, Option.map_some, cmpW, ordW, bltW, binW, intW, addW, evS, Tg.put, if_true, Bool.false_eq_true, if_false]
    have hz : idxW (.o (.lst [.str [], .str [122]])) (.int ((i : Int) % 5 / 4)) S' = some (.str (if i % 5 / 4 = 1 then [122] else [])) := by
      have : i % 5 / 4 = 0 ∨ i % 5 / 4 = 1 := by omega
      rcases this with h | h
      · rw [show (i : Int) % 5 / 4 = 0 by omega, h]; rfl
      · rw [show (i : Int) % 5 / 4 = 1 by omega, h]; rfl
    simp only [hz, tst, evE, evWs, evDs, evO, evC, evI, Ok_bind, Ok_ok, Ok_al, al_d, al_o, bind_ok, al_ok_d, al_ok_o, opt_some, testD_bl, List.getElem?_cons_zero, List.getElem?_cons_succ, List.set_cons_zero, List.set_cons_succ, Option.map_some, cmpW, ordW, bltW, binW, intW, addW, evS, Tg.put, if_true, Bool.false_eq_true, if_false]
    have hlz : (if i % 5 / 4 = 1 then [122] else ([] : List Nat)).length ≤ 1 := by split <;> simp
    rw [if_pos (by simp only [LINE, List.length_append, List.length_cons, List.length_nil, List.length_drop, List.length_take]; omega)]
    simp only [tst, evE, evWs, evDs, evO, evC, evI, Ok_bind, Ok_ok, Ok_al, al_d, al_o, bind_ok, al_ok_d, al_ok_o, opt_some, testD_bl, List.getElem?_cons_zero, List.getElem?_cons_succ, List.set_cons_zero, List.set_cons_succ, Option.map_some, cmpW, ordW, bltW, binW, intW, addW, evS, Tg.put, if_true, Bool.false_eq_true, if_false]
    rw [append_ref e (by rw [List.length_map, List.length_map, List.length_range]; simp only [LINE]; omega)]
    simp only [tst, evE, evWs, evDs, evO, evC, evI, Ok_bind, Ok_ok, Ok_al, al_d, al_o, bind_ok, al_ok_d, al_ok_o, opt_some, testD_bl, List.getElem?_cons_zero, List.getElem?_cons_succ, List.set_cons_zero, List.set_cons_succ, Option.map_some, cmpW, ordW, bltW, binW, intW, addW, evS, Tg.put, if_true, Bool.false_eq_true, if_false]
    refine ⟨i + 1, _, _, by omega, hr, rfl, ?_, hD'.set_ne (by omega) (by omega), hF'.set_new hSl⟩
    rw [set_at e, List.range_succ, List.map_append, List.map_append]
    rfl
  rintro ρ S5 ⟨i, x0, own, hi24, hl, rfl, e5, hD5, hF5⟩
  have hi : i = 24 := by
    have := congrArg List.length hl
    rw [List.length_drop, rng_len, List.length_nil] at this
    omega
  subst hi
  dsimp only
  refine ok_cons ?_
  unfold BdN.n8
  refine ok_setE ?_
  refine ok_lstE ?_
  simp only [tst, evE, evWs, evDs, evO, evC, evI, Ok_bind, Ok_ok, Ok_al, al_d, al_o, bind_ok, al_ok_d, al_ok_o, opt_some, testD_bl, List.getElem?_cons_zero, List.getElem?_cons_succ, List.set_cons_zero, List.set_cons_succ, Option.map_some, cmpW, ordW, bltW, binW, intW, addW, evS, Tg.put, if_true, Bool.false_eq_true, if_false]
  refine ⟨by simp, ?_⟩
  have hS5 : S4.length < S5.length := (List.getElem?_eq_some_iff.mp e5).1
  exact q core at_ turn _ _ S4.length S5.length _ hcm hcl (by omega) (by omega) hSl (by omega) (app_keep e5) (app_at _ _) (hD5.app _) (hF5.trans (Fr.app _))
theorem nam_suf (p : TmP P N) (hfu : 64 < fu) {pf ps : Nat} {xs : List (List Nat)} {x2 x3 x4 x5 x6 x8 : Option D} {K : D} (hD : Dl k j S) (hf : S[pf]? = some (.lst (xs.map D.str))) (hs : S[ps]? = some (.lst (spareL.map D.str))) (hps : ps ≠ k ∧ ps ≠ j) (hl : xs.length = 24) (hx : ∀ x ∈ xs, x.length ≤ 6)
    (hK : ∀ s, inS (.d (.str s)) (.d K) S = some (keptL.contains s)) {Q : W → Sto → Prop}
    (q : ∀ (ys : List (List Nat)) (S' : Sto), (ys = xs.map nmY ∨ ∃ i s, s ∈ spareL ∧ s ∉ xs.map nmY ∧ ys = (xs.map nmY).set i s) → S'[S.length]? = some (.lst (ys.map D.str)) → Dl k j S' → Fr k j S S' → Q (.d (.ref S.length)) S') :
    Ok (evSs fu (run fu P (n + 1)) (run fu P (n + 1)) P.T.ini N.nZ [some (.ref k), some (.int 24), x2, x3, x4, x5, x6, some (.ref pf), x8, some (.ref ps), some K, none] S) fun o S => match o with
      | .nx _ => Q (.d .non) S
      | .rt w => Q w S
      | _ => False := by
  unfold BdN.nZ
  refine ok_cons ?_
  unfold BdN.n10
  refine ok_setE ?_
  refine ok_lcE ?_
  simp only [tst, evE, evWs, evDs, evO, evC, evI, Ok_bind, Ok_ok, Ok_al, al_d, al_o, bind_ok, al_ok_d, al_ok_o, opt_some, testD_bl, List.getElem?_cons_zero, List.getElem?_cons_succ, List.set_cons_zero, List.set_cons_succ, Option.map_some, cmpW, ordW, bltW, binW, intW, addW, evS, Tg.put, if_true, Bool.false_eq_true, if_false, wk_ref hf]
  refine ok_lc (fun l acc S' => S' = S ∧ ∃ i, l = (xs.map D.str).drop i ∧ i ≤ 24 ∧ acc = ((xs.take i).map nmY).map D.str) (fun _ _ S' h => by rw [h.1]; exact stays_ref hf) ?_ ?_ _ _ _ ⟨rfl, 0, rfl, by decide, by simp⟩
  · rintro x l acc S' ⟨rfl, i, hl', hi, rfl⟩
    obtain ⟨h1, h2, h3⟩ := drop_inv hl'.symm
    rw [List.length_map] at h3
    rw [List.getElem?_map, Option.map_eq_some_iff] at h1
    obtain ⟨s, h1, rfl⟩ := h1
    have hsl := hx s (List.mem_of_getElem? h1)
    simp only [tst, evE, evWs, evDs, evO, evC, evI, Ok_bind, Ok_ok, Ok_al, al_d, al_o, bind_ok, al_ok_d, al_ok_o, opt_some, testD_bl, List.getElem?_cons_zero, List.getElem?_cons_succ, List.set_cons_zero, List.set_cons_succ, Option.map_some, cmpW, ordW, bltW, binW, intW, addW, evS, Tg.put, if_true, Bool.false_eq_true, if_false, Ok_nox, wipeE, hK]
    have hz : mulW (.d (.str [113])) (.d (.int (if keptL.contains s = true then 1 else 0))) S' = some (.d (.str (if keptL.contains s = true then [113] else []))) := by
      by_cases h : keptL.contains s = true
      · rw [if_pos h, if_pos h]; rfl
      · rw [if_neg h, if_neg h]; rfl
    have hzl : (if keptL.contains s = true then [113] else ([] : List Nat)).length ≤ 1 := by split <;> simp
    simp only [hz, tst, evE, evWs, evDs, evO, evC, evI, Ok_bind, Ok_ok, Ok_al, al_d, al_o, bind_ok, al_ok_d, al_ok_o, opt_some, testD_bl, List.getElem?_cons_zero, List.getElem?_cons_succ, List.set_cons_zero, List.set_cons_succ, Option.map_some, cmpW, ordW, bltW, binW, intW, addW, evS, Tg.put, if_true, Bool.false_eq_true, if_false]
    rw [if_pos (by simp only [LINE]; omega)]
    simp only [tst, evE, evWs, evDs, evO, evC, evI, Ok_bind, Ok_ok, Ok_al, al_d, al_o, bind_ok, al_ok_d, al_ok_o, opt_some, testD_bl, List.getElem?_cons_zero, List.getElem?_cons_succ, List.set_cons_zero, List.set_cons_succ, Option.map_some, cmpW, ordW, bltW, binW, intW, addW, evS, Tg.put, if_true, Bool.false_eq_true, if_false]
    refine ⟨by rw [List.length_map, List.length_map, List.length_take]; simp only [LINE]; omega, trivial, i + 1, h2, by omega, ?_⟩
    rw [List.take_add_one, h1]
    simp [nmY]
  rintro acc S1 ⟨rfl, i, hl', hi, rfl⟩
  have hi : i = 24 := by
    have := congrArg List.length hl'
    rw [List.length_drop, List.length_map, List.length_nil] at this
    omega
  subst hi
  rw [List.take_of_length_le (by omega)]
  rw [al_o]
  have e0 : (S1 ++ [O.lst ((xs.map nmY).map D.str)])[S1.length]? = some (.lst ((xs.map nmY).map D.str)) := app_at _ _
  have es0 := app_keep (x := O.lst ((xs.map nmY).map D.str)) hs
  have hD0 := hD.app (O.lst ((xs.map nmY).map D.str))
  have hF0 : Fr k j S1 (S1 ++ [O.lst ((xs.map nmY).map D.str)]) := Fr.app _
  generalize S1 ++ [O.lst ((xs.map nmY).map D.str)] = S0 at e0 es0 hD0 hF0 ⊢
  have hkj := hD.lt
  refine ok_cons ?_
  unfold BdN.n11
  refine ok_setE ?_
  refine ok_idxE ?_
  simp only [List.getElem?_cons_zero, List.getElem?_cons_succ, List.set_cons_succ, List.set_cons_zero, evE, Ok_ok]
  refine bdrE p hfu rfl hD0 (by decide) (by decide) fun v S2 g0 g1 hD2 hF2 => ?_
  have e2 := hF2.at_ e0 (by omega) (by omega)
  have es2 := hF2.at_ es0 hps.1 hps.2
  obtain ⟨y, _, hy, hym⟩ := idx_ref (S := S2) es2 g0 g1
  obtain ⟨s, hsm, rfl⟩ := List.mem_map.mp hym
  rw [al_d]
  refine ⟨_, hy, ?_⟩
  rw [al_d]
  have hF02 := hF0.trans hF2
  refine ok_cons ?_
  unfold BdN.n12
  rw [evS, Ok_bind, tst, Ok_bind, evE, Ok_bind, evE, Ok_bind]
  refine bdrE p hfu rfl hD2 (by decide) (by decide) fun v3 S3 i0 i1 hD3 hF3 => ?_
  have e3 := hF3.at_ e2 (by omega) (by omega)
  have hF03 := hF02.trans hF3
  simp only [tst, evE, evWs, evDs, evO, evC, evI, Ok_bind, Ok_ok, Ok_al, al_d, al_o, bind_ok, al_ok_d, al_ok_o, opt_some, testD_bl, List.getElem?_cons_zero, List.getElem?_cons_succ, List.set_cons_zero, List.set_cons_succ, Option.map_some, cmpW, ordW, bltW, binW, intW, addW, evS, Tg.put, if_true, Bool.false_eq_true, if_false]
  rw [eqW_scal rfl]
  simp only [tst, evE, evWs, evDs, evO, evC, evI, Ok_bind, Ok_ok, Ok_al, al_d, al_o, bind_ok, al_ok_d, al_ok_o, opt_some, testD_bl, List.getElem?_cons_zero, List.getElem?_cons_succ, List.set_cons_zero, List.set_cons_succ, Option.map_some, cmpW, ordW, bltW, binW, intW, addW, evS, Tg.put, if_true, Bool.false_eq_true, if_false, List.set_cons_succ, List.set_cons_zero, in_ref (xs.map nmY) s e3]
  have fin : ∀ (ys : List (List Nat)) (S' : Sto) (x3 x4 x5 x6 x8 x10 x11 : Option D), (ys = xs.map nmY ∨ ∃ i s, s ∈ spareL ∧ s ∉ xs.map nmY ∧ ys = (xs.map nmY).set i s) → S'[S1.length]? = some (.lst (ys.map D.str)) → Dl k j S' → Fr k j S1 S' → Ok (evSs fu (run fu P (n + 1)) (run fu P (n + 1)) P.T.ini (.cons BdN.n14 .nil) [some (.ref k), some (.int 24), x2, x3, x4, x5, x6, some (.ref S1.length), x8, some (.ref ps), x10, x11] S') fun o S => match o with
      | .nx _ => Q (.d .non) S
      | .rt w => Q w S
      | _ => False := by
    intro ys S' x3 x4 x5 x6 x8 x10 x11 h1 h2 h3 h4
    refine ok_one ?_
    simp only [BdN.n14, tst, evE, evWs, evDs, evO, evC, evI, Ok_bind, Ok_ok, Ok_al, al_d, al_o, bind_ok, al_ok_d, al_ok_o, opt_some, testD_bl, List.getElem?_cons_zero, List.getElem?_cons_succ, List.set_cons_zero, List.set_cons_succ, Option.map_some, cmpW, ordW, bltW, binW, intW, addW, evS, Tg.put, if_true, Bool.false_eq_true, if_false]
    exact q ys S' h1 h2 h3 h4
  by_cases h1 : D.int v3 = D.int 1
  · simp only [decide_eq_true h1, tst, evE, evWs, evDs, evO, evC, evI, Ok_bind, Ok_ok, Ok_al, al_d, al_o, bind_ok, al_ok_d, al_ok_o, opt_some, testD_bl, List.getElem?_cons_zero, List.getElem?_cons_succ, List.set_cons_zero, List.set_cons_succ, Option.map_some, cmpW, ordW, bltW, binW, intW, addW, evS, Tg.put, if_true, Bool.false_eq_true, if_false]
    by_cases h2 : (xs.map nmY).contains s = true
    · simp only [h2, Bool.not_true, tst, evE, evWs, evDs, evO, evC, evI, Ok_bind, Ok_ok, Ok_al, al_d, al_o, bind_ok, al_ok_d, al_ok_o, opt_some, testD_bl, List.getElem?_cons_zero, List.getElem?_cons_succ, List.set_cons_zero, List.set_cons_succ, Option.map_some, cmpW, ordW, bltW, binW, intW, addW, evS, Tg.put, if_true, Bool.false_eq_true, if_false]
      refine ok_nil ?_
      exact fin _ S3 _ _ _ _ _ _ _ (.inl rfl) e3 hD3 hF03
    · simp only [h2, Bool.not_false, tst, evE, evWs, evDs, evO, evC, evI, Ok_bind, Ok_ok, Ok_al, al_d, al_o, bind_ok, al_ok_d, al_ok_o, opt_some, testD_bl, List.getElem?_cons_zero, List.getElem?_cons_succ, List.set_cons_zero, List.set_cons_succ, Option.map_some, cmpW, ordW, bltW, binW, intW, addW, evS, Tg.put, if_true, Bool.false_eq_true, if_false]
      refine ok_one ?_
      unfold BdN.n13
      simp only [tst, evE, evWs, evDs, evO, evC, evI, Ok_bind, Ok_ok, Ok_al, al_d, al_o, bind_ok, al_ok_d, al_ok_o, opt_some, testD_bl, List.getElem?_cons_zero, List.getElem?_cons_succ, List.set_cons_zero, List.set_cons_succ, Option.map_some, cmpW, ordW, bltW, binW, intW, addW, evS, Tg.put, if_true, Bool.false_eq_true, if_false]
      refine bdr p hfu hD3 (by decide) (by decide) fun v10 S10 l0 l1 hD10 hF10 => ?_
      have e10 := hF10.at_ e3 (by omega) (by omega)
      simp only [tst, evE, evWs, evDs, evO, evC, evI, Ok_bind, Ok_ok, Ok_al, al_d, al_o, bind_ok, al_ok_d, al_ok_o, opt_some, testD_bl, List.getElem?_cons_zero, List.getElem?_cons_succ, List.set_cons_zero, List.set_cons_succ, Option.map_some, cmpW, ordW, bltW, binW, intW, addW, evS, Tg.put, if_true, Bool.false_eq_true, if_false]
      rw [setD_ref e10 l0 (by rw [List.length_map, List.length_map, hl]; exact l1)]
      (try simp only [tst, evE, evWs, evDs, evO, evC, evI, Ok_bind, Ok_ok, Ok_al, al_d, al_o, bind_ok, al_ok_d, al_ok_o, opt_some, testD_bl, List.getElem?_cons_zero, List.getElem?_cons_succ, List.set_cons_zero, List.set_cons_succ, Option.map_some, cmpW, ordW, bltW, binW, intW, addW, evS, Tg.put, if_true, Bool.false_eq_true, if_false])
      refine fin ((xs.map nmY).set v10.toNat s) _ _ _ _ _ _ _ _ (.inr ⟨_, s, hsm, by simpa using h2, rfl⟩) (by rw [List.map_set]; exact set_at e10) (hD10.set_ne (by omega) (by omega)) ((hF03.trans hF10).set_new (Nat.le_refl _))
  · simp only [decide_eq_false h1, tst, evE, evWs, evDs, evO, evC, evI, Ok_bind, Ok_ok, Ok_al, al_d, al_o, bind_ok, al_ok_d, al_ok_o, opt_some, testD_bl, List.getElem?_cons_zero, List.getElem?_cons_succ, List.set_cons_zero, List.set_cons_succ, Option.map_some, cmpW, ordW, bltW, binW, intW, addW, evS, Tg.put, if_true, Bool.false_eq_true, if_false]
    refine ok_nil ?_
    exact fin _ S3 _ _ _ _ _ _ _ (.inl rfl) e3 hD3 hF03
/-- twenty-four unlike names -/
def NmL (ys : List (List Nat)) : Prop := ys.length = 24 ∧ ys.Nodup ∧ ∀ y ∈ ys, Nm y
theorem nml_of {core : List Nat} {at_ turn : Nat} (hm : ∀ c ∈ core, 97 ≤ c ∧ c ≤ 122) (hc : core.length ≤ 4) (h : at_ ≤ core.length) (ht : turn < 26) {ys : List (List Nat)}
    (hy : ys = ((List.range 24).map (nmX core at_ turn)).map nmY ∨ ∃ i s, s ∈ spareL ∧ s ∉ ((List.range 24).map (nmX core at_ turn)).map nmY ∧ ys = (((List.range 24).map (nmX core at_ turn)).map nmY).set i s) : NmL ys := by
  have hn : NmL (((List.range 24).map (nmX core at_ turn)).map nmY) := by
    refine ⟨by simp, names_nodup h ht, fun y hy => ?_⟩
    obtain ⟨x, hx, rfl⟩ := List.mem_map.mp hy
    obtain ⟨i, _, rfl⟩ := List.mem_map.mp hx
    exact nmY_nm (nmX_len h hc) (nmX_mem hm)
  rcases hy with rfl | ⟨i, s, hs, hsn, rfl⟩
  · exact hn
  · refine ⟨by rw [List.length_set]; exact hn.1, nodup_set hn.2.1 hsn, fun y hy => ?_⟩
    rcases List.mem_or_eq_of_mem_set hy with hy | rfl
    · exact hn.2.2 y hy
    · exact spare_nm _ hs
theorem names1_ok {iN : Nat} (p : TmP P N) (hN : Has P iN N.bN1 2 12) (hfu : 64 < fu) (hD : Dl k j S) {Q : W → Sto → Prop} (q : ∀ (ys : List (List Nat)) (pn : Nat) (S' : Sto), NmL ys → S'[pn]? = some (.lst (ys.map D.str)) → S.length ≤ pn → Dl k j S' → Fr k j S S' → Q (.d (.ref pn)) S') : Ok (run fu P (n + 2) iN [.ref k, .int 24] S) Q := by
  refine has_run hN rfl ?_
  show Ok (evSs fu _ _ _ N.bN1 [some (.ref k), some (.int 24), none, none, none, none, none, none, none, none, none, none] S) _
  unfold BdN.bN1
  refine nam_pre p hfu hD fun core at_ turn x4 x8 pf ps S1 hcm hcl hat ht hpf hps ef es hD1 hF1 => ?_
  refine ok_cons ?_
  unfold BdN.kt
  refine ok_setE ?_
  refine ok_tupE ?_
  simp only [tst, evE, evWs, evDs, evO, evC, evI, Ok_bind, Ok_ok, Ok_al, al_d, al_o, bind_ok, al_ok_d, al_ok_o, opt_some, testD_bl, List.getElem?_cons_zero, List.getElem?_cons_succ, List.set_cons_zero, List.set_cons_succ, Option.map_some, cmpW, ordW, bltW, binW, intW, addW, evS, Tg.put, if_true, Bool.false_eq_true, if_false]
  refine ⟨by simp, ?_⟩
  have hkj := hD.lt
  refine nam_suf (K := .tup (keptL.map D.str)) p hfu hD1 ef es ⟨by omega, by omega⟩ (by simp) (fun x hx => ?_) (fun s => in_tup keptL s S1) fun ys S' hy e hD' hF' => ?_
  · obtain ⟨i, _, rfl⟩ := List.mem_map.mp hx
    exact (nmX_len hat hcl).2
  · exact q ys S1.length S' (nml_of hcm hcl hat ht hy) e hF1.1 hD' (hF1.trans hF')
theorem names2_ok {iN : Nat} (p : TmP P N) (hN : Has P iN N.bN2 2 12) (hfu : 64 < fu) (hD : Dl k j S) {Q : W → Sto → Prop} (q : ∀ (ys : List (List Nat)) (pn : Nat) (S' : Sto), NmL ys → S'[pn]? = some (.lst (ys.map D.str)) → S.length ≤ pn → Dl k j S' → Fr k j S S' → Q (.d (.ref pn)) S') : Ok (run fu P (n + 2) iN [.ref k, .int 24] S) Q := by
  refine has_run hN rfl ?_
  show Ok (evSs fu _ _ _ N.bN2 [some (.ref k), some (.int 24), none, none, none, none, none, none, none, none, none, none] S) _
  unfold BdN.bN2
  refine nam_pre p hfu hD fun core at_ turn x4 x8 pf ps S1 hcm hcl hat ht hpf hps ef es hD1 hF1 => ?_
  refine ok_cons ?_
  unfold BdN.k1
  refine ok_setE ?_
  refine ok_lstE ?_
  simp only [tst, evE, evWs, evDs, evO, evC, evI, Ok_bind, Ok_ok, Ok_al, al_d, al_o, bind_ok, al_ok_d, al_ok_o, opt_some, testD_bl, List.getElem?_cons_zero, List.getElem?_cons_succ, List.set_cons_zero, List.set_cons_succ, Option.map_some, cmpW, ordW, bltW, binW, intW, addW, evS, Tg.put, if_true, Bool.false_eq_true, if_false]
  refine ⟨by simp, ?_⟩
  have hkj := hD.lt
  have e6 : (S1 ++ [O.lst (kept6.map D.str)])[S1.length]? = some (.lst (kept6.map D.str)) := app_at _ _
  have ef2 := app_keep (x := O.lst (kept6.map D.str)) ef
  have es2 := app_keep (x := O.lst (kept6.map D.str)) es
  have hD2 := hD1.app (O.lst (kept6.map D.str))
  have hF2 := hF1.trans (Fr.app (k := k) (j := j) (O.lst (kept6.map D.str)))
  refine ok_cons ?_
  unfold BdN.k2
  refine ok_setE ?_
  show Ok (evE _ _ _ (.bin .add (.var 10) _) [_, _, _, _, _, _, _, _, _, _, some (.ref S1.length), _] (S1 ++ [O.lst (kept6.map D.str)])) _
  generalize S1 ++ [O.lst (kept6.map D.str)] = S2 at e6 ef2 es2 hD2 hF2 ⊢
  rw [evE, Ok_bind, evE]
  simp only [tst, evE, evWs, evDs, evO, evC, evI, Ok_bind, Ok_ok, Ok_al, al_d, al_o, bind_ok, al_ok_d, al_ok_o, opt_some, testD_bl, List.getElem?_cons_zero, List.getElem?_cons_succ, List.set_cons_zero, List.set_cons_succ, Option.map_some, cmpW, ordW, bltW, binW, intW, addW, evS, Tg.put, if_true, Bool.false_eq_true, if_false, List.length_cons, List.length_nil]
  rw [if_pos (by decide)]
  simp only [tst, evE, evWs, evDs, evO, evC, evI, Ok_bind, Ok_ok, Ok_al, al_d, al_o, bind_ok, al_ok_d, al_ok_o, opt_some, testD_bl, List.getElem?_cons_zero, List.getElem?_cons_succ, List.set_cons_zero, List.set_cons_succ, Option.map_some, cmpW, ordW, bltW, binW, intW, addW, evS, Tg.put, if_true, Bool.false_eq_true, if_false]
  refine ok_cat (m := kept6'.map D.str) e6 (by decide) ?_
  rw [al_o, ← List.map_append]
  refine nam_suf (K := .ref S2.length) p hfu (hD2.app _) (app_keep ef2) (app_keep es2) ⟨by omega, by omega⟩ (by simp) (fun x hx => ?_) (fun s => in_ref keptL s (app_at _ _)) fun ys S' hy e hD' hF' => ?_
  · obtain ⟨i, _, rfl⟩ := List.mem_map.mp hx
    exact (nmX_len hat hcl).2
  · have := hF2.1
    exact q ys _ S' (nml_of hcm hcl hat ht hy) e (by simp; omega) hD' ((hF2.trans (Fr.app _)).trans hF')
end
end PyI

set_option maxRecDepth 100000
set_option maxHeartbeats 2000000
/-! PyI: the laws' programs. -/
namespace PyI
structure Pr where
  cells : List (List Nat × Int)
  rows : List (List Nat × Int)
  defs : List (List Nat × Bd)
  body : Bd
def pairD (p : List Nat × Int) : D := .tup [.str p.1, .int p.2]
def defD (p : List Nat × Bd) : D := .tup [.str p.1, .tup p.2.ds]
def Pr.d (p : Pr) : D := .tup [.tup (p.cells.map pairD), .tup (p.rows.map pairD), .tup (p.defs.map defD), .tup p.body.ds]
def Pr.cs (p : Pr) : List (List Nat) := p.cells.map (·.1)
def Pr.rs (p : Pr) : List (List Nat) := p.rows.map (·.1)
def Pr.fs (p : Pr) : List (List Nat) := p.defs.map (·.1)
/-- a program that is let by -/
structure Pr.ok (p : Pr) : Prop where
  c1 : 1 ≤ p.cells.length
  c6 : p.cells.length ≤ 6
  r3 : p.rows.length ≤ 3
  d3 : p.defs.length ≤ 3
  cn : p.cs.Nodup
  rn : p.rs.Nodup
  dn : p.fs.Nodup
  cm : ∀ x ∈ p.cs, Nm x
  rm : ∀ x ∈ p.rs, Nm x
  dm : ∀ x ∈ p.fs, Nm x
  cw : ∀ q ∈ p.cells, 0 ≤ q.2 ∧ q.2 < 4294967296
  rw_ : ∀ q ∈ p.rows, 1 ≤ q.2 ∧ q.2 ≤ 8
  db : ∀ q ∈ p.defs, q.2.ok p.cs p.rs p.fs ∧ q.2.nest ≤ 2
  bb : p.body.ok p.cs p.rs p.fs ∧ p.body.nest ≤ 3
  dc : (p.defs.map (·.2.cost)).sum ≤ 14
  bc : p.body.cost ≤ 23
  b1 : 1 ≤ p.body.len
theorem Fr3.fr {k j l : Nat} {S S' S'' : Sto} (h : Fr k j S S') (f : Fr3 k j l S' S'') (hl : S.length ≤ l) : Fr k j S S'' :=
  ⟨Nat.le_trans h.1 f.1, fun i hi a b => by rw [f.2 i (by have := h.1; omega) a b (by omega), h.2 i hi a b]⟩
theorem cut_sub {α : Type} (l : List α) (lo hi : Option Int) : (cut l lo hi).Sublist l := (List.take_sublist _ _).trans (List.drop_sublist _ _)
/-- names cut out -/
theorem nml_cut {ys : List (List Nat)} (h : NmL ys) {zs : List (List Nat)} (s : zs.Sublist ys) : zs.Nodup ∧ ∀ x ∈ zs, Nm x := ⟨h.2.1.sublist s, fun x hx => h.2.2 x (s.subset hx)⟩
theorem slc_own {l : List D} {lo hi : Option Int} {S : Sto} : slcW (.o (.lst l)) lo hi S = some (.o (.lst (cut l lo hi))) := rfl
structure PrN extends BdN where
  iN : Nat
section
variable (N : PrN)
def PrN.zAs5 : Stm := .set (.nm 6) (.dic (.cons (.con (.str [99, 101, 108, 108, 115])) (.cons (.var 3) (.cons (.con (.str [114, 111, 119, 115])) (.cons (.var 4) (.cons (.con (.str [100, 101, 102, 115])) (.cons (.var 5) .nil)))))))
def PrN.zAs6 : Stm := .set (.nm 7) (.lst (.cons (.con (.int 14)) .nil))
def PrN.zAs7 : Stm := .set (.nm 8) (.lst (.nil))
def PrN.zAs9 : Stm := .expr (.bmt .append (.var 8) (.cons (.tup (.cons (.var 9) (.cons (.call N.iB (.cons (.var 0) (.cons (.var 6) (.cons (.var 7) (.cons (.con (.int 1)) .nil))))) .nil))) .nil))
def PrN.zAs8 : Stm := .for (.nm 9) (.seq (.var 5)) (.cons N.zAs9 .nil)
def PrN.zAs10 : Stm := .set (.nm 7) (.lst (.cons (.con (.int 22)) .nil))
def PrN.zAs11 : Stm := .set (.nm 10) (.call N.iB (.cons (.var 0) (.cons (.var 6) (.cons (.var 7) (.cons (.con (.int 0)) .nil)))))
def PrN.zAs13 : Stm := .set (.nm 10) (.tup (.cons (.call N.iS (.cons (.var 0) (.cons (.var 6) (.cons (.var 7) (.cons (.con (.int 0)) .nil))))) .nil))
def PrN.zAs12 : Stm := .ite (.cmp .eq (.blt .len (.cons (.var 10) .nil)) (.con (.int 0))) (.cons N.zAs13 .nil) (.nil)
def PrN.zAs14 : Stm := .set (.nm 11) (.blt .tuple (.cons (.lc [12] (.nm 12) (.seq (.var 3)) .no (.tup (.cons (.var 12) (.cons (.call N.iW (.cons (.var 0) .nil)) .nil)))) .nil))
def PrN.zAs15 : Stm := .ret (.tup (.cons (.var 11) (.cons (.blt .tuple (.cons (.lc [13] (.nm 13) (.seq (.var 4)) .no (.tup (.cons (.var 13) (.cons (.bin .add (.con (.int 1)) (N.dr 8)) .nil)))) .nil)) (.cons (.blt .tuple (.cons (.var 8) .nil)) (.cons (.var 10) .nil)))))
def PrN.zAZ : Sts := .cons PrN.zAs5 (.cons PrN.zAs6 (.cons PrN.zAs7 (.cons N.zAs8 (.cons PrN.zAs10 (.cons N.zAs11 (.cons N.zAs12 (.cons N.zAs14 (.cons N.zAs15 .nil))))))))
end
section
variable {N : PrN} {P : Pg} {k j fu : Nat} {S : Sto}
theorem zA_suf (p : BdP P N.toBdN) (hfu : 64 < fu) {m pn pc pr pd : Nat} {sh : Int} {cs rs fs : List (List Nat)} (hm : 19 ≤ m) {S0 : Sto} (hF : Fr k j S0 S) (hD0 : Dl k j S0) (hD : Dl k j S) (hpc : S0.length ≤ pc) (hpr : S0.length ≤ pr) (hpd : S0.length ≤ pd)
    (ec : S[pc]? = some (.lst (cs.map D.str))) (er : S[pr]? = some (.lst (rs.map D.str))) (ed : S[pd]? = some (.lst (fs.map D.str)))
    (c1 : 1 ≤ cs.length) (c6 : cs.length ≤ 6) (r3 : rs.length ≤ 3) (d3 : fs.length ≤ 3) (cn : cs.Nodup ∧ ∀ x ∈ cs, Nm x) (rn : rs.Nodup ∧ ∀ x ∈ rs, Nm x) (dn : fs.Nodup ∧ ∀ x ∈ fs, Nm x) {Q : W → Sto → Prop}
    (q : ∀ (p : Pr) (S' : Sto), p.ok → Dl k j S' → Fr k j S0 S' → Q (.d p.d) S') :
    Ok (evSs fu (run fu P m) (run fu P m) P.T.ini N.zAZ [some (.ref k), some (.ref pn), some (.int sh), some (.ref pc), some (.ref pr), some (.ref pd), none, none, none, none, none, none, none, none] S) fun o S => match o with
      | .nx _ => Q (.d .non) S
      | .rt w => Q w S
      | _ => False := by
  have hkj0 := hD0.lt
  have hkj := hD.lt
  have hF0 := hF.1
  have hpcS := (List.getElem?_eq_some_iff.mp ec).1
  have hprS := (List.getElem?_eq_some_iff.mp er).1
  have hpdS := (List.getElem?_eq_some_iff.mp ed).1
  unfold PrN.zAZ
  refine ok_cons ?_
  have hdic : dicW [kCells, .ref pc, kRows, .ref pr, kDefs, .ref pd] = some (.o (.dK [(kCells, .ref pc), (kRows, .ref pr), (kDefs, .ref pd)])) := rfl
  unfold kCells kRows kDefs at hdic
  simp only [PrN.zAs5, tst, evE, evWs, evDs, evO, evC, evI, Ok_bind, Ok_ok, Ok_al, al_d, al_o, bind_ok, al_ok_d, al_ok_o, opt_some, testD_bl, List.getElem?_cons_zero, List.getElem?_cons_succ, List.set_cons_zero, List.set_cons_succ, Option.map_some, cmpW, ordW, bltW, binW, intW, addW, evS, Tg.put, if_true, Bool.false_eq_true, if_false, hdic]
  refine ok_cons ?_
  unfold PrN.zAs6
  refine ok_setE ?_
  refine ok_lstE ?_
  simp only [tst, evE, evWs, evDs, evO, evC, evI, Ok_bind, Ok_ok, Ok_al, al_d, al_o, bind_ok, al_ok_d, al_ok_o, opt_some, testD_bl, List.getElem?_cons_zero, List.getElem?_cons_succ, List.set_cons_zero, List.set_cons_succ, Option.map_some, cmpW, ordW, bltW, binW, intW, addW, evS, Tg.put, if_true, Bool.false_eq_true, if_false]
  refine ⟨by simp, ?_⟩
  refine ok_cons ?_
  unfold PrN.zAs7
  refine ok_setE ?_
  refine ok_lstE ?_
  simp only [tst, evE, evWs, evDs, evO, evC, evI, Ok_bind, Ok_ok, Ok_al, al_d, al_o, bind_ok, al_ok_d, al_ok_o, opt_some, testD_bl, List.getElem?_cons_zero, List.getElem?_cons_succ, List.set_cons_zero, List.set_cons_succ, Option.map_some, cmpW, ordW, bltW, binW, intW, addW, evS, Tg.put, if_true, Bool.false_eq_true, if_false]
  refine ⟨by simp, ?_⟩
  have hz : True := trivial
  have l1 : (S ++ [O.dK [(kCells, D.ref pc), (kRows, .ref pr), (kDefs, .ref pd)]]).length = S.length + 1 := by simp
  have l2 : (S ++ [O.dK [(kCells, D.ref pc), (kRows, .ref pr), (kDefs, .ref pd)]] ++ [O.lst [.int 14]]).length = S.length + 2 := by simp
  have ek : (S ++ [O.dK [(kCells, D.ref pc), (kRows, .ref pr), (kDefs, .ref pd)]] ++ [O.lst [.int 14]] ++ [O.lst []])[S.length]? = some (.dK [(kCells, D.ref pc), (kRows, .ref pr), (kDefs, .ref pd)]) := app_keep (app_keep (app_at _ _))
  have el : Lf (S.length + 1) 14 (S ++ [O.dK [(kCells, D.ref pc), (kRows, .ref pr), (kDefs, .ref pd)]] ++ [O.lst [.int 14]] ++ [O.lst []]) := by
    have := app_keep (x := O.lst []) (app_at (S ++ [O.dK [(kCells, D.ref pc), (kRows, .ref pr), (kDefs, .ref pd)]]) (O.lst [.int 14]))
    rwa [l1] at this
  have et : (S ++ [O.dK [(kCells, D.ref pc), (kRows, .ref pr), (kDefs, .ref pd)]] ++ [O.lst [.int 14]] ++ [O.lst []])[S.length + 2]? = some (.lst []) := by
    have := app_at (S ++ [O.dK [(kCells, D.ref pc), (kRows, .ref pr), (kDefs, .ref pd)]] ++ [O.lst [.int 14]]) (O.lst [])
    rwa [l2] at this
  have ec3 := app_keep (x := O.lst []) (app_keep (x := O.lst [.int 14]) (app_keep (x := O.dK [(kCells, D.ref pc), (kRows, .ref pr), (kDefs, .ref pd)]) ec))
  have er3 := app_keep (x := O.lst []) (app_keep (x := O.lst [.int 14]) (app_keep (x := O.dK [(kCells, D.ref pc), (kRows, .ref pr), (kDefs, .ref pd)]) er))
  have ed3 := app_keep (x := O.lst []) (app_keep (x := O.lst [.int 14]) (app_keep (x := O.dK [(kCells, D.ref pc), (kRows, .ref pr), (kDefs, .ref pd)]) ed))
  have hD3 := ((hD.app (O.dK [(kCells, D.ref pc), (kRows, .ref pr), (kDefs, .ref pd)])).app (O.lst [.int 14])).app (O.lst [])
  have hF3 : Fr k j S0 (S ++ [O.dK [(kCells, D.ref pc), (kRows, .ref pr), (kDefs, .ref pd)]] ++ [O.lst [.int 14]] ++ [O.lst []]) := ((hF.trans (Fr.app _)).trans (Fr.app _)).trans (Fr.app _)
  show Ok (evSs _ _ _ _ _ [_, _, _, _, _, _, some (.ref S.length), some (.ref (S ++ [O.dK [(kCells, D.ref pc), (kRows, .ref pr), (kDefs, .ref pd)]]).length), some (.ref (S ++ [O.dK [(kCells, D.ref pc), (kRows, .ref pr), (kDefs, .ref pd)]] ++ [O.lst [.int 14]]).length), none, none, none, none, none] (S ++ [O.dK [(kCells, D.ref pc), (kRows, .ref pr), (kDefs, .ref pd)]] ++ [O.lst [.int 14]] ++ [O.lst []])) _
  rw [l1, l2]
  have l3 : (S ++ [O.dK [(kCells, D.ref pc), (kRows, .ref pr), (kDefs, .ref pd)]] ++ [O.lst [.int 14]] ++ [O.lst []]).length = S.length + 3 := by simp
  generalize (S ++ [O.dK [(kCells, D.ref pc), (kRows, .ref pr), (kDefs, .ref pd)]] ++ [O.lst [.int 14]] ++ [O.lst []] : Sto) = S3 at ek el et ec3 er3 ed3 hD3 hF3 l3 ⊢
  have hsc : ∀ (l : Nat) (S' : Sto), S.length < l → S'[S.length]? = some (.dK [(kCells, D.ref pc), (kRows, .ref pr), (kDefs, .ref pd)]) → S'[pc]? = some (.lst (cs.map D.str)) → S'[pr]? = some (.lst (rs.map D.str)) → S'[pd]? = some (.lst (fs.map D.str)) → Sc k j l ⟨S.length, pc, pr, pd, cs, rs, fs⟩ S' := fun l S' hl a b c d =>
    { e := a, ec := b, er := c, ed := d, nk := by first | omega | (dsimp only; omega), nj := by first | omega | (dsimp only; omega), nl := by first | omega | (dsimp only; omega), lk := by omega, hc := by first | omega | (dsimp only; omega) }
  have hs3 := hsc (S.length + 1) S3 (by omega) ek ec3 er3 ed3
  -- the defs
  refine ok_cons ?_
  unfold PrN.zAs8
  rw [evS, Ok_bind]
  simp only [tst, evE, evWs, evDs, evO, evC, evI, Ok_bind, Ok_ok, Ok_al, al_d, al_o, bind_ok, al_ok_d, al_ok_o, opt_some, testD_bl, List.getElem?_cons_zero, List.getElem?_cons_succ, List.set_cons_zero, List.set_cons_succ, Option.map_some, cmpW, ordW, bltW, binW, intW, addW, evS, Tg.put, if_true, Bool.false_eq_true, if_false, wk_ref ed3]
  refine ok_for (fun l ρ S' => ∃ (ds : List (List Nat × Bd)) (v : Int) (x : Option D), ρ = [some (.ref k), some (.ref pn), some (.int sh), some (.ref pc), some (.ref pr), some (.ref pd), some (.ref S.length), some (.ref (S.length + 1)), some (.ref (S.length + 2)), x, none, none, none, none] ∧
      l = (fs.map D.str).drop ds.length ∧ ds.length ≤ fs.length ∧ ds.map (·.1) = fs.take ds.length ∧ (∀ q ∈ ds, q.2.ok cs rs fs ∧ q.2.nest ≤ 2) ∧ 0 ≤ v ∧ v + ((ds.map (·.2.cost)).sum : Nat) ≤ 14 ∧ Lf (S.length + 1) v S' ∧ S'[S.length + 2]? = some (.lst (ds.map defD)) ∧ Dl k j S' ∧ Sc k j (S.length + 1) ⟨S.length, pc, pr, pd, cs, rs, fs⟩ S' ∧ Fr k j S0 S' ∧ S.length + 3 ≤ S'.length) (fun l ρ S' h => ?_) ?_ ?_ _ _ _
    ⟨[], 14, none, rfl, rfl, by simp, rfl, by simp, by decide, by simp, el, et, hD3, hs3, hF3, by omega⟩
  · obtain ⟨ds, v, x, -, -, -, -, -, -, -, -, -, -, hs', -⟩ := h
    exact stays_ref hs'.ed
  · rintro y l ρ S' ⟨ds, v, x, rfl, hl', hdl, hds, hdk, hv, hvs, hlf, he, hD', hs', hF', hL'⟩
    obtain ⟨g1, g2, g3⟩ := drop_inv hl'.symm
    rw [List.length_map] at g3
    rw [List.getElem?_map, Option.map_eq_some_iff] at g1
    obtain ⟨f, g1, rfl⟩ := g1
    unfold forF
    simp only [Tg.put, List.set_cons_succ, List.set_cons_zero]
    refine ok_one ?_
    unfold PrN.zAs9
    rw [evS, Ok_bind, evE]
    simp only [tst, evE, evWs, evDs, evO, evC, evI, Ok_bind, Ok_ok, Ok_al, al_d, al_o, bind_ok, al_ok_d, al_ok_o, opt_some, testD_bl, List.getElem?_cons_zero, List.getElem?_cons_succ, List.set_cons_zero, List.set_cons_succ, Option.map_some, cmpW, ordW, bltW, binW, intW, addW, evS, Tg.put, if_true, Bool.false_eq_true, if_false, Bmt.kd, kd_ref he, Bmt.keeps]
    refine (bld_ok p hfu 2 1 rfl).1 m v S' _ (by omega) hv hD' hs' hlf fun b S4 v4 hb hbn hbl _ hv4 hv4' hl4 hD4 hF4 => ?_
    have e4 := hF4.at_ he (by omega) (by omega) (by omega)
    simp only [tst, evE, evWs, evDs, evO, evC, evI, Ok_bind, Ok_ok, Ok_al, al_d, al_o, bind_ok, al_ok_d, al_ok_o, opt_some, testD_bl, List.getElem?_cons_zero, List.getElem?_cons_succ, List.set_cons_zero, List.set_cons_succ, Option.map_some, cmpW, ordW, bltW, binW, intW, addW, evS, Tg.put, if_true, Bool.false_eq_true, if_false, List.length_cons, List.length_nil]
    rw [if_pos (by decide)]
    simp only [tst, evE, evWs, evDs, evO, evC, evI, Ok_bind, Ok_ok, Ok_al, al_d, al_o, bind_ok, al_ok_d, al_ok_o, opt_some, testD_bl, List.getElem?_cons_zero, List.getElem?_cons_succ, List.set_cons_zero, List.set_cons_succ, Option.map_some, cmpW, ordW, bltW, binW, intW, addW, evS, Tg.put, if_true, Bool.false_eq_true, if_false]
    rw [append_ref e4 (by rw [List.length_map]; simp only [LINE]; omega)]
    simp only [tst, evE, evWs, evDs, evO, evC, evI, Ok_bind, Ok_ok, Ok_al, al_d, al_o, bind_ok, al_ok_d, al_ok_o, opt_some, testD_bl, List.getElem?_cons_zero, List.getElem?_cons_succ, List.set_cons_zero, List.set_cons_succ, Option.map_some, cmpW, ordW, bltW, binW, intW, addW, evS, Tg.put, if_true, Bool.false_eq_true, if_false]
    have hs4 := hs'.fr3 hF4
    have hF4' := Fr3.fr hF' hF4 (by omega)
    have hF5 : Fr k j S0 (S4.set (S.length + 2) (.lst (ds.map defD ++ [.tup [.str f, .tup b.ds]]))) := hF4'.set_new (by omega)
    refine ⟨ds ++ [(f, b)], v4, _, rfl, by rw [List.length_append]; exact g2, by rw [List.length_append, List.length_singleton]; omega, ?_, fun q hq => ?_, hv4, ?_, ?_, ?_, hD4.set_ne (by omega) (by omega), ?_, hF5, by rw [List.length_set]; have := hF4.1; omega⟩
    · rw [List.map_append, hds, List.length_append, List.length_singleton, List.take_add_one, g1]
      rfl
    · rcases List.mem_append.mp hq with hq | hq
      · exact hdk q hq
      · rw [List.mem_singleton.mp hq]
        exact ⟨hb, hbn⟩
    · rw [List.map_append, List.sum_append]
      simp only [List.map_cons, List.map_nil, List.sum_cons, List.sum_nil]
      omega
    · show (S4.set _ _)[S.length + 1]? = _
      rw [List.getElem?_set_ne (by omega)]
      exact hl4
    · rw [set_at e4, List.map_append]
      rfl
    · refine hsc _ _ (by omega) ?_ ?_ ?_ ?_
      · rw [List.getElem?_set_ne (by omega)]; exact hs4.e
      · rw [List.getElem?_set_ne (by omega)]; exact hs4.ec
      · rw [List.getElem?_set_ne (by omega)]; exact hs4.er
      · rw [List.getElem?_set_ne (by omega)]; exact hs4.ed
  rintro ρ S4 ⟨ds, v, x, rfl, hl', hdl, hds, hdk, hv, hvs, hlf, et4, hD4, hs4, hF4, hL4⟩
  have hdl : ds.length = fs.length := by
    have := congrArg List.length hl'
    rw [List.length_drop, List.length_map, List.length_nil] at this
    omega
  rw [hdl, List.take_of_length_le (Nat.le_refl _)] at hds
  dsimp only
  refine ok_cons ?_
  unfold PrN.zAs10
  refine ok_setE ?_
  refine ok_lstE ?_
  simp only [tst, evE, evWs, evDs, evO, evC, evI, Ok_bind, Ok_ok, Ok_al, al_d, al_o, bind_ok, al_ok_d, al_ok_o, opt_some, testD_bl, List.getElem?_cons_zero, List.getElem?_cons_succ, List.set_cons_zero, List.set_cons_succ, Option.map_some, cmpW, ordW, bltW, binW, intW, addW, evS, Tg.put, if_true, Bool.false_eq_true, if_false]
  refine ⟨by simp, ?_⟩
  have hl5 : Lf S4.length 22 (S4 ++ [O.lst [.int 22]]) := app_at _ _
  have hs5 := hsc S4.length (S4 ++ [O.lst [.int 22]]) (by omega) (app_keep hs4.e) (app_keep hs4.ec) (app_keep hs4.er) (app_keep hs4.ed)
  have et5 := app_keep (x := O.lst [.int 22]) et4
  have hD5 := hD4.app (O.lst [.int 22])
  have hF5 := hF4.trans (Fr.app (k := k) (j := j) (O.lst [.int 22]))
  have hS04 := hF4.1
  generalize S4 ++ [O.lst [.int 22]] = S5 at hl5 hs5 et5 hD5 hF5 ⊢
  have hz2 : True := trivial
  refine ok_cons ?_
  unfold PrN.zAs11
  refine ok_setE ?_
  simp only [tst, evE, evWs, evDs, evO, evC, evI, Ok_bind, Ok_ok, Ok_al, al_d, al_o, bind_ok, al_ok_d, al_ok_o, opt_some, testD_bl, List.getElem?_cons_zero, List.getElem?_cons_succ, List.set_cons_zero, List.set_cons_succ, Option.map_some, cmpW, ordW, bltW, binW, intW, addW, evS, Tg.put, if_true, Bool.false_eq_true, if_false]
  refine (bld_ok p hfu 3 0 rfl).1 m 22 S5 _ (by omega) (by decide) hD5 hs5 hl5 fun b S6 v6 hb hbn hbl hz6 hv6 hv6' hl6 hD6 hF6 => ?_
  have hs6 := hs5.fr3 hF6
  have et6 := hF6.at_ et5 (by omega) (by omega) (by omega)
  have hF6' := Fr3.fr hF5 hF6 (by omega)
  (try simp only [tst, evE, evWs, evDs, evO, evC, evI, Ok_bind, Ok_ok, Ok_al, al_d, al_o, bind_ok, al_ok_d, al_ok_o, opt_some, testD_bl, List.getElem?_cons_zero, List.getElem?_cons_succ, List.set_cons_zero, List.set_cons_succ, Option.map_some, cmpW, ordW, bltW, binW, intW, addW, evS, Tg.put, if_true, Bool.false_eq_true, if_false])
  -- the rest
  have rest : ∀ (b : Bd) (S' : Sto), b.ok cs rs fs → b.nest ≤ 3 → b.cost ≤ 23 → 1 ≤ b.len → Dl k j S' → Fr k j S0 S' → Sc k j S4.length ⟨S.length, pc, pr, pd, cs, rs, fs⟩ S' → S'[S.length + 2]? = some (.lst (ds.map defD)) →
      Ok (evSs fu (run fu P m) (run fu P m) P.T.ini (.cons N.zAs14 (.cons N.zAs15 .nil)) [some (.ref k), some (.ref pn), some (.int sh), some (.ref pc), some (.ref pr), some (.ref pd), some (.ref S.length), some (.ref S4.length), some (.ref (S.length + 2)), x, some (.tup b.ds), none, none, none] S') fun o S => match o with
      | .nx _ => Q (.d .non) S
      | .rt w => Q w S
      | _ => False := by
    intro b S7 hb hbn hbc hb1 hD7 hF7 hs7 et7
    refine ok_cons ?_
    unfold PrN.zAs14
    refine ok_setE ?_
    rw [evE, Ok_bind, evWs, Ok_bind]
    refine ok_lcE ?_
    simp only [tst, evE, evWs, evDs, evO, evC, evI, Ok_bind, Ok_ok, Ok_al, al_d, al_o, bind_ok, al_ok_d, al_ok_o, opt_some, testD_bl, List.getElem?_cons_zero, List.getElem?_cons_succ, List.set_cons_zero, List.set_cons_succ, Option.map_some, cmpW, ordW, bltW, binW, intW, addW, evS, Tg.put, if_true, Bool.false_eq_true, if_false, wk_ref hs7.ec]
    obtain ⟨m, rfl⟩ : ∃ m', m = m' + 2 := ⟨m - 2, by omega⟩
    have lc1 : ∀ (Q : W → Sto → Prop), (∀ (ws : List (List Nat × Int)) (S' : Sto), ws.map (·.1) = cs → (∀ q ∈ ws, 0 ≤ q.2 ∧ q.2 < 4294967296) → Dl k j S' → Fr k j S7 S' → Q (.o (.lst (ws.map pairD))) S') → ∀ f, (∀ x (S' : Sto), Dl k j S' → ∀ Q', (∀ (w : Int) (S'' : Sto), 0 ≤ w → w < 4294967296 → Dl k j S'' → Fr k j S' S'' → Q' (some (pairD (x, w))) S'') → Ok (f (.str x) S') Q') → Ok (lcGo ⟨cs.map D.str, [(pc, cs.map D.str)]⟩ f (cs.map D.str) [] S7) Q := by
      intro Q q f hf
      refine ok_lc (fun l acc S' => ∃ ws : List (List Nat × Int), acc = ws.map pairD ∧ l = (cs.map D.str).drop ws.length ∧ ws.length ≤ cs.length ∧ ws.map (·.1) = cs.take ws.length ∧ (∀ q ∈ ws, 0 ≤ q.2 ∧ q.2 < 4294967296) ∧ Dl k j S' ∧ Fr k j S7 S') (fun l acc S' h => ?_) ?_ ?_ _ _ _ ⟨[], rfl, rfl, by simp, rfl, by simp, hD7, Fr.refl⟩
      · obtain ⟨ws, -, -, -, -, -, hD', hF'⟩ := h
        exact stays_ref (hF'.at_ hs7.ec (by first | omega | (dsimp only; omega)) (by first | omega | (dsimp only; omega)))
      · rintro y l acc S' ⟨ws, rfl, hl', hwl, hw, hww, hD', hF'⟩
        obtain ⟨g1, g2, g3⟩ := drop_inv hl'.symm
        rw [List.length_map] at g3
        rw [List.getElem?_map, Option.map_eq_some_iff] at g1
        obtain ⟨f', g1, rfl⟩ := g1
        refine hf f' S' hD' _ fun w S'' w0 w1 hD'' hF'' => ?_
        refine ⟨by rw [List.length_map]; simp only [LINE]; omega, ws ++ [(f', w)], by rw [List.map_append]; rfl, by rw [List.length_append]; exact g2, by rw [List.length_append, List.length_singleton]; omega, ?_, fun q hq => ?_, hD'', hF'.trans hF''⟩
        · rw [List.map_append, hw, List.length_append, List.length_singleton, List.take_add_one, g1]
          rfl
        · rcases List.mem_append.mp hq with hq | hq
          · exact hww q hq
          · rw [List.mem_singleton.mp hq]
            exact ⟨w0, w1⟩
      · rintro acc S' ⟨ws, rfl, hl', hwl, hw, hww, hD', hF'⟩
        have hwl : ws.length = cs.length := by
          have := congrArg List.length hl'
          rw [List.length_drop, List.length_map, List.length_nil] at this
          omega
        rw [hwl, List.take_of_length_le (Nat.le_refl _)] at hw
        exact q ws S' hw hww hD' hF'
    refine lc1 _ (fun ws S8 hws hww hD8 hF8 => ?_) _ (fun x S' hD' Q' q' => ?_)
    · have hs8 := hs7.fr hF8
      have et8 := hF8.at_ et7 (by omega) (by omega)
      simp only [tst, evE, evWs, evDs, evO, evC, evI, Ok_bind, Ok_ok, Ok_al, al_d, al_o, bind_ok, al_ok_d, al_ok_o, opt_some, testD_bl, List.getElem?_cons_zero, List.getElem?_cons_succ, List.set_cons_zero, List.set_cons_succ, Option.map_some, cmpW, ordW, bltW, binW, intW, addW, evS, Tg.put, if_true, Bool.false_eq_true, if_false, tupOf, lstOf]
      refine ok_one ?_
      unfold PrN.zAs15
      refine ok_retE ?_
      refine ok_tupE ?_
      refine ok_dcons ?_
      simp only [tst, evE, evWs, evDs, evO, evC, evI, Ok_bind, Ok_ok, Ok_al, al_d, al_o, bind_ok, al_ok_d, al_ok_o, opt_some, testD_bl, List.getElem?_cons_zero, List.getElem?_cons_succ, List.set_cons_zero, List.set_cons_succ, Option.map_some, cmpW, ordW, bltW, binW, intW, addW, evS, Tg.put, if_true, Bool.false_eq_true, if_false, wk_ref hs8.er]
      refine ok_lc (fun l acc S' => ∃ rw_ : List (List Nat × Int), acc = rw_.map pairD ∧ l = (rs.map D.str).drop rw_.length ∧ rw_.length ≤ rs.length ∧ rw_.map (·.1) = rs.take rw_.length ∧ (∀ q ∈ rw_, 1 ≤ q.2 ∧ q.2 ≤ 8) ∧ Dl k j S' ∧ Fr k j S8 S') (fun l acc S' h => ?_) ?_ ?_ _ _ _ ⟨[], rfl, rfl, by simp, rfl, by simp, hD8, Fr.refl⟩
      · obtain ⟨ws, -, -, -, -, -, hD', hF'⟩ := h
        exact stays_ref (hF'.at_ hs8.er (by first | omega | (dsimp only; omega)) (by first | omega | (dsimp only; omega)))
      · rintro y l acc S' ⟨rw_, rfl, hl', hwl, hw, hww', hD', hF'⟩
        obtain ⟨g1, g2, g3⟩ := drop_inv hl'.symm
        rw [List.length_map] at g3
        rw [List.getElem?_map, Option.map_eq_some_iff] at g1
        obtain ⟨f', g1, rfl⟩ := g1
        simp only [tst, evE, evWs, evDs, evO, evC, evI, Ok_bind, Ok_ok, Ok_al, al_d, al_o, bind_ok, al_ok_d, al_ok_o, opt_some, testD_bl, List.getElem?_cons_zero, List.getElem?_cons_succ, List.set_cons_zero, List.set_cons_succ, Option.map_some, cmpW, ordW, bltW, binW, intW, addW, evS, Tg.put, if_true, Bool.false_eq_true, if_false, Ok_nox, wipeE]
        refine bdrE p.toTmP hfu rfl hD' (by decide) (by decide) fun w S'' w0 w1 hD'' hF'' => ?_
        simp only [tst, evE, evWs, evDs, evO, evC, evI, Ok_bind, Ok_ok, Ok_al, al_d, al_o, bind_ok, al_ok_d, al_ok_o, opt_some, testD_bl, List.getElem?_cons_zero, List.getElem?_cons_succ, List.set_cons_zero, List.set_cons_succ, Option.map_some, cmpW, ordW, bltW, binW, intW, addW, evS, Tg.put, if_true, Bool.false_eq_true, if_false, List.length_cons, List.length_nil]
        rw [if_pos (by decide)]
        simp only [tst, evE, evWs, evDs, evO, evC, evI, Ok_bind, Ok_ok, Ok_al, al_d, al_o, bind_ok, al_ok_d, al_ok_o, opt_some, testD_bl, List.getElem?_cons_zero, List.getElem?_cons_succ, List.set_cons_zero, List.set_cons_succ, Option.map_some, cmpW, ordW, bltW, binW, intW, addW, evS, Tg.put, if_true, Bool.false_eq_true, if_false]
        refine ⟨by rw [List.length_map]; simp only [LINE]; omega, rw_ ++ [(f', 1 + w)], by rw [List.map_append]; rfl, by rw [List.length_append]; exact g2, by rw [List.length_append, List.length_singleton]; omega, ?_, fun q hq => ?_, hD'', hF'.trans hF''⟩
        · rw [List.map_append, hw, List.length_append, List.length_singleton, List.take_add_one, g1]
          rfl
        · rcases List.mem_append.mp hq with hq | hq
          · exact hww' q hq
          · rw [List.mem_singleton.mp hq]
            exact ⟨by first | omega | (dsimp only; omega), by first | omega | (dsimp only; omega)⟩
      · rintro acc S9 ⟨rw_, rfl, hl', hwl, hw, hwr, hD9, hF9⟩
        have hwl : rw_.length = rs.length := by
          have := congrArg List.length hl'
          rw [List.length_drop, List.length_map, List.length_nil] at this
          omega
        rw [hwl, List.take_of_length_le (Nat.le_refl _)] at hw
        have et9 := hF9.at_ et8 (by omega) (by omega)
        simp only [tst, evE, evWs, evDs, evO, evC, evI, Ok_bind, Ok_ok, Ok_al, al_d, al_o, bind_ok, al_ok_d, al_ok_o, opt_some, testD_bl, List.getElem?_cons_zero, List.getElem?_cons_succ, List.set_cons_zero, List.set_cons_succ, Option.map_some, cmpW, ordW, bltW, binW, intW, addW, evS, Tg.put, if_true, Bool.false_eq_true, if_false, tupOf, lstOf, et9]
        refine ⟨by simp, ?_⟩
        have e1 : (⟨ws, rw_, ds, b⟩ : Pr).cs = cs := hws
        have e2 : (⟨ws, rw_, ds, b⟩ : Pr).rs = rs := hw
        have e3 : (⟨ws, rw_, ds, b⟩ : Pr).fs = fs := hds
        have hwsl : ws.length = cs.length := by rw [← hws, List.length_map]
        refine q ⟨ws, rw_, ds, b⟩ S9 { c1 := by first | omega | (dsimp only; omega), c6 := by first | omega | (dsimp only; omega), r3 := by first | omega | (dsimp only; omega), d3 := by first | omega | (dsimp only; omega), cn := e1 ▸ cn.1, rn := e2 ▸ rn.1, dn := e3 ▸ dn.1, cm := e1 ▸ cn.2, rm := e2 ▸ rn.2, dm := e3 ▸ dn.2, cw := hww, rw_ := hwr, db := by rw [e1, e2, e3]; exact hdk, bb := by rw [e1, e2, e3]; exact ⟨hb, hbn⟩, dc := by first | omega | (dsimp only; omega), bc := hbc, b1 := hb1 } hD9 ((hF7.trans hF8).trans hF9)
    · simp only [tst, evE, evWs, evDs, evO, evC, evI, Ok_bind, Ok_ok, Ok_al, al_d, al_o, bind_ok, al_ok_d, al_ok_o, opt_some, testD_bl, List.getElem?_cons_zero, List.getElem?_cons_succ, List.set_cons_zero, List.set_cons_succ, Option.map_some, cmpW, ordW, bltW, binW, intW, addW, evS, Tg.put, if_true, Bool.false_eq_true, if_false, Ok_nox, wipeE]
      refine bword p.toTmP hfu hD' fun w S'' w0 w1 hD'' hF'' => ?_
      simp only [tst, evE, evWs, evDs, evO, evC, evI, Ok_bind, Ok_ok, Ok_al, al_d, al_o, bind_ok, al_ok_d, al_ok_o, opt_some, testD_bl, List.getElem?_cons_zero, List.getElem?_cons_succ, List.set_cons_zero, List.set_cons_succ, Option.map_some, cmpW, ordW, bltW, binW, intW, addW, evS, Tg.put, if_true, Bool.false_eq_true, if_false, List.length_cons, List.length_nil]
      rw [if_pos (by decide)]
      simp only [tst, evE, evWs, evDs, evO, evC, evI, Ok_bind, Ok_ok, Ok_al, al_d, al_o, bind_ok, al_ok_d, al_ok_o, opt_some, testD_bl, List.getElem?_cons_zero, List.getElem?_cons_succ, List.set_cons_zero, List.set_cons_succ, Option.map_some, cmpW, ordW, bltW, binW, intW, addW, evS, Tg.put, if_true, Bool.false_eq_true, if_false]
      exact q' w S'' w0 w1 hD'' hF''
  refine ok_cons ?_
  have hlb : lenW (.d (.tup b.ds)) S6 = some b.len := by
    show some b.ds.length = _
    rw [Bd.ds_len]
  simp only [PrN.zAs12, tst, evE, evWs, evDs, evO, evC, evI, Ok_bind, Ok_ok, Ok_al, al_d, al_o, bind_ok, al_ok_d, al_ok_o, opt_some, testD_bl, List.getElem?_cons_zero, List.getElem?_cons_succ, List.set_cons_zero, List.set_cons_succ, Option.map_some, cmpW, ordW, bltW, binW, intW, addW, evS, Tg.put, if_true, Bool.false_eq_true, if_false, hlb]
  rw [eqW_scal rfl]
  simp only [tst, evE, evWs, evDs, evO, evC, evI, Ok_bind, Ok_ok, Ok_al, al_d, al_o, bind_ok, al_ok_d, al_ok_o, opt_some, testD_bl, List.getElem?_cons_zero, List.getElem?_cons_succ, List.set_cons_zero, List.set_cons_succ, Option.map_some, cmpW, ordW, bltW, binW, intW, addW, evS, Tg.put, if_true, Bool.false_eq_true, if_false]
  by_cases h0 : b.len = 0
  · rw [h0]
    simp only [show decide (D.int ((0 : Nat) : Int) = .int 0) = true from rfl, tst, evE, evWs, evDs, evO, evC, evI, Ok_bind, Ok_ok, Ok_al, al_d, al_o, bind_ok, al_ok_d, al_ok_o, opt_some, testD_bl, List.getElem?_cons_zero, List.getElem?_cons_succ, List.set_cons_zero, List.set_cons_succ, Option.map_some, cmpW, ordW, bltW, binW, intW, addW, evS, Tg.put, if_true, Bool.false_eq_true, if_false]
    refine ok_one ?_
    unfold PrN.zAs13
    refine ok_setE ?_
    refine ok_tupE ?_
    refine ok_dcons ?_
    simp only [tst, evE, evWs, evDs, evO, evC, evI, Ok_bind, Ok_ok, Ok_al, al_d, al_o, bind_ok, al_ok_d, al_ok_o, opt_some, testD_bl, List.getElem?_cons_zero, List.getElem?_cons_succ, List.set_cons_zero, List.set_cons_succ, Option.map_some, cmpW, ordW, bltW, binW, intW, addW, evS, Tg.put, if_true, Bool.false_eq_true, if_false]
    have hb0 : b = .nil := by
      cases b with
      | nil => rfl
      | cons s r => simp only [Bd.len] at h0; omega
    subst hb0
    have hv22 : v6 ≤ 22 := by simp only [Bd.cost] at hv6'; omega
    have h22 : v6 = 22 := hz6 rfl
    refine (bld_ok p hfu 3 0 rfl).2 m v6 S6 _ (by omega) (by omega) hD6 hs6 hl6 fun s S7 v7 hs hsn hv7 hv7' hl7 hD7 hF7 => ?_
    simp only [tst, evE, evWs, evDs, evO, evC, evI, Ok_bind, Ok_ok, Ok_al, al_d, al_o, bind_ok, al_ok_d, al_ok_o, opt_some, testD_bl, List.getElem?_cons_zero, List.getElem?_cons_succ, List.set_cons_zero, List.set_cons_succ, Option.map_some, cmpW, ordW, bltW, binW, intW, addW, evS, Tg.put, if_true, Bool.false_eq_true, if_false]
    refine ⟨by simp, ?_⟩
    exact rest (.one s) S7 ⟨hs, trivial⟩ (by simp only [Bd.nest]; omega) (by simp only [Bd.cost]; omega) (by simp [Bd.len]) hD7 (Fr3.fr hF6' hF7 (by omega)) (hs6.fr3 hF7) (hF7.at_ et6 (by omega) (by omega) (by omega))
  · simp only [show decide (D.int ((b.len : Nat) : Int) = .int 0) = false from decide_eq_false fun e => h0 (by injection e; omega), tst, evE, evWs, evDs, evO, evC, evI, Ok_bind, Ok_ok, Ok_al, al_d, al_o, bind_ok, al_ok_d, al_ok_o, opt_some, testD_bl, List.getElem?_cons_zero, List.getElem?_cons_succ, List.set_cons_zero, List.set_cons_succ, Option.map_some, cmpW, ordW, bltW, binW, intW, addW, evS, Tg.put, if_true, Bool.false_eq_true, if_false]
    refine ok_nil ?_
    exact rest b S6 hb hbn (by omega) (by omega) hD6 hF6' hs6 et6
end
section
variable (N : PrN)
def PrN.zBs5 : Stm := .set (.nm 5) (.dic (.cons (.con (.str [99, 101, 108, 108, 115])) (.cons (.var 2) (.cons (.con (.str [114, 111, 119, 115])) (.cons (.var 3) (.cons (.con (.str [100, 101, 102, 115])) (.cons (.var 4) .nil)))))))
def PrN.zBs6 : Stm := .set (.nm 6) (.lst (.cons (.con (.int 14)) .nil))
def PrN.zBs7 : Stm := .set (.nm 7) (.lst (.nil))
def PrN.zBs9 : Stm := .expr (.bmt .append (.var 7) (.cons (.tup (.cons (.var 8) (.cons (.call N.iB (.cons (.var 0) (.cons (.var 5) (.cons (.var 6) (.cons (.con (.int 1)) .nil))))) .nil))) .nil))
def PrN.zBs8 : Stm := .for (.nm 8) (.seq (.var 4)) (.cons N.zBs9 .nil)
def PrN.zBs10 : Stm := .set (.nm 6) (.lst (.cons (.con (.int 22)) .nil))
def PrN.zBs11 : Stm := .set (.nm 9) (.call N.iB (.cons (.var 0) (.cons (.var 5) (.cons (.var 6) (.cons (.con (.int 0)) .nil)))))
def PrN.zBs13 : Stm := .set (.nm 9) (.tup (.cons (.call N.iS (.cons (.var 0) (.cons (.var 5) (.cons (.var 6) (.cons (.con (.int 0)) .nil))))) .nil))
def PrN.zBs12 : Stm := .ite (.cmp .eq (.blt .len (.cons (.var 9) .nil)) (.con (.int 0))) (.cons N.zBs13 .nil) (.nil)
def PrN.zBs14 : Stm := .set (.nm 10) (.blt .tuple (.cons (.lc [11] (.nm 11) (.seq (.var 2)) .no (.tup (.cons (.var 11) (.cons (.call N.iW (.cons (.var 0) .nil)) .nil)))) .nil))
def PrN.zBs15 : Stm := .ret (.tup (.cons (.var 10) (.cons (.blt .tuple (.cons (.lc [12] (.nm 12) (.seq (.var 3)) .no (.tup (.cons (.var 12) (.cons (.bin .add (.con (.int 1)) (N.dr 8)) .nil)))) .nil)) (.cons (.blt .tuple (.cons (.var 7) .nil)) (.cons (.var 9) .nil)))))
def PrN.zBZ : Sts := .cons PrN.zBs5 (.cons PrN.zBs6 (.cons PrN.zBs7 (.cons N.zBs8 (.cons PrN.zBs10 (.cons N.zBs11 (.cons N.zBs12 (.cons N.zBs14 (.cons N.zBs15 .nil))))))))
end
section
variable {N : PrN} {P : Pg} {k j fu : Nat} {S : Sto}
theorem zB_suf (p : BdP P N.toBdN) (hfu : 64 < fu) {m pn pc pr pd : Nat} {sh : Int} {cs rs fs : List (List Nat)} (hm : 19 ≤ m) {S0 : Sto} (hF : Fr k j S0 S) (hD0 : Dl k j S0) (hD : Dl k j S) (hpc : S0.length ≤ pc) (hpr : S0.length ≤ pr) (hpd : S0.length ≤ pd)
    (ec : S[pc]? = some (.lst (cs.map D.str))) (er : S[pr]? = some (.lst (rs.map D.str))) (ed : S[pd]? = some (.lst (fs.map D.str)))
    (c1 : 1 ≤ cs.length) (c6 : cs.length ≤ 6) (r3 : rs.length ≤ 3) (d3 : fs.length ≤ 3) (cn : cs.Nodup ∧ ∀ x ∈ cs, Nm x) (rn : rs.Nodup ∧ ∀ x ∈ rs, Nm x) (dn : fs.Nodup ∧ ∀ x ∈ fs, Nm x) {Q : W → Sto → Prop}
    (q : ∀ (p : Pr) (S' : Sto), p.ok → Dl k j S' → Fr k j S0 S' → Q (.d p.d) S') :
    Ok (evSs fu (run fu P m) (run fu P m) P.T.ini N.zBZ [some (.ref k), some (.ref pn), some (.ref pc), some (.ref pr), some (.ref pd), none, none, none, none, none, none, none, none] S) fun o S => match o with
      | .nx _ => Q (.d .non) S
      | .rt w => Q w S
      | _ => False := by
  have hkj0 := hD0.lt
  have hkj := hD.lt
  have hF0 := hF.1
  have hpcS := (List.getElem?_eq_some_iff.mp ec).1
  have hprS := (List.getElem?_eq_some_iff.mp er).1
  have hpdS := (List.getElem?_eq_some_iff.mp ed).1
  unfold PrN.zBZ
  refine ok_cons ?_
  have hdic : dicW [kCells, .ref pc, kRows, .ref pr, kDefs, .ref pd] = some (.o (.dK [(kCells, .ref pc), (kRows, .ref pr), (kDefs, .ref pd)])) := rfl
  unfold kCells kRows kDefs at hdic
  simp only [PrN.zBs5, tst, evE, evWs, evDs, evO, evC, evI, Ok_bind, Ok_ok, Ok_al, al_d, al_o, bind_ok, al_ok_d, al_ok_o, opt_some, testD_bl, List.getElem?_cons_zero, List.getElem?_cons_succ, List.set_cons_zero, List.set_cons_succ, Option.map_some, cmpW, ordW, bltW, binW, intW, addW, evS, Tg.put, if_true, Bool.false_eq_true, if_false, hdic]
  refine ok_cons ?_
  unfold PrN.zBs6
  refine ok_setE ?_
  refine ok_lstE ?_
  simp only [tst, evE, evWs, evDs, evO, evC, evI, Ok_bind, Ok_ok, Ok_al, al_d, al_o, bind_ok, al_ok_d, al_ok_o, opt_some, testD_bl, List.getElem?_cons_zero, List.getElem?_cons_succ, List.set_cons_zero, List.set_cons_succ, Option.map_some, cmpW, ordW, bltW, binW, intW, addW, evS, Tg.put, if_true, Bool.false_eq_true, if_false]
  refine ⟨by simp, ?_⟩
  refine ok_cons ?_
  unfold PrN.zBs7
  refine ok_setE ?_
  refine ok_lstE ?_
  simp only [tst, evE, evWs, evDs, evO, evC, evI, Ok_bind, Ok_ok, Ok_al, al_d, al_o, bind_ok, al_ok_d, al_ok_o, opt_some, testD_bl, List.getElem?_cons_zero, List.getElem?_cons_succ, List.set_cons_zero, List.set_cons_succ, Option.map_some, cmpW, ordW, bltW, binW, intW, addW, evS, Tg.put, if_true, Bool.false_eq_true, if_false]
  refine ⟨by simp, ?_⟩
  have hz : True := trivial
  have l1 : (S ++ [O.dK [(kCells, D.ref pc), (kRows, .ref pr), (kDefs, .ref pd)]]).length = S.length + 1 := by simp
  have l2 : (S ++ [O.dK [(kCells, D.ref pc), (kRows, .ref pr), (kDefs, .ref pd)]] ++ [O.lst [.int 14]]).length = S.length + 2 := by simp
  have ek : (S ++ [O.dK [(kCells, D.ref pc), (kRows, .ref pr), (kDefs, .ref pd)]] ++ [O.lst [.int 14]] ++ [O.lst []])[S.length]? = some (.dK [(kCells, D.ref pc), (kRows, .ref pr), (kDefs, .ref pd)]) := app_keep (app_keep (app_at _ _))
  have el : Lf (S.length + 1) 14 (S ++ [O.dK [(kCells, D.ref pc), (kRows, .ref pr), (kDefs, .ref pd)]] ++ [O.lst [.int 14]] ++ [O.lst []]) := by
    have := app_keep (x := O.lst []) (app_at (S ++ [O.dK [(kCells, D.ref pc), (kRows, .ref pr), (kDefs, .ref pd)]]) (O.lst [.int 14]))
    rwa [l1] at this
  have et : (S ++ [O.dK [(kCells, D.ref pc), (kRows, .ref pr), (kDefs, .ref pd)]] ++ [O.lst [.int 14]] ++ [O.lst []])[S.length + 2]? = some (.lst []) := by
    have := app_at (S ++ [O.dK [(kCells, D.ref pc), (kRows, .ref pr), (kDefs, .ref pd)]] ++ [O.lst [.int 14]]) (O.lst [])
    rwa [l2] at this
  have ec3 := app_keep (x := O.lst []) (app_keep (x := O.lst [.int 14]) (app_keep (x := O.dK [(kCells, D.ref pc), (kRows, .ref pr), (kDefs, .ref pd)]) ec))
  have er3 := app_keep (x := O.lst []) (app_keep (x := O.lst [.int 14]) (app_keep (x := O.dK [(kCells, D.ref pc), (kRows, .ref pr), (kDefs, .ref pd)]) er))
  have ed3 := app_keep (x := O.lst []) (app_keep (x := O.lst [.int 14]) (app_keep (x := O.dK [(kCells, D.ref pc), (kRows, .ref pr), (kDefs, .ref pd)]) ed))
  have hD3 := ((hD.app (O.dK [(kCells, D.ref pc), (kRows, .ref pr), (kDefs, .ref pd)])).app (O.lst [.int 14])).app (O.lst [])
  have hF3 : Fr k j S0 (S ++ [O.dK [(kCells, D.ref pc), (kRows, .ref pr), (kDefs, .ref pd)]] ++ [O.lst [.int 14]] ++ [O.lst []]) := ((hF.trans (Fr.app _)).trans (Fr.app _)).trans (Fr.app _)
  show Ok (evSs _ _ _ _ _ [_, _, _, _, _, some (.ref S.length), some (.ref (S ++ [O.dK [(kCells, D.ref pc), (kRows, .ref pr), (kDefs, .ref pd)]]).length), some (.ref (S ++ [O.dK [(kCells, D.ref pc), (kRows, .ref pr), (kDefs, .ref pd)]] ++ [O.lst [.int 14]]).length), none, none, none, none, none] (S ++ [O.dK [(kCells, D.ref pc), (kRows, .ref pr), (kDefs, .ref pd)]] ++ [O.lst [.int 14]] ++ [O.lst []])) _
  rw [l1, l2]
  have l3 : (S ++ [O.dK [(kCells, D.ref pc), (kRows, .ref pr), (kDefs, .ref pd)]] ++ [O.lst [.int 14]] ++ [O.lst []]).length = S.length + 3 := by simp
  generalize (S ++ [O.dK [(kCells, D.ref pc), (kRows, .ref pr), (kDefs, .ref pd)]] ++ [O.lst [.int 14]] ++ [O.lst []] : Sto) = S3 at ek el et ec3 er3 ed3 hD3 hF3 l3 ⊢
  have hsc : ∀ (l : Nat) (S' : Sto), S.length < l → S'[S.length]? = some (.dK [(kCells, D.ref pc), (kRows, .ref pr), (kDefs, .ref pd)]) → S'[pc]? = some (.lst (cs.map D.str)) → S'[pr]? = some (.lst (rs.map D.str)) → S'[pd]? = some (.lst (fs.map D.str)) → Sc k j l ⟨S.length, pc, pr, pd, cs, rs, fs⟩ S' := fun l S' hl a b c d =>
    { e := a, ec := b, er := c, ed := d, nk := by first | omega | (dsimp only; omega), nj := by first | omega | (dsimp only; omega), nl := by first | omega | (dsimp only; omega), lk := by omega, hc := by first | omega | (dsimp only; omega) }
  have hs3 := hsc (S.length + 1) S3 (by omega) ek ec3 er3 ed3
  -- the defs
  refine ok_cons ?_
  unfold PrN.zBs8
  rw [evS, Ok_bind]
  simp only [tst, evE, evWs, evDs, evO, evC, evI, Ok_bind, Ok_ok, Ok_al, al_d, al_o, bind_ok, al_ok_d, al_ok_o, opt_some, testD_bl, List.getElem?_cons_zero, List.getElem?_cons_succ, List.set_cons_zero, List.set_cons_succ, Option.map_some, cmpW, ordW, bltW, binW, intW, addW, evS, Tg.put, if_true, Bool.false_eq_true, if_false, wk_ref ed3]
  refine ok_for (fun l ρ S' => ∃ (ds : List (List Nat × Bd)) (v : Int) (x : Option D), ρ = [some (.ref k), some (.ref pn), some (.ref pc), some (.ref pr), some (.ref pd), some (.ref S.length), some (.ref (S.length + 1)), some (.ref (S.length + 2)), x, none, none, none, none] ∧
      l = (fs.map D.str).drop ds.length ∧ ds.length ≤ fs.length ∧ ds.map (·.1) = fs.take ds.length ∧ (∀ q ∈ ds, q.2.ok cs rs fs ∧ q.2.nest ≤ 2) ∧ 0 ≤ v ∧ v + ((ds.map (·.2.cost)).sum : Nat) ≤ 14 ∧ Lf (S.length + 1) v S' ∧ S'[S.length + 2]? = some (.lst (ds.map defD)) ∧ Dl k j S' ∧ Sc k j (S.length + 1) ⟨S.length, pc, pr, pd, cs, rs, fs⟩ S' ∧ Fr k j S0 S' ∧ S.length + 3 ≤ S'.length) (fun l ρ S' h => ?_) ?_ ?_ _ _ _
    ⟨[], 14, none, rfl, rfl, by simp, rfl, by simp, by decide, by simp, el, et, hD3, hs3, hF3, by omega⟩
  · obtain ⟨ds, v, x, -, -, -, -, -, -, -, -, -, -, hs', -⟩ := h
    exact stays_ref hs'.ed
  · rintro y l ρ S' ⟨ds, v, x, rfl, hl', hdl, hds, hdk, hv, hvs, hlf, he, hD', hs', hF', hL'⟩
    obtain ⟨g1, g2, g3⟩ := drop_inv hl'.symm
    rw [List.length_map] at g3
    rw [List.getElem?_map, Option.map_eq_some_iff] at g1
    obtain ⟨f, g1, rfl⟩ := g1
    unfold forF
    simp only [Tg.put, List.set_cons_succ, List.set_cons_zero]
    refine ok_one ?_
    unfold PrN.zBs9
    rw [evS, Ok_bind, evE]
    simp only [tst, evE, evWs, evDs, evO, evC, evI, Ok_bind, Ok_ok, Ok_al, al_d, al_o, bind_ok, al_ok_d, al_ok_o, opt_some, testD_bl, List.getElem?_cons_zero, List.getElem?_cons_succ, List.set_cons_zero, List.set_cons_succ, Option.map_some, cmpW, ordW, bltW, binW, intW, addW, evS, Tg.put, if_true, Bool.false_eq_true, if_false, Bmt.kd, kd_ref he, Bmt.keeps]
    refine (bld_ok p hfu 2 1 rfl).1 m v S' _ (by omega) hv hD' hs' hlf fun b S4 v4 hb hbn hbl _ hv4 hv4' hl4 hD4 hF4 => ?_
    have e4 := hF4.at_ he (by omega) (by omega) (by omega)
    simp only [tst, evE, evWs, evDs, evO, evC, evI, Ok_bind, Ok_ok, Ok_al, al_d, al_o, bind_ok, al_ok_d, al_ok_o, opt_some, testD_bl, List.getElem?_cons_zero, List.getElem?_cons_succ, List.set_cons_zero, List.set_cons_succ, Option.map_some, cmpW, ordW, bltW, binW, intW, addW, evS, Tg.put, if_true, Bool.false_eq_true, if_false, List.length_cons, List.length_nil]
    rw [if_pos (by decide)]
    simp only [tst, evE, evWs, evDs, evO, evC, evI, Ok_bind, Ok_ok, Ok_al, al_d, al_o, bind_ok, al_ok_d, al_ok_o, opt_some, testD_bl, List.getElem?_cons_zero, List.getElem?_cons_succ, List.set_cons_zero, List.set_cons_succ, Option.map_some, cmpW, ordW, bltW, binW, intW, addW, evS, Tg.put, if_true, Bool.false_eq_true, if_false]
    rw [append_ref e4 (by rw [List.length_map]; simp only [LINE]; omega)]
    simp only [tst, evE, evWs, evDs, evO, evC, evI, Ok_bind, Ok_ok, Ok_al, al_d, al_o, bind_ok, al_ok_d, al_ok_o, opt_some, testD_bl, List.getElem?_cons_zero, List.getElem?_cons_succ, List.set_cons_zero, List.set_cons_succ, Option.map_some, cmpW, ordW, bltW, binW, intW, addW, evS, Tg.put, if_true, Bool.false_eq_true, if_false]
    have hs4 := hs'.fr3 hF4
    have hF4' := Fr3.fr hF' hF4 (by omega)
    have hF5 : Fr k j S0 (S4.set (S.length + 2) (.lst (ds.map defD ++ [.tup [.str f, .tup b.ds]]))) := hF4'.set_new (by omega)
    refine ⟨ds ++ [(f, b)], v4, _, rfl, by rw [List.length_append]; exact g2, by rw [List.length_append, List.length_singleton]; omega, ?_, fun q hq => ?_, hv4, ?_, ?_, ?_, hD4.set_ne (by omega) (by omega), ?_, hF5, by rw [List.length_set]; have := hF4.1; omega⟩
    · rw [List.map_append, hds, List.length_append, List.length_singleton, List.take_add_one, g1]
      rfl
    · rcases List.mem_append.mp hq with hq | hq
      · exact hdk q hq
      · rw [List.mem_singleton.mp hq]
        exact ⟨hb, hbn⟩
    · rw [List.map_append, List.sum_append]
      simp only [List.map_cons, List.map_nil, List.sum_cons, List.sum_nil]
      omega
    · show (S4.set _ _)[S.length + 1]? = _
      rw [List.getElem?_set_ne (by omega)]
      exact hl4
    · rw [set_at e4, List.map_append]
      rfl
    · refine hsc _ _ (by omega) ?_ ?_ ?_ ?_
      · rw [List.getElem?_set_ne (by omega)]; exact hs4.e
      · rw [List.getElem?_set_ne (by omega)]; exact hs4.ec
      · rw [List.getElem?_set_ne (by omega)]; exact hs4.er
      · rw [List.getElem?_set_ne (by omega)]; exact hs4.ed
  rintro ρ S4 ⟨ds, v, x, rfl, hl', hdl, hds, hdk, hv, hvs, hlf, et4, hD4, hs4, hF4, hL4⟩
  have hdl : ds.length = fs.length := by
    have := congrArg List.length hl'
    rw [List.length_drop, List.length_map, List.length_nil] at this
    omega
  rw [hdl, List.take_of_length_le (Nat.le_refl _)] at hds
  dsimp only
  refine ok_cons ?_
  unfold PrN.zBs10
  refine ok_setE ?_
  refine ok_lstE ?_
  simp only [tst, evE, evWs, evDs, evO, evC, evI, Ok_bind, Ok_ok, Ok_al, al_d, al_o, bind_ok, al_ok_d, al_ok_o, opt_some, testD_bl, List.getElem?_cons_zero, List.getElem?_cons_succ, List.set_cons_zero, List.set_cons_succ, Option.map_some, cmpW, ordW, bltW, binW, intW, addW, evS, Tg.put, if_true, Bool.false_eq_true, if_false]
  refine ⟨by simp, ?_⟩
  have hl5 : Lf S4.length 22 (S4 ++ [O.lst [.int 22]]) := app_at _ _
  have hs5 := hsc S4.length (S4 ++ [O.lst [.int 22]]) (by omega) (app_keep hs4.e) (app_keep hs4.ec) (app_keep hs4.er) (app_keep hs4.ed)
  have et5 := app_keep (x := O.lst [.int 22]) et4
  have hD5 := hD4.app (O.lst [.int 22])
  have hF5 := hF4.trans (Fr.app (k := k) (j := j) (O.lst [.int 22]))
  have hS04 := hF4.1
  generalize S4 ++ [O.lst [.int 22]] = S5 at hl5 hs5 et5 hD5 hF5 ⊢
  have hz2 : True := trivial
  refine ok_cons ?_
  unfold PrN.zBs11
  refine ok_setE ?_
  simp only [tst, evE, evWs, evDs, evO, evC, evI, Ok_bind, Ok_ok, Ok_al, al_d, al_o, bind_ok, al_ok_d, al_ok_o, opt_some, testD_bl, List.getElem?_cons_zero, List.getElem?_cons_succ, List.set_cons_zero, List.set_cons_succ, Option.map_some, cmpW, ordW, bltW, binW, intW, addW, evS, Tg.put, if_true, Bool.false_eq_true, if_false]
  refine (bld_ok p hfu 3 0 rfl).1 m 22 S5 _ (by omega) (by decide) hD5 hs5 hl5 fun b S6 v6 hb hbn hbl hz6 hv6 hv6' hl6 hD6 hF6 => ?_
  have hs6 := hs5.fr3 hF6
  have et6 := hF6.at_ et5 (by omega) (by omega) (by omega)
  have hF6' := Fr3.fr hF5 hF6 (by omega)
  (try simp only [tst, evE, evWs, evDs, evO, evC, evI, Ok_bind, Ok_ok, Ok_al, al_d, al_o, bind_ok, al_ok_d, al_ok_o, opt_some, testD_bl, List.getElem?_cons_zero, List.getElem?_cons_succ, List.set_cons_zero, List.set_cons_succ, Option.map_some, cmpW, ordW, bltW, binW, intW, addW, evS, Tg.put, if_true, Bool.false_eq_true, if_false])
  -- the rest
  have rest : ∀ (b : Bd) (S' : Sto), b.ok cs rs fs → b.nest ≤ 3 → b.cost ≤ 23 → 1 ≤ b.len → Dl k j S' → Fr k j S0 S' → Sc k j S4.length ⟨S.length, pc, pr, pd, cs, rs, fs⟩ S' → S'[S.length + 2]? = some (.lst (ds.map defD)) →
      Ok (evSs fu (run fu P m) (run fu P m) P.T.ini (.cons N.zBs14 (.cons N.zBs15 .nil)) [some (.ref k), some (.ref pn), some (.ref pc), some (.ref pr), some (.ref pd), some (.ref S.length), some (.ref S4.length), some (.ref (S.length + 2)), x, some (.tup b.ds), none, none, none] S') fun o S => match o with
      | .nx _ => Q (.d .non) S
      | .rt w => Q w S
      | _ => False := by
    intro b S7 hb hbn hbc hb1 hD7 hF7 hs7 et7
    refine ok_cons ?_
    unfold PrN.zBs14
    refine ok_setE ?_
    rw [evE, Ok_bind, evWs, Ok_bind]
    refine ok_lcE ?_
    simp only [tst, evE, evWs, evDs, evO, evC, evI, Ok_bind, Ok_ok, Ok_al, al_d, al_o, bind_ok, al_ok_d, al_ok_o, opt_some, testD_bl, List.getElem?_cons_zero, List.getElem?_cons_succ, List.set_cons_zero, List.set_cons_succ, Option.map_some, cmpW, ordW, bltW, binW, intW, addW, evS, Tg.put, if_true, Bool.false_eq_true, if_false, wk_ref hs7.ec]
    obtain ⟨m, rfl⟩ : ∃ m', m = m' + 2 := ⟨m - 2, by omega⟩
    have lc1 : ∀ (Q : W → Sto → Prop), (∀ (ws : List (List Nat × Int)) (S' : Sto), ws.map (·.1) = cs → (∀ q ∈ ws, 0 ≤ q.2 ∧ q.2 < 4294967296) → Dl k j S' → Fr k j S7 S' → Q (.o (.lst (ws.map pairD))) S') → ∀ f, (∀ x (S' : Sto), Dl k j S' → ∀ Q', (∀ (w : Int) (S'' : Sto), 0 ≤ w → w < 4294967296 → Dl k j S'' → Fr k j S' S'' → Q' (some (pairD (x, w))) S'') → Ok (f (.str x) S') Q') → Ok (lcGo ⟨cs.map D.str, [(pc, cs.map D.str)]⟩ f (cs.map D.str) [] S7) Q := by
      intro Q q f hf
      refine ok_lc (fun l acc S' => ∃ ws : List (List Nat × Int), acc = ws.map pairD ∧ l = (cs.map D.str).drop ws.length ∧ ws.length ≤ cs.length ∧ ws.map (·.1) = cs.take ws.length ∧ (∀ q ∈ ws, 0 ≤ q.2 ∧ q.2 < 4294967296) ∧ Dl k j S' ∧ Fr k j S7 S') (fun l acc S' h => ?_) ?_ ?_ _ _ _ ⟨[], rfl, rfl, by simp, rfl, by simp, hD7, Fr.refl⟩
      · obtain ⟨ws, -, -, -, -, -, hD', hF'⟩ := h
        exact stays_ref (hF'.at_ hs7.ec (by first | omega | (dsimp only; omega)) (by first | omega | (dsimp only; omega)))
      · rintro y l acc S' ⟨ws, rfl, hl', hwl, hw, hww, hD', hF'⟩
        obtain ⟨g1, g2, g3⟩ := drop_inv hl'.symm
        rw [List.length_map] at g3
        rw [List.getElem?_map, Option.map_eq_some_iff] at g1
        obtain ⟨f', g1, rfl⟩ := g1
        refine hf f' S' hD' _ fun w S'' w0 w1 hD'' hF'' => ?_
        refine ⟨by rw [List.length_map]; simp only [LINE]; omega, ws ++ [(f', w)], by rw [List.map_append]; rfl, by rw [List.length_append]; exact g2, by rw [List.length_append, List.length_singleton]; omega, ?_, fun q hq => ?_, hD'', hF'.trans hF''⟩
        · rw [List.map_append, hw, List.length_append, List.length_singleton, List.take_add_one, g1]
          rfl
        · rcases List.mem_append.mp hq with hq | hq
          · exact hww q hq
          · rw [List.mem_singleton.mp hq]
            exact ⟨w0, w1⟩
      · rintro acc S' ⟨ws, rfl, hl', hwl, hw, hww, hD', hF'⟩
        have hwl : ws.length = cs.length := by
          have := congrArg List.length hl'
          rw [List.length_drop, List.length_map, List.length_nil] at this
          omega
        rw [hwl, List.take_of_length_le (Nat.le_refl _)] at hw
        exact q ws S' hw hww hD' hF'
    refine lc1 _ (fun ws S8 hws hww hD8 hF8 => ?_) _ (fun x S' hD' Q' q' => ?_)
    · have hs8 := hs7.fr hF8
      have et8 := hF8.at_ et7 (by omega) (by omega)
      simp only [tst, evE, evWs, evDs, evO, evC, evI, Ok_bind, Ok_ok, Ok_al, al_d, al_o, bind_ok, al_ok_d, al_ok_o, opt_some, testD_bl, List.getElem?_cons_zero, List.getElem?_cons_succ, List.set_cons_zero, List.set_cons_succ, Option.map_some, cmpW, ordW, bltW, binW, intW, addW, evS, Tg.put, if_true, Bool.false_eq_true, if_false, tupOf, lstOf]
      refine ok_one ?_
      unfold PrN.zBs15
      refine ok_retE ?_
      refine ok_tupE ?_
      refine ok_dcons ?_
      simp only [tst, evE, evWs, evDs, evO, evC, evI, Ok_bind, Ok_ok, Ok_al, al_d, al_o, bind_ok, al_ok_d, al_ok_o, opt_some, testD_bl, List.getElem?_cons_zero, List.getElem?_cons_succ, List.set_cons_zero, List.set_cons_succ, Option.map_some, cmpW, ordW, bltW, binW, intW, addW, evS, Tg.put, if_true, Bool.false_eq_true, if_false, wk_ref hs8.er]
      refine ok_lc (fun l acc S' => ∃ rw_ : List (List Nat × Int), acc = rw_.map pairD ∧ l = (rs.map D.str).drop rw_.length ∧ rw_.length ≤ rs.length ∧ rw_.map (·.1) = rs.take rw_.length ∧ (∀ q ∈ rw_, 1 ≤ q.2 ∧ q.2 ≤ 8) ∧ Dl k j S' ∧ Fr k j S8 S') (fun l acc S' h => ?_) ?_ ?_ _ _ _ ⟨[], rfl, rfl, by simp, rfl, by simp, hD8, Fr.refl⟩
      · obtain ⟨ws, -, -, -, -, -, hD', hF'⟩ := h
        exact stays_ref (hF'.at_ hs8.er (by first | omega | (dsimp only; omega)) (by first | omega | (dsimp only; omega)))
      · rintro y l acc S' ⟨rw_, rfl, hl', hwl, hw, hww', hD', hF'⟩
        obtain ⟨g1, g2, g3⟩ := drop_inv hl'.symm
        rw [List.length_map] at g3
        rw [List.getElem?_map, Option.map_eq_some_iff] at g1
        obtain ⟨f', g1, rfl⟩ := g1
        simp only [tst, evE, evWs, evDs, evO, evC, evI, Ok_bind, Ok_ok, Ok_al, al_d, al_o, bind_ok, al_ok_d, al_ok_o, opt_some, testD_bl, List.getElem?_cons_zero, List.getElem?_cons_succ, List.set_cons_zero, List.set_cons_succ, Option.map_some, cmpW, ordW, bltW, binW, intW, addW, evS, Tg.put, if_true, Bool.false_eq_true, if_false, Ok_nox, wipeE]
        refine bdrE p.toTmP hfu rfl hD' (by decide) (by decide) fun w S'' w0 w1 hD'' hF'' => ?_
        simp only [tst, evE, evWs, evDs, evO, evC, evI, Ok_bind, Ok_ok, Ok_al, al_d, al_o, bind_ok, al_ok_d, al_ok_o, opt_some, testD_bl, List.getElem?_cons_zero, List.getElem?_cons_succ, List.set_cons_zero, List.set_cons_succ, Option.map_some, cmpW, ordW, bltW, binW, intW, addW, evS, Tg.put, if_true, Bool.false_eq_true, if_false, List.length_cons, List.length_nil]
        rw [if_pos (by decide)]
        simp only [tst, evE, evWs, evDs, evO, evC, evI, Ok_bind, Ok_ok, Ok_al, al_d, al_o, bind_ok, al_ok_d, al_ok_o, opt_some, testD_bl, List.getElem?_cons_zero, List.getElem?_cons_succ, List.set_cons_zero, List.set_cons_succ, Option.map_some, cmpW, ordW, bltW, binW, intW, addW, evS, Tg.put, if_true, Bool.false_eq_true, if_false]
        refine ⟨by rw [List.length_map]; simp only [LINE]; omega, rw_ ++ [(f', 1 + w)], by rw [List.map_append]; rfl, by rw [List.length_append]; exact g2, by rw [List.length_append, List.length_singleton]; omega, ?_, fun q hq => ?_, hD'', hF'.trans hF''⟩
        · rw [List.map_append, hw, List.length_append, List.length_singleton, List.take_add_one, g1]
          rfl
        · rcases List.mem_append.mp hq with hq | hq
          · exact hww' q hq
          · rw [List.mem_singleton.mp hq]
            exact ⟨by first | omega | (dsimp only; omega), by first | omega | (dsimp only; omega)⟩
      · rintro acc S9 ⟨rw_, rfl, hl', hwl, hw, hwr, hD9, hF9⟩
        have hwl : rw_.length = rs.length := by
          have := congrArg List.length hl'
          rw [List.length_drop, List.length_map, List.length_nil] at this
          omega
        rw [hwl, List.take_of_length_le (Nat.le_refl _)] at hw
        have et9 := hF9.at_ et8 (by omega) (by omega)
        simp only [tst, evE, evWs, evDs, evO, evC, evI, Ok_bind, Ok_ok, Ok_al, al_d, al_o, bind_ok, al_ok_d, al_ok_o, opt_some, testD_bl, List.getElem?_cons_zero, List.getElem?_cons_succ, List.set_cons_zero, List.set_cons_succ, Option.map_some, cmpW, ordW, bltW, binW, intW, addW, evS, Tg.put, if_true, Bool.false_eq_true, if_false, tupOf, lstOf, et9]
        refine ⟨by simp, ?_⟩
        have e1 : (⟨ws, rw_, ds, b⟩ : Pr).cs = cs := hws
        have e2 : (⟨ws, rw_, ds, b⟩ : Pr).rs = rs := hw
        have e3 : (⟨ws, rw_, ds, b⟩ : Pr).fs = fs := hds
        have hwsl : ws.length = cs.length := by rw [← hws, List.length_map]
        refine q ⟨ws, rw_, ds, b⟩ S9 { c1 := by first | omega | (dsimp only; omega), c6 := by first | omega | (dsimp only; omega), r3 := by first | omega | (dsimp only; omega), d3 := by first | omega | (dsimp only; omega), cn := e1 ▸ cn.1, rn := e2 ▸ rn.1, dn := e3 ▸ dn.1, cm := e1 ▸ cn.2, rm := e2 ▸ rn.2, dm := e3 ▸ dn.2, cw := hww, rw_ := hwr, db := by rw [e1, e2, e3]; exact hdk, bb := by rw [e1, e2, e3]; exact ⟨hb, hbn⟩, dc := by first | omega | (dsimp only; omega), bc := hbc, b1 := hb1 } hD9 ((hF7.trans hF8).trans hF9)
    · simp only [tst, evE, evWs, evDs, evO, evC, evI, Ok_bind, Ok_ok, Ok_al, al_d, al_o, bind_ok, al_ok_d, al_ok_o, opt_some, testD_bl, List.getElem?_cons_zero, List.getElem?_cons_succ, List.set_cons_zero, List.set_cons_succ, Option.map_some, cmpW, ordW, bltW, binW, intW, addW, evS, Tg.put, if_true, Bool.false_eq_true, if_false, Ok_nox, wipeE]
      refine bword p.toTmP hfu hD' fun w S'' w0 w1 hD'' hF'' => ?_
      simp only [tst, evE, evWs, evDs, evO, evC, evI, Ok_bind, Ok_ok, Ok_al, al_d, al_o, bind_ok, al_ok_d, al_ok_o, opt_some, testD_bl, List.getElem?_cons_zero, List.getElem?_cons_succ, List.set_cons_zero, List.set_cons_succ, Option.map_some, cmpW, ordW, bltW, binW, intW, addW, evS, Tg.put, if_true, Bool.false_eq_true, if_false, List.length_cons, List.length_nil]
      rw [if_pos (by decide)]
      simp only [tst, evE, evWs, evDs, evO, evC, evI, Ok_bind, Ok_ok, Ok_al, al_d, al_o, bind_ok, al_ok_d, al_ok_o, opt_some, testD_bl, List.getElem?_cons_zero, List.getElem?_cons_succ, List.set_cons_zero, List.set_cons_succ, Option.map_some, cmpW, ordW, bltW, binW, intW, addW, evS, Tg.put, if_true, Bool.false_eq_true, if_false]
      exact q' w S'' w0 w1 hD'' hF''
  refine ok_cons ?_
  have hlb : lenW (.d (.tup b.ds)) S6 = some b.len := by
    show some b.ds.length = _
    rw [Bd.ds_len]
  simp only [PrN.zBs12, tst, evE, evWs, evDs, evO, evC, evI, Ok_bind, Ok_ok, Ok_al, al_d, al_o, bind_ok, al_ok_d, al_ok_o, opt_some, testD_bl, List.getElem?_cons_zero, List.getElem?_cons_succ, List.set_cons_zero, List.set_cons_succ, Option.map_some, cmpW, ordW, bltW, binW, intW, addW, evS, Tg.put, if_true, Bool.false_eq_true, if_false, hlb]
  rw [eqW_scal rfl]
  simp only [tst, evE, evWs, evDs, evO, evC, evI, Ok_bind, Ok_ok, Ok_al, al_d, al_o, bind_ok, al_ok_d, al_ok_o, opt_some, testD_bl, List.getElem?_cons_zero, List.getElem?_cons_succ, List.set_cons_zero, List.set_cons_succ, Option.map_some, cmpW, ordW, bltW, binW, intW, addW, evS, Tg.put, if_true, Bool.false_eq_true, if_false]
  by_cases h0 : b.len = 0
  · rw [h0]
    simp only [show decide (D.int ((0 : Nat) : Int) = .int 0) = true from rfl, tst, evE, evWs, evDs, evO, evC, evI, Ok_bind, Ok_ok, Ok_al, al_d, al_o, bind_ok, al_ok_d, al_ok_o, opt_some, testD_bl, List.getElem?_cons_zero, List.getElem?_cons_succ, List.set_cons_zero, List.set_cons_succ, Option.map_some, cmpW, ordW, bltW, binW, intW, addW, evS, Tg.put, if_true, Bool.false_eq_true, if_false]
    refine ok_one ?_
    unfold PrN.zBs13
    refine ok_setE ?_
    refine ok_tupE ?_
    refine ok_dcons ?_
    simp only [tst, evE, evWs, evDs, evO, evC, evI, Ok_bind, Ok_ok, Ok_al, al_d, al_o, bind_ok, al_ok_d, al_ok_o, opt_some, testD_bl, List.getElem?_cons_zero, List.getElem?_cons_succ, List.set_cons_zero, List.set_cons_succ, Option.map_some, cmpW, ordW, bltW, binW, intW, addW, evS, Tg.put, if_true, Bool.false_eq_true, if_false]
    have hb0 : b = .nil := by
      cases b with
      | nil => rfl
      | cons s r => simp only [Bd.len] at h0; omega
    subst hb0
    have hv22 : v6 ≤ 22 := by simp only [Bd.cost] at hv6'; omega
    have h22 : v6 = 22 := hz6 rfl
    refine (bld_ok p hfu 3 0 rfl).2 m v6 S6 _ (by omega) (by omega) hD6 hs6 hl6 fun s S7 v7 hs hsn hv7 hv7' hl7 hD7 hF7 => ?_
    simp only [tst, evE, evWs, evDs, evO, evC, evI, Ok_bind, Ok_ok, Ok_al, al_d, al_o, bind_ok, al_ok_d, al_ok_o, opt_some, testD_bl, List.getElem?_cons_zero, List.getElem?_cons_succ, List.set_cons_zero, List.set_cons_succ, Option.map_some, cmpW, ordW, bltW, binW, intW, addW, evS, Tg.put, if_true, Bool.false_eq_true, if_false]
    refine ⟨by simp, ?_⟩
    exact rest (.one s) S7 ⟨hs, trivial⟩ (by simp only [Bd.nest]; omega) (by simp only [Bd.cost]; omega) (by simp [Bd.len]) hD7 (Fr3.fr hF6' hF7 (by omega)) (hs6.fr3 hF7) (hF7.at_ et6 (by omega) (by omega) (by omega))
  · simp only [show decide (D.int ((b.len : Nat) : Int) = .int 0) = false from decide_eq_false fun e => h0 (by injection e; omega), tst, evE, evWs, evDs, evO, evC, evI, Ok_bind, Ok_ok, Ok_al, al_d, al_o, bind_ok, al_ok_d, al_ok_o, opt_some, testD_bl, List.getElem?_cons_zero, List.getElem?_cons_succ, List.set_cons_zero, List.set_cons_succ, Option.map_some, cmpW, ordW, bltW, binW, intW, addW, evS, Tg.put, if_true, Bool.false_eq_true, if_false]
    refine ok_nil ?_
    exact rest b S6 hb hbn (by omega) (by omega) hD6 hF6' hs6 et6
end
end PyI

set_option maxRecDepth 100000
set_option maxHeartbeats 2000000
/-! PyI: the laws' programs, whole. -/
namespace PyI
section
variable (N : PrN)
def PrN.p0 : Stm := .set (.nm 1) (.call N.iN (.cons (.var 0) (.cons (.con (.int 24)) .nil)))
def PrN.pA1 : Stm := .set (.nm 2) (.idx (.lst (.cons (.con (.int 0)) (.cons (.con (.int 6)) .nil))) (N.dr 2))
def PrN.pA2 : Stm := .set (.nm 3) (.slc (.var 1) .no (.ya (.bin .add (.con (.int 1)) (N.dr 6))))
def PrN.pA3 : Stm := .set (.nm 4) (.slc (.slc (.var 1) (.ya (.bin .sub (.con (.int 6)) (.var 2))) .no) .no (.ya (N.dr 4)))
def PrN.pA4 : Stm := .set (.nm 5) (.slc (.slc (.var 1) (.ya (.bin .sub (.con (.int 12)) (.var 2))) .no) .no (.ya (N.dr 4)))
def PrN.bA : Sts := .cons N.p0 (.cons N.pA1 (.cons N.pA2 (.cons N.pA3 (.cons N.pA4 N.zAZ))))
def PrN.pB2 : Stm := .set (.nm 2) (.slc (.var 1) .no (.ya (.bin .add (.con (.int 1)) (N.dr 6))))
def PrN.pB3 : Stm := .set (.nm 3) (.slc (.slc (.var 1) (.ya (.idx (.lst (.cons (.con (.int 6)) (.cons (.con (.int 0)) .nil))) (N.dr 2))) .no) .no (.ya (N.dr 4)))
def PrN.pB4 : Stm := .set (.nm 4) (.slc (.slc (.var 1) (.ya (.idx (.lst (.cons (.con (.int 12)) (.cons (.con (.int 6)) (.cons (.con (.int 0)) .nil)))) (N.dr 3))) .no) .no (.ya (N.dr 4)))
def PrN.bB2 : Sts := .cons N.p0 (.cons N.pB2 (.cons N.pB3 (.cons N.pB4 N.zBZ)))
end
section
variable {N : PrN} {P : Pg} {k j fu n : Nat} {S : Sto}
def NamS (N : PrN) (P : Pg) (fu k j : Nat) : Prop := ∀ (n : Nat) (S : Sto) (Q : W → Sto → Prop), Dl k j S → (∀ (ys : List (List Nat)) (pn : Nat) (S' : Sto), NmL ys → S'[pn]? = some (.lst (ys.map D.str)) → S.length ≤ pn → Dl k j S' → Fr k j S S' → Q (.d (.ref pn)) S') → Ok (run fu P (n + 2) N.iN [.ref k, .int 24] S) Q
theorem ok_slcE {cb ci : Cb} {ini : Nat → Option Nat} {ρ : Env} {S : Sto} {a : Ex} {lo hi : Oex} {Q : W → Sto → Prop} (h : Ok (evE cb ci ini a ρ S) fun x S => Ok (evO cb ci ini lo ρ S) fun l S => Ok (evO cb ci ini hi ρ S) fun h S => ∃ w, slcW x l h S = some w ∧ Q w S) : Ok (evE cb ci ini (.slc a lo hi) ρ S) Q := by
  rw [evE, Ok_bind]
  refine h.mono fun x S h => ?_
  rw [Ok_bind]
  refine h.mono fun l S h => ?_
  rw [Ok_bind]
  refine h.mono fun u S h => ?_
  obtain ⟨w, h1, h2⟩ := h
  rw [h1]
  exact h2
/-- names cut out twice: at most three -/
theorem cut2_ok {cb ci : Cb} {ini : Nat → Option Nat} {ρ : Env} {S : Sto} {pn : Nat} {ys : List (List Nat)} {lo hi : Ex} {Q : W → Sto → Prop} (hk : pn ≠ k ∧ pn ≠ j) (hv : ρ[1]? = some (some (.ref pn))) (e : S[pn]? = some (.lst (ys.map D.str))) (hn : NmL ys) (hD : Dl k j S)
    (hlo : ∀ S', Dl k j S' → Ok (evE cb ci ini lo ρ S') fun w S'' => ∃ i, w = .d (.int i) ∧ Dl k j S'' ∧ Fr k j S' S'')
    (hhi : ∀ S', Dl k j S' → Ok (evE cb ci ini hi ρ S') fun w S'' => ∃ i : Int, w = .d (.int i) ∧ 0 ≤ i ∧ i < 4 ∧ Dl k j S'' ∧ Fr k j S' S'')
    (q : ∀ (zs : List (List Nat)) (S' : Sto), zs.length ≤ 3 → zs.Nodup → (∀ x ∈ zs, Nm x) → Dl k j S' → Fr k j S S' → Q (.o (.lst (zs.map D.str))) S') : Ok (evE cb ci ini (.slc (.slc (.var 1) (.ya lo) .no) .no (.ya hi)) ρ S) Q := by
  refine ok_slcE ?_
  refine ok_slcE ?_
  simp only [tst, evE, evWs, evDs, evO, evC, evI, Ok_bind, Ok_ok, Ok_al, al_d, al_o, bind_ok, al_ok_d, al_ok_o, opt_some, testD_bl, List.getElem?_cons_zero, List.getElem?_cons_succ, List.set_cons_zero, List.set_cons_succ, Option.map_some, cmpW, ordW, bltW, binW, intW, addW, evS, Tg.put, if_true, Bool.false_eq_true, if_false, hv]
  refine (hlo S hD).mono fun w S1 h => ?_
  obtain ⟨i, rfl, hD1, hF1⟩ := h
  have e1 := hF1.at_ e hk.1 hk.2
  simp only [tst, evE, evWs, evDs, evO, evC, evI, Ok_bind, Ok_ok, Ok_al, al_d, al_o, bind_ok, al_ok_d, al_ok_o, opt_some, testD_bl, List.getElem?_cons_zero, List.getElem?_cons_succ, List.set_cons_zero, List.set_cons_succ, Option.map_some, cmpW, ordW, bltW, binW, intW, addW, evS, Tg.put, if_true, Bool.false_eq_true, if_false]
  refine ⟨_, slc_ref e1, ?_⟩
  refine (hhi S1 hD1).mono fun w S2 h => ?_
  obtain ⟨v, rfl, h0, h1, hD2, hF2⟩ := h
  simp only [tst, evE, evWs, evDs, evO, evC, evI, Ok_bind, Ok_ok, Ok_al, al_d, al_o, bind_ok, al_ok_d, al_ok_o, opt_some, testD_bl, List.getElem?_cons_zero, List.getElem?_cons_succ, List.set_cons_zero, List.set_cons_succ, Option.map_some, cmpW, ordW, bltW, binW, intW, addW, evS, Tg.put, if_true, Bool.false_eq_true, if_false]
  refine ⟨_, rfl, ?_⟩
  rw [cut_map, cut_map]
  have hsub := (cut_sub (cut ys (some i) none) none (some v)).trans (cut_sub ys (some i) none)
  obtain ⟨n1, n2⟩ := nml_cut hn hsub
  refine q _ S2 ?_ n1 n2 hD2 (hF1.trans hF2)
  obtain ⟨v', rfl⟩ : ∃ v' : Nat, v = (v' : Int) := ⟨v.toNat, by omega⟩
  rw [cut_hi, List.length_take]
  omega
theorem cut1_ok {cb ci : Cb} {ini : Nat → Option Nat} {ρ : Env} {S : Sto} {pn : Nat} {ys : List (List Nat)} {hi : Ex} {Q : W → Sto → Prop} (hk : pn ≠ k ∧ pn ≠ j) (hv : ρ[1]? = some (some (.ref pn))) (e : S[pn]? = some (.lst (ys.map D.str))) (hn : NmL ys) (hD : Dl k j S)
    (hhi : ∀ S', Dl k j S' → Ok (evE cb ci ini hi ρ S') fun w S'' => ∃ i : Int, w = .d (.int i) ∧ 0 ≤ i ∧ i < 6 ∧ Dl k j S'' ∧ Fr k j S' S'')
    (q : ∀ (zs : List (List Nat)) (S' : Sto), 1 ≤ zs.length → zs.length ≤ 6 → zs.Nodup → (∀ x ∈ zs, Nm x) → Dl k j S' → Fr k j S S' → Q (.o (.lst (zs.map D.str))) S') : Ok (evE cb ci ini (.slc (.var 1) .no (.ya (.bin .add (.con (.int 1)) hi))) ρ S) Q := by
  refine ok_slcE ?_
  simp only [tst, evE, evWs, evDs, evO, evC, evI, Ok_bind, Ok_ok, Ok_al, al_d, al_o, bind_ok, al_ok_d, al_ok_o, opt_some, testD_bl, List.getElem?_cons_zero, List.getElem?_cons_succ, List.set_cons_zero, List.set_cons_succ, Option.map_some, cmpW, ordW, bltW, binW, intW, addW, evS, Tg.put, if_true, Bool.false_eq_true, if_false, hv]
  refine (hhi S hD).mono fun w S1 h => ?_
  obtain ⟨v, rfl, h0, h1, hD1, hF1⟩ := h
  have e1 := hF1.at_ e hk.1 hk.2
  simp only [tst, evE, evWs, evDs, evO, evC, evI, Ok_bind, Ok_ok, Ok_al, al_d, al_o, bind_ok, al_ok_d, al_ok_o, opt_some, testD_bl, List.getElem?_cons_zero, List.getElem?_cons_succ, List.set_cons_zero, List.set_cons_succ, Option.map_some, cmpW, ordW, bltW, binW, intW, addW, evS, Tg.put, if_true, Bool.false_eq_true, if_false]
  refine ⟨_, slc_ref e1, ?_⟩
  rw [cut_map]
  obtain ⟨n1, n2⟩ := nml_cut hn (cut_sub ys none (some (1 + v)))
  have hl : (cut ys none (some (1 + v))).length = (1 + v).toNat := by
    obtain ⟨v', hv'⟩ : ∃ v' : Nat, 1 + v = (v' : Int) := ⟨(1 + v).toNat, by omega⟩
    rw [hv', cut_hi, List.length_take, hn.1]
    omega
  exact q _ S1 (by omega) (by omega) n1 n2 hD1 hF1
theorem progA_ok {iP : Nat} (p : BdP P N.toBdN) (hP : Has P iP N.bA 1 14) (hN : NamS N P fu k j) (hfu : 64 < fu) (hD : Dl k j S) {Q : W → Sto → Prop} (q : ∀ (p : Pr) (S' : Sto), p.ok → Dl k j S' → Fr k j S S' → Q (.d p.d) S') : Ok (run fu P (n + 20) iP [.ref k] S) Q := by
  refine has_run hP rfl ?_
  show Ok (evSs fu (run fu P (n + 19)) (run fu P (n + 19)) _ N.bA [some (.ref k), none, none, none, none, none, none, none, none, none, none, none, none, none] S) _
  unfold PrN.bA
  have hkj := hD.lt
  have dr4 : ∀ (ρ : Env), ρ[0]? = some (some (.ref k)) → ∀ S', Dl k j S' → Ok (evE (run fu P (n + 19)) (run fu P (n + 19)) P.T.ini (N.dr 4) ρ S') fun w S'' => ∃ i : Int, w = .d (.int i) ∧ 0 ≤ i ∧ i < 4 ∧ Dl k j S'' ∧ Fr k j S' S'' := fun ρ h S' hD' => bdrE p.toTmP hfu h hD' (by decide) (by decide) fun v S'' a b c d => ⟨v, rfl, a, b, c, d⟩
  refine ok_cons ?_
  unfold PrN.p0
  refine ok_setE ?_
  simp only [tst, evE, evWs, evDs, evO, evC, evI, Ok_bind, Ok_ok, Ok_al, al_d, al_o, bind_ok, al_ok_d, al_ok_o, opt_some, testD_bl, List.getElem?_cons_zero, List.getElem?_cons_succ, List.set_cons_zero, List.set_cons_succ, Option.map_some, cmpW, ordW, bltW, binW, intW, addW, evS, Tg.put, if_true, Bool.false_eq_true, if_false]
  refine hN (n + 17) S _ hD fun ys pn S1 hn e1 hpn hD1 hF1 => ?_
  rw [al_d]
  have hk : pn ≠ k ∧ pn ≠ j := ⟨by omega, by omega⟩
  refine ok_cons ?_
  unfold PrN.pA1
  refine ok_setE ?_
  refine ok_idxE ?_
  refine ok_lstE ?_
  simp only [tst, evE, evWs, evDs, evO, evC, evI, Ok_bind, Ok_ok, Ok_al, al_d, al_o, bind_ok, al_ok_d, al_ok_o, opt_some, testD_bl, List.getElem?_cons_zero, List.getElem?_cons_succ, List.set_cons_zero, List.set_cons_succ, Option.map_some, cmpW, ordW, bltW, binW, intW, addW, evS, Tg.put, if_true, Bool.false_eq_true, if_false]
  refine ⟨by simp, ?_⟩
  refine bdrE p.toTmP hfu rfl hD1 (by decide) (by decide) fun v2 S2 a2 b2 hD2 hF2 => ?_
  rw [al_d]
  obtain ⟨sh, hsh⟩ : ∃ sh : Int, idxW (.o (.lst [.int 0, .int 6])) (.int v2) S2 = some (.int sh) := by
    have : v2 = 0 ∨ v2 = 1 := by omega
    rcases this with rfl | rfl
    · exact ⟨_, rfl⟩
    · exact ⟨_, rfl⟩
  refine ⟨_, hsh, ?_⟩
  have e2 := hF2.at_ e1 hk.1 hk.2
  refine ok_cons ?_
  unfold PrN.pA2
  refine ok_setE ?_
  refine cut1_ok hk rfl e2 hn hD2 (fun S' hD' => bdrE p.toTmP hfu rfl hD' (by decide) (by decide) fun v S'' a b c d => ⟨v, rfl, a, b, c, d⟩) fun cs S3 c1 c6 cn cm hD3 hF3 => ?_
  rw [al_o]
  have ec3 : (S3 ++ [O.lst (cs.map D.str)])[S3.length]? = some (.lst (cs.map D.str)) := app_at _ _
  have e3 := app_keep (x := O.lst (cs.map D.str)) (hF3.at_ e2 hk.1 hk.2)
  have hD3' := hD3.app (O.lst (cs.map D.str))
  have hF3' := ((hF1.trans hF2).trans hF3).trans (Fr.app (O.lst (cs.map D.str)))
  have hp3 : S.length ≤ S3.length := ((hF1.trans hF2).trans hF3).1
  generalize S3.length = pc at ec3 hp3 ⊢
  generalize S3 ++ [O.lst (cs.map D.str)] = S4 at ec3 e3 hD3' hF3' ⊢
  refine ok_cons ?_
  unfold PrN.pA3
  refine ok_setE ?_
  refine cut2_ok hk rfl e3 hn hD3' (fun S' hD' => by simp only [tst, evE, evWs, evDs, evO, evC, evI, Ok_bind, Ok_ok, Ok_al, al_d, al_o, bind_ok, al_ok_d, al_ok_o, opt_some, testD_bl, List.getElem?_cons_zero, List.getElem?_cons_succ, List.set_cons_zero, List.set_cons_succ, Option.map_some, cmpW, ordW, bltW, binW, intW, addW, evS, Tg.put, if_true, Bool.false_eq_true, if_false]; exact ⟨_, rfl, hD', Fr.refl⟩) (dr4 _ rfl) fun rs S5 r3 rn rm hD5 hF5 => ?_
  rw [al_o]
  have er5 : (S5 ++ [O.lst (rs.map D.str)])[S5.length]? = some (.lst (rs.map D.str)) := app_at _ _
  have ec5 := app_keep (x := O.lst (rs.map D.str)) (hF5.at_ ec3 (by omega) (by omega))
  have e5 := app_keep (x := O.lst (rs.map D.str)) (hF5.at_ e3 hk.1 hk.2)
  have hD5' := hD5.app (O.lst (rs.map D.str))
  have hF5' := (hF3'.trans hF5).trans (Fr.app (O.lst (rs.map D.str)))
  have hp5 : S.length ≤ S5.length := (hF3'.trans hF5).1
  generalize S5.length = pr at er5 hp5 ⊢
  generalize S5 ++ [O.lst (rs.map D.str)] = S6 at er5 ec5 e5 hD5' hF5' ⊢
  refine ok_cons ?_
  unfold PrN.pA4
  refine ok_setE ?_
  refine cut2_ok hk rfl e5 hn hD5' (fun S' hD' => by simp only [tst, evE, evWs, evDs, evO, evC, evI, Ok_bind, Ok_ok, Ok_al, al_d, al_o, bind_ok, al_ok_d, al_ok_o, opt_some, testD_bl, List.getElem?_cons_zero, List.getElem?_cons_succ, List.set_cons_zero, List.set_cons_succ, Option.map_some, cmpW, ordW, bltW, binW, intW, addW, evS, Tg.put, if_true, Bool.false_eq_true, if_false]; exact ⟨_, rfl, hD', Fr.refl⟩) (dr4 _ rfl) fun fs S7 d3 dn dm hD7 hF7 => ?_
  rw [al_o]
  have hp7 : S.length ≤ S7.length := (hF5'.trans hF7).1
  exact zA_suf p hfu (m := n + 19) (sh := sh) (by omega) ((hF5'.trans hF7).trans (Fr.app _)) hD (hD7.app _) hp3 hp5 hp7 (app_keep (hF7.at_ ec5 (by omega) (by omega))) (app_keep (hF7.at_ er5 (by omega) (by omega))) (app_at _ _) c1 c6 r3 d3 ⟨cn, cm⟩ ⟨rn, rm⟩ ⟨dn, dm⟩ q
theorem progB_ok {iP : Nat} (p : BdP P N.toBdN) (hP : Has P iP N.bB2 1 13) (hN : NamS N P fu k j) (hfu : 64 < fu) (hD : Dl k j S) {Q : W → Sto → Prop} (q : ∀ (p : Pr) (S' : Sto), p.ok → Dl k j S' → Fr k j S S' → Q (.d p.d) S') : Ok (run fu P (n + 20) iP [.ref k] S) Q := by
  refine has_run hP rfl ?_
  show Ok (evSs fu (run fu P (n + 19)) (run fu P (n + 19)) _ N.bB2 [some (.ref k), none, none, none, none, none, none, none, none, none, none, none, none] S) _
  unfold PrN.bB2
  have hkj := hD.lt
  have dr4 : ∀ (ρ : Env), ρ[0]? = some (some (.ref k)) → ∀ S', Dl k j S' → Ok (evE (run fu P (n + 19)) (run fu P (n + 19)) P.T.ini (N.dr 4) ρ S') fun w S'' => ∃ i : Int, w = .d (.int i) ∧ 0 ≤ i ∧ i < 4 ∧ Dl k j S'' ∧ Fr k j S' S'' := fun ρ h S' hD' => bdrE p.toTmP hfu h hD' (by decide) (by decide) fun v S'' a b c d => ⟨v, rfl, a, b, c, d⟩
  refine ok_cons ?_
  unfold PrN.p0
  refine ok_setE ?_
  simp only [tst, evE, evWs, evDs, evO, evC, evI, Ok_bind, Ok_ok, Ok_al, al_d, al_o, bind_ok, al_ok_d, al_ok_o, opt_some, testD_bl, List.getElem?_cons_zero, List.getElem?_cons_succ, List.set_cons_zero, List.set_cons_succ, Option.map_some, cmpW, ordW, bltW, binW, intW, addW, evS, Tg.put, if_true, Bool.false_eq_true, if_false]
  refine hN (n + 17) S _ hD fun ys pn S1 hn e1 hpn hD1 hF1 => ?_
  rw [al_d]
  have hk : pn ≠ k ∧ pn ≠ j := ⟨by omega, by omega⟩
  refine ok_cons ?_
  unfold PrN.pB2
  refine ok_setE ?_
  refine cut1_ok hk rfl e1 hn hD1 (fun S' hD' => bdrE p.toTmP hfu rfl hD' (by decide) (by decide) fun v S'' a b c d => ⟨v, rfl, a, b, c, d⟩) fun cs S3 c1 c6 cn cm hD3 hF3 => ?_
  rw [al_o]
  have ec3 : (S3 ++ [O.lst (cs.map D.str)])[S3.length]? = some (.lst (cs.map D.str)) := app_at _ _
  have e3 := app_keep (x := O.lst (cs.map D.str)) (hF3.at_ e1 hk.1 hk.2)
  have hD3' := hD3.app (O.lst (cs.map D.str))
  have hF3' := (hF1.trans hF3).trans (Fr.app (O.lst (cs.map D.str)))
  have hp3 : S.length ≤ S3.length := (hF1.trans hF3).1
  generalize S3.length = pc at ec3 hp3 ⊢
  generalize S3 ++ [O.lst (cs.map D.str)] = S4 at ec3 e3 hD3' hF3' ⊢
  refine ok_cons ?_
  unfold PrN.pB3
  refine ok_setE ?_
  refine cut2_ok hk rfl e3 hn hD3' (fun S' hD' => ?_) (dr4 _ rfl) fun rs S5 r3 rn rm hD5 hF5 => ?_
  · refine ok_idxE ?_
    refine ok_lstE ?_
    simp only [tst, evE, evWs, evDs, evO, evC, evI, Ok_bind, Ok_ok, Ok_al, al_d, al_o, bind_ok, al_ok_d, al_ok_o, opt_some, testD_bl, List.getElem?_cons_zero, List.getElem?_cons_succ, List.set_cons_zero, List.set_cons_succ, Option.map_some, cmpW, ordW, bltW, binW, intW, addW, evS, Tg.put, if_true, Bool.false_eq_true, if_false]
    refine ⟨by simp, ?_⟩
    refine bdrE p.toTmP hfu rfl hD' (by decide) (by decide) fun v2 S2 a2 b2 hD2 hF2 => ?_
    rw [al_d]
    have : v2 = 0 ∨ v2 = 1 := by omega
    rcases this with rfl | rfl
    · exact ⟨_, rfl, _, rfl, hD2, hF2⟩
    · exact ⟨_, rfl, _, rfl, hD2, hF2⟩
  rw [al_o]
  have er5 : (S5 ++ [O.lst (rs.map D.str)])[S5.length]? = some (.lst (rs.map D.str)) := app_at _ _
  have ec5 := app_keep (x := O.lst (rs.map D.str)) (hF5.at_ ec3 (by omega) (by omega))
  have e5 := app_keep (x := O.lst (rs.map D.str)) (hF5.at_ e3 hk.1 hk.2)
  have hD5' := hD5.app (O.lst (rs.map D.str))
  have hF5' := (hF3'.trans hF5).trans (Fr.app (O.lst (rs.map D.str)))
  have hp5 : S.length ≤ S5.length := (hF3'.trans hF5).1
  generalize S5.length = pr at er5 hp5 ⊢
  generalize S5 ++ [O.lst (rs.map D.str)] = S6 at er5 ec5 e5 hD5' hF5' ⊢
  refine ok_cons ?_
  unfold PrN.pB4
  refine ok_setE ?_
  refine cut2_ok hk rfl e5 hn hD5' (fun S' hD' => ?_) (dr4 _ rfl) fun fs S7 d3 dn dm hD7 hF7 => ?_
  · refine ok_idxE ?_
    refine ok_lstE ?_
    simp only [tst, evE, evWs, evDs, evO, evC, evI, Ok_bind, Ok_ok, Ok_al, al_d, al_o, bind_ok, al_ok_d, al_ok_o, opt_some, testD_bl, List.getElem?_cons_zero, List.getElem?_cons_succ, List.set_cons_zero, List.set_cons_succ, Option.map_some, cmpW, ordW, bltW, binW, intW, addW, evS, Tg.put, if_true, Bool.false_eq_true, if_false]
    refine ⟨by simp, ?_⟩
    refine bdrE p.toTmP hfu rfl hD' (by decide) (by decide) fun v2 S2 a2 b2 hD2 hF2 => ?_
    rw [al_d]
    have : v2 = 0 ∨ v2 = 1 ∨ v2 = 2 := by omega
    rcases this with rfl | rfl | rfl
    · exact ⟨_, rfl, _, rfl, hD2, hF2⟩
    · exact ⟨_, rfl, _, rfl, hD2, hF2⟩
    · exact ⟨_, rfl, _, rfl, hD2, hF2⟩
  rw [al_o]
  have hp7 : S.length ≤ S7.length := (hF5'.trans hF7).1
  exact zB_suf p hfu (m := n + 19) (sh := 0) (by omega) ((hF5'.trans hF7).trans (Fr.app _)) hD (hD7.app _) hp3 hp5 hp7 (app_keep (hF7.at_ ec5 (by omega) (by omega))) (app_keep (hF7.at_ er5 (by omega) (by omega))) (app_at _ _) c1 c6 r3 d3 ⟨cn, cm⟩ ⟨rn, rm⟩ ⟨dn, dm⟩ q
end
end PyI

set_option maxRecDepth 100000
set_option maxHeartbeats 1000000
/-! PyI: seals by halves; frames. -/
namespace PyI
theorem Dl.frame {k j a b : Nat} {S S' : Sto} (h : Dl k j S) (f : Fh a b S S') (ka : k ≠ a) (kb : k ≠ b) (ja : j ≠ a) (jb : j ≠ b) : Dl k j S' := by
  obtain ⟨hn, seed, num, l, e1, e2, r⟩ := h
  exact ⟨hn, seed, num, l, f.at_ e1 ka kb, f.at_ e2 ja jb, r⟩
theorem Hs.frame {N : HsN} {h a b k j : Nat} {S S' : Sto} {T : List Th} (H : Hs N h a b S T) (f : Fr k j S S') (hk : h ≠ k) (hj : h ≠ j) (ka : k ≠ a) (kb : k ≠ b) (ja : j ≠ a) (jb : j ≠ b) : Hs N h a b S' T :=
  ⟨f.at_ H.i hk hj, f.at_ H.n (Ne.symm ka) (Ne.symm ja), f.at_ H.t (Ne.symm kb) (Ne.symm jb), H.nd⟩
/-- the same, or one object more -/
def Nw (S S' : Sto) : Prop := S' = S ∨ ∃ o, S' = S ++ [o]
theorem Nw.fh {a b : Nat} {S S' : Sto} (h : Nw S S') : Fh a b S S' := by
  rcases h with rfl | ⟨o, rfl⟩
  · exact Fh.refl
  · exact Fh.app _
theorem Nw.hs {N : HsN} {h a b : Nat} {S S' : Sto} {T : List Th} (n : Nw S S') (H : Hs N h a b S T) : Hs N h a b S' T := by
  rcases n with rfl | ⟨o, rfl⟩
  · exact H
  · exact H.app _
/-- a row of words, a list or a tuple -/
def Rw (a b : Nat) (d : D) (ws : List Int) (S : Sto) : Prop := d = .tup (ws.map D.int) ∨ ∃ p, d = .ref p ∧ p ≠ a ∧ p ≠ b ∧ S[p]? = some (.lst (ws.map D.int))
theorem Rw.fh {a b : Nat} {d : D} {ws : List Int} {S S' : Sto} (r : Rw a b d ws S) (f : Fh a b S S') : Rw a b d ws S' := by
  rcases r with h | ⟨p, h, pa, pb, e⟩
  · exact .inl h
  · exact .inr ⟨p, h, pa, pb, f.at_ e pa pb⟩
theorem Rw.len {a b : Nat} {d : D} {ws : List Int} {S : Sto} (r : Rw a b d ws S) (hl : ws.length ≤ LINE) : lenW (.d d) S = some ws.length := by
  rcases r with rfl | ⟨p, rfl, pa, pb, e⟩
  · show some (ws.map D.int).length = _
    rw [List.length_map]
  · rw [len_ref e, List.length_map]
theorem Rw.idx {a b : Nat} {d : D} {ws : List Int} {S : Sto} (r : Rw a b d ws S) {i : Nat} {w : Int} (h : ws[i]? = some w) : idxW (.d d) (.int (i : Int)) S = some (.int w) := by
  rcases r with rfl | ⟨p, rfl, pa, pb, e⟩
  · exact idx_tn (by rw [List.getElem?_map, h]; rfl)
  · exact idx_rn e (by rw [List.getElem?_map, h]; rfl)
theorem Rw.slc {a b : Nat} {d : D} {ws : List Int} {S : Sto} (r : Rw a b d ws S) (ha : a < S.length) (hb : b < S.length) (lo hi : Option Int) {Q : W → Sto → Prop}
    (q : ∀ w, (∀ d' S', Ok (W.al w S) (fun d S => d = d' ∧ S = S') → Rw a b d' (cut ws lo hi) S' ∧ Nw S S') → Q w S) : Ok (opt (slcW (.d d) lo hi S) S) Q := by
  rcases r with rfl | ⟨p, rfl, pa, pb, e⟩
  · show Q _ S
    refine q _ ?_
    rintro d' S' ⟨rfl, rfl⟩
    exact ⟨.inl (by rw [cut_map]), .inl rfl⟩
  · rw [slc_ref e]
    refine q _ ?_
    rintro d' S' ⟨rfl, rfl⟩
    exact ⟨.inr ⟨S.length, rfl, by omega, by omega, by rw [cut_map]; exact app_at _ _⟩, .inr ⟨_, rfl⟩⟩
theorem al_Ok {w : W} {S : Sto} {Q : D → Sto → Prop} (h : ∀ d S', Ok (W.al w S) (fun d' S'' => d' = d ∧ S'' = S') → Q d S') : Ok (W.al w S) Q := by
  cases w with
  | d x => exact h x S ⟨rfl, rfl⟩
  | o ob => exact h _ _ ⟨rfl, rfl⟩
theorem wf_take {ws : List Int} {m j : Nat} (h : j < m) : wf (ws.take m) j = wf ws j := by
  unfold wf
  rw [List.getD_eq_getElem?_getD, List.getD_eq_getElem?_getD, List.getElem?_take_of_lt h]
theorem wf_drop {ws : List Int} {m j : Nat} : wf (ws.drop m) j = wf ws (j + m) := by
  unfold wf
  rw [List.getD_eq_getElem?_getD, List.getD_eq_getElem?_getD, List.getElem?_drop, Nat.add_comm]
/-! ### seals by halves -/
section
variable (N : TrN) (iL : Nat)
theorem giv_same {T : List Th} {s : Int} {t : Th} (h : At T s t) : giv T t = T := if_pos (List.mem_of_getElem? h.2)
def TrN.l1 : Stm := .ret (.meth (.var 0) N.mL [(N.C, N.iL)] (.cons (.idx (.var 1) (.con (.int 0))) .nil))
def TrN.l0 : Stm := .ite (.cmp .eq (.blt .len (.cons (.var 1) .nil)) (.con (.int 1))) (.cons N.l1 .nil) (.nil)
def TrN.l2 : Stm := .set (.nm 2) (.bin .fdiv (.blt .len (.cons (.var 1) .nil)) (.con (.int 2)))
def TrN.l3 : Stm := .set (.nm 3) (.call iL (.cons (.var 0) (.cons (.slc (.var 1) .no (.ya (.var 2))) .nil)))
def TrN.l4 : Stm := .ret (.meth (.var 0) N.mP [(N.C, N.iP)] (.cons (.var 3) (.cons (.call iL (.cons (.var 0) (.cons (.slc (.var 1) (.ya (.var 2)) .no) .nil))) .nil)))
def TrN.bL : Sts := .cons N.l0 (.cons TrN.l2 (.cons (TrN.l3 iL) (.cons (N.l4 iL) .nil)))
end
section
variable {N : TrN} {P : Pg} {h a b fu : Nat} {Q : W → Sto → Prop}
theorem halves_ok {iL : Nat} (ok : HsP P N.toHsN) (hL : Has P iL (N.bL iL) 2 4) : ∀ (d n : Nat) (S : Sto) (T : List Th) (r : D) (ws : List Int) (Q : W → Sto → Prop), d ≤ 12 → Hs N.toHsN h a b S T → T.length + 2 ^ (d + 1) < 8000000 → ws.length = 2 ^ d → Rw a b r ws S →
    (∀ (s : Int) (S' : Sto) (T' : List Th), Hs N.toHsN h a b S' T' → Ext T T' (2 ^ (d + 1) - 1) → Sl T' (wf ws) d 0 s → Fh a b S S' → (∀ s0, Sl T (wf ws) d 0 s0 → T' = T) → Q (.d (.int s)) S') → Ok (run fu P (n + d + 3) iL [.ref h, r] S) Q
  | 0, n, S, T, r, ws, Q, hd, H, hT, hw, hr, q => by
    refine has_run hL rfl ?_
    show Ok (evSs fu _ _ _ (N.bL iL) [some (.ref h), some r, none, none] S) _
    unfold TrN.bL
    obtain ⟨w, rfl⟩ : ∃ w, ws = [w] := by
      cases ws with
      | nil => cases hw
      | cons w r => cases r with
        | nil => exact ⟨w, rfl⟩
        | cons _ _ => simp at hw
    refine ok_cons ?_
    have hlen : lenW (.d r) S = some 1 := hr.len (len_one w)
    simp only [TrN.l0, tst, evE, evWs, evDs, evO, evC, evI, Ok_bind, Ok_ok, Ok_al, al_d, al_o, bind_ok, al_ok_d, al_ok_o, opt_some, testD_bl, List.getElem?_cons_zero, List.getElem?_cons_succ, List.set_cons_zero, List.set_cons_succ, Option.map_some, cmpW, ordW, bltW, binW, intW, addW, evS, Tg.put, if_true, Bool.false_eq_true, if_false, hlen]
    rw [eqW_scal rfl]
    simp only [tst, evE, evWs, evDs, evO, evC, evI, Ok_bind, Ok_ok, Ok_al, al_d, al_o, bind_ok, al_ok_d, al_ok_o, opt_some, testD_bl, List.getElem?_cons_zero, List.getElem?_cons_succ, List.set_cons_zero, List.set_cons_succ, Option.map_some, cmpW, ordW, bltW, binW, intW, addW, evS, Tg.put, if_true, Bool.false_eq_true, if_false, show decide (D.int ((1 : Nat) : Int) = .int 1) = true from rfl]
    refine ok_one ?_
    have hlm := H.lM ok (m := N.mL) (by simp)
    have hi : idxW (.d r) (.int 0) S = some (.int w) := hr.idx (i := 0) rfl
    simp only [TrN.l1, tst, evE, evWs, evDs, evO, evC, evI, Ok_bind, Ok_ok, Ok_al, al_d, al_o, bind_ok, al_ok_d, al_ok_o, opt_some, testD_bl, List.getElem?_cons_zero, List.getElem?_cons_succ, List.set_cons_zero, List.set_cons_succ, Option.map_some, cmpW, ordW, bltW, binW, intW, addW, evS, Tg.put, if_true, Bool.false_eq_true, if_false, H.i, hlm, List.lookup_cons, beq_self_eq_true, Option.isNone_none, hi]
    refine leaf_ok ok H (by omega) w fun S1 H1 hF1 _ => ?_
    refine q _ S1 _ H1 ((giv_ext _ _).le (by decide)) ?_ hF1 fun s0 h0 => giv_same (h0 : At T s0 (.leaf w))
    exact num_at _ _
  | d + 1, n, S, T, r, ws, Q, hd, H, hT, hw, hr, q => by
    refine has_run hL rfl ?_
    show Ok (evSs fu (run fu P (n + d + 3)) (run fu P (n + d + 3)) _ (N.bL iL) [some (.ref h), some r, none, none] S) _
    unfold TrN.bL
    have hp : 2 ^ (d + 1) = 2 * 2 ^ d := by rw [Nat.pow_succ]; omega
    have hp2 : 2 ^ (d + 1 + 1) = 2 * 2 ^ (d + 1) := by rw [Nat.pow_succ]; omega
    have hpos : 0 < 2 ^ d := Nat.pow_pos (by decide)
    have hp12 : 2 ^ (d + 1) ≤ 2 ^ 12 := Nat.pow_le_pow_right (by decide) hd
    have hlen : lenW (.d r) S = some (2 ^ (d + 1)) := by rw [hr.len (by simp only [LINE]; omega), hw]
    refine ok_cons ?_
    simp only [TrN.l0, tst, evE, evWs, evDs, evO, evC, evI, Ok_bind, Ok_ok, Ok_al, al_d, al_o, bind_ok, al_ok_d, al_ok_o, opt_some, testD_bl, List.getElem?_cons_zero, List.getElem?_cons_succ, List.set_cons_zero, List.set_cons_succ, Option.map_some, cmpW, ordW, bltW, binW, intW, addW, evS, Tg.put, if_true, Bool.false_eq_true, if_false, hlen]
    rw [eqW_scal rfl]
    have hne : decide (D.int ((2 ^ (d + 1) : Nat) : Int) = .int 1) = false := decide_eq_false fun e => by injection e with e; omega
    simp only [tst, evE, evWs, evDs, evO, evC, evI, Ok_bind, Ok_ok, Ok_al, al_d, al_o, bind_ok, al_ok_d, al_ok_o, opt_some, testD_bl, List.getElem?_cons_zero, List.getElem?_cons_succ, List.set_cons_zero, List.set_cons_succ, Option.map_some, cmpW, ordW, bltW, binW, intW, addW, evS, Tg.put, if_true, Bool.false_eq_true, if_false, hne]
    refine ok_nil ?_
    refine ok_cons ?_
    have hfd : (if decide ((0 : Int) < 2 ∧ (2 : Int).natAbs.log2 < 9000) = true then some (W.d (.int (((2 ^ (d + 1) : Nat) : Int) / 2))) else none) = some (.d (.int ((2 ^ d : Nat) : Int))) := by
      rw [if_pos (by decide), fdiv_two]
    simp only [TrN.l2, tst, evE, evWs, evDs, evO, evC, evI, Ok_bind, Ok_ok, Ok_al, al_d, al_o, bind_ok, al_ok_d, al_ok_o, opt_some, testD_bl, List.getElem?_cons_zero, List.getElem?_cons_succ, List.set_cons_zero, List.set_cons_succ, Option.map_some, cmpW, ordW, bltW, binW, intW, addW, evS, Tg.put, if_true, Bool.false_eq_true, if_false, hlen, hfd]
    have hlt := H.lt
    refine ok_cons ?_
    simp only [TrN.l3, tst, evE, evWs, evDs, evO, evC, evI, Ok_bind, Ok_ok, Ok_al, al_d, al_o, bind_ok, al_ok_d, al_ok_o, opt_some, testD_bl, List.getElem?_cons_zero, List.getElem?_cons_succ, List.set_cons_zero, List.set_cons_succ, Option.map_some, cmpW, ordW, bltW, binW, intW, addW, evS, Tg.put, if_true, Bool.false_eq_true, if_false]
    refine hr.slc hlt.2.1 hlt.2.2 _ _ fun w1 hw1 => ?_
    refine al_Ok fun d1 S1 hd1 => ?_
    obtain ⟨hr1, hN1⟩ := hw1 d1 S1 hd1
    rw [cut_hi] at hr1
    have H1 := hN1.hs H
    refine halves_ok ok hL d n S1 T d1 _ _ (by omega) H1 (by omega) (by rw [List.length_take, hw]; omega) hr1 fun s1 S2 T2 H2 he2 hs2 hF2 hu2 => ?_
    simp only [tst, evE, evWs, evDs, evO, evC, evI, Ok_bind, Ok_ok, Ok_al, al_d, al_o, bind_ok, al_ok_d, al_ok_o, opt_some, testD_bl, List.getElem?_cons_zero, List.getElem?_cons_succ, List.set_cons_zero, List.set_cons_succ, Option.map_some, cmpW, ordW, bltW, binW, intW, addW, evS, Tg.put, if_true, Bool.false_eq_true, if_false]
    refine ok_one ?_
    have hlm := H2.lM ok (m := N.mP) (by simp)
    have hT2 : T2.length + 2 ^ (d + 1) < 8000000 := by have := he2.2; omega
    simp only [TrN.l4, tst, evE, evWs, evDs, evO, evC, evI, Ok_bind, Ok_ok, Ok_al, al_d, al_o, bind_ok, al_ok_d, al_ok_o, opt_some, testD_bl, List.getElem?_cons_zero, List.getElem?_cons_succ, List.set_cons_zero, List.set_cons_succ, Option.map_some, cmpW, ordW, bltW, binW, intW, addW, evS, Tg.put, if_true, Bool.false_eq_true, if_false, H2.i, hlm, List.lookup_cons, beq_self_eq_true, Option.isNone_none]
    have hr2 := hr.fh (hN1.fh.trans hF2)
    have hlt2 := H2.lt
    refine hr2.slc hlt2.2.1 hlt2.2.2 _ _ fun w2 hw2 => ?_
    refine al_Ok fun d2 S3 hd2 => ?_
    obtain ⟨hr3, hN3⟩ := hw2 d2 S3 hd2
    rw [cut_lo] at hr3
    have H3 := hN3.hs H2
    refine halves_ok ok hL d n S3 T2 d2 _ _ (by omega) H3 hT2 (by rw [List.length_drop, hw]; omega) hr3 fun s2 S4 T4 H4 he4 hs4 hF4 hu4 => ?_
    simp only [tst, evE, evWs, evDs, evO, evC, evI, Ok_bind, Ok_ok, Ok_al, al_d, al_o, bind_ok, al_ok_d, al_ok_o, opt_some, testD_bl, List.getElem?_cons_zero, List.getElem?_cons_succ, List.set_cons_zero, List.set_cons_succ, Option.map_some, cmpW, ordW, bltW, binW, intW, addW, evS, Tg.put, if_true, Bool.false_eq_true, if_false]
    refine pair_ok ok H4 (by have := he4.2; have := he2.2; omega) s1 s2 fun S5 H5 hF5 _ => ?_
    have he := (he2.trans he4).trans (giv_ext T4 (.pair s1 s2))
    refine q _ S5 _ H5 (he.le (by omega)) ?_ ((((hN1.fh.trans hF2).trans hN3.fh).trans hF4).trans hF5) ?_
    rotate_left
    · rintro s0 ⟨x, y, h1, h2, h3⟩
      have e2 : Sl T (wf (ws.take (2 ^ d))) d 0 x := Sl.congr (fun j _ h2 => (wf_take (by omega)).symm) h2
      have e4 : Sl T (wf (ws.drop (2 ^ d))) d 0 y := by
        have h3 : Sl T (wf ws) d (0 + 1) y := h3
        rw [← Sl.shift] at h3
        exact Sl.congr (fun j _ _ => by rw [wf_drop, Nat.one_mul]) h3
      have t2 := hu2 x e2
      subst t2
      have t4 := hu4 y e4
      subst t4
      have u1 := Sl.uniq H.nd hs2 e2
      have u2 := Sl.uniq H.nd hs4 e4
      subst u1 u2
      exact giv_same h1
    refine ⟨s1, s2, num_at _ _, Sl.mono (he4.1.trans (giv_ext _ _).1) (Sl.congr (fun j _ h2 => wf_take (by omega)) hs2), ?_⟩
    have h1 : Sl T4 (fun j => wf ws (j + 1 * 2 ^ d)) d 0 s2 := Sl.congr (fun j _ _ => by rw [wf_drop, Nat.one_mul]) hs4
    rw [Sl.shift] at h1
    exact Sl.mono (giv_ext _ _).1 h1
theorem halves_at' {iL m d : Nat} {S : Sto} {T : List Th} {r : D} {ws : List Int} (ok : HsP P N.toHsN) (hL : Has P iL (N.bL iL) 2 4) (hm : d + 3 ≤ m) (hd : d ≤ 12) (H : Hs N.toHsN h a b S T) (hT : T.length + 2 ^ (d + 1) < 8000000) (hw : ws.length = 2 ^ d) (hr : Rw a b r ws S)
    (q : ∀ (s : Int) (S' : Sto) (T' : List Th), Hs N.toHsN h a b S' T' → Ext T T' (2 ^ (d + 1) - 1) → Sl T' (wf ws) d 0 s → Fh a b S S' → (∀ s0, Sl T (wf ws) d 0 s0 → T' = T) → Q (.d (.int s)) S') : Ok (run fu P m iL [.ref h, r] S) Q := by
  obtain ⟨n, rfl⟩ : ∃ n, m = n + d + 3 := ⟨m - d - 3, by omega⟩
  exact halves_ok ok hL d n S T r ws Q hd H hT hw hr q
theorem halves_at {iL m d : Nat} {S : Sto} {T : List Th} {r : D} {ws : List Int} (ok : HsP P N.toHsN) (hL : Has P iL (N.bL iL) 2 4) (hm : d + 3 ≤ m) (hd : d ≤ 12) (H : Hs N.toHsN h a b S T) (hT : T.length + 2 ^ (d + 1) < 8000000) (hw : ws.length = 2 ^ d) (hr : Rw a b r ws S)
    (q : ∀ (s : Int) (S' : Sto) (T' : List Th), Hs N.toHsN h a b S' T' → Ext T T' (2 ^ (d + 1) - 1) → Sl T' (wf ws) d 0 s → Fh a b S S' → Q (.d (.int s)) S') : Ok (run fu P m iL [.ref h, r] S) Q := by
  obtain ⟨n, rfl⟩ : ∃ n, m = n + d + 3 := ⟨m - d - 3, by omega⟩
  exact halves_ok ok hL d n S T r ws Q hd H hT hw hr fun s S' T' a b c d _ => q s S' T' a b c d
theorem house_ok {N : HsN} {n : Nat} {S : Sto} {ρ : Env} (ok : HsP P N) (hini : P.T.ini N.C = some N.iI)
    (q : ∀ S', Hs N S.length (S.length + 1) (S.length + 2) S' [] → S'.length = S.length + 3 → (∀ i, i < S.length → S'[i]? = S[i]?) → Q (.d (.ref S.length)) S') :
    Ok (evE (run fu P (n + 1)) (run fu P (n + 1)) P.T.ini (.make N.C .nil) ρ S) Q := by
  rw [evE, evDs, bind_ok]
  unfold mkObj
  rw [hini]
  dsimp only
  rw [Ok_bind]
  refine has_run ok.I rfl ?_
  show Ok (evSs fu _ _ _ N.bI [some (.ref S.length)] (S ++ [.ins N.C []])) _
  unfold HsN.bI
  refine ok_cons ?_
  have e1 : (S ++ [O.ins N.C []] ++ [O.dT []])[S.length]? = some (.ins N.C []) := app_keep (app_at _ _)
  have g1 : setF (.ref S.length) N.fN [N.C] (.ref (S ++ [O.ins N.C []]).length) (S ++ [O.ins N.C []] ++ [O.dT []]) = some ((S ++ [O.ins N.C []] ++ [O.dT []]).set S.length (.ins N.C [(N.fN, .ref (S ++ [O.ins N.C []]).length)])) := by
    unfold setF
    simp only [e1, List.contains_cons, beq_self_eq_true, Bool.true_or]
    rw [if_pos ⟨trivial, by decide⟩]
    rfl
  simp only [HsN.i0, tst, evE, evWs, evDs, evO, evC, evI, Ok_bind, Ok_ok, Ok_al, al_d, al_o, bind_ok, al_ok_d, al_ok_o, opt_some, testD_bl, List.getElem?_cons_zero, List.getElem?_cons_succ, List.set_cons_zero, List.set_cons_succ, Option.map_some, cmpW, ordW, bltW, binW, intW, addW, evS, Tg.put, if_true, Bool.false_eq_true, if_false, g1]
  refine ok_one ?_
  generalize hS1 : (S ++ [O.ins N.C []] ++ [O.dT []]).set S.length (.ins N.C [(N.fN, .ref (S ++ [O.ins N.C []]).length)]) = S1
  have hl1 : S1.length = S.length + 2 := by rw [← hS1]; simp
  have e2 : S1[S.length]? = some (.ins N.C [(N.fN, .ref (S.length + 1))]) := by
    rw [← hS1, set_at e1]
    simp
  have e3 : S1[S.length + 1]? = some (.dT []) := by
    rw [← hS1, List.getElem?_set_ne (by omega)]
    rw [List.getElem?_append_right (by simp)]
    simp
  have hk : ∀ i, i < S.length → S1[i]? = S[i]? := fun i hi => by
    rw [← hS1, List.getElem?_set_ne (by omega), List.getElem?_append_left (by simp; omega), List.getElem?_append_left hi]
  clear hS1
  unfold HsN.i1
  rw [evS, Ok_bind, Ok_al]
  refine ok_lstE ?_
  refine ok_dcons ?_
  simp only [tst, evE, evWs, evDs, evO, evC, evI, Ok_bind, Ok_ok, Ok_al, al_d, al_o, bind_ok, al_ok_d, al_ok_o, opt_some, testD_bl, List.getElem?_cons_zero, List.getElem?_cons_succ, List.set_cons_zero, List.set_cons_succ, Option.map_some, cmpW, ordW, bltW, binW, intW, addW, evS, Tg.put, if_true, Bool.false_eq_true, if_false]
  refine ⟨by simp, ?_⟩
  have e4 : (S1 ++ [O.lst [.non]])[S.length]? = some (.ins N.C [(N.fN, .ref (S.length + 1))]) := app_keep e2
  have g2 : setF (.ref S.length) N.fT [N.C] (.ref S1.length) (S1 ++ [O.lst [.non]]) = some ((S1 ++ [O.lst [.non]]).set S.length (.ins N.C [(N.fN, .ref (S.length + 1)), (N.fT, .ref S1.length)])) := by
    unfold setF
    simp only [e4, List.contains_cons, beq_self_eq_true, Bool.true_or]
    rw [if_pos ⟨trivial, by simp⟩]
    congr 3
    unfold putFs
    rw [if_neg]
    · rfl
    · simpa using ok.ne
  simp only [tst, evE, evWs, evDs, evO, evC, evI, Ok_bind, Ok_ok, Ok_al, al_d, al_o, bind_ok, al_ok_d, al_ok_o, opt_some, testD_bl, List.getElem?_cons_zero, List.getElem?_cons_succ, List.set_cons_zero, List.set_cons_succ, Option.map_some, cmpW, ordW, bltW, binW, intW, addW, evS, Tg.put, if_true, Bool.false_eq_true, if_false, g2]
  refine q _ ⟨?_, ?_, ?_, by simp⟩ (by simp [hl1]) (fun i hi => ?_)
  · rw [set_at e4, hl1]
  · rw [List.getElem?_set_ne (by omega)]
    exact app_keep e3
  · rw [List.getElem?_set_ne (by omega), ← hl1]
    exact app_at _ _
  · rw [List.getElem?_set_ne (by omega), List.getElem?_append_left (by omega)]
    exact hk i hi
end
end PyI

set_option maxRecDepth 100000
set_option maxHeartbeats 1000000
/-! PyI: more rules. -/
namespace PyI
section
variable {cb ci : Cb} {ini : Nat → Option Nat} {ρ : Env} {S : Sto}
theorem ok_binE {o : Bop} {a b : Ex} {Q : W → Sto → Prop} (h : Ok (evE cb ci ini a ρ S) fun x S => Ok (evE cb ci ini b ρ S) fun y S => ∃ w, binW o x y S = some w ∧ Q w S) : Ok (evE cb ci ini (.bin o a b) ρ S) Q := by
  rw [evE, Ok_bind]
  refine h.mono fun x S h => ?_
  rw [Ok_bind]
  refine h.mono fun y S h => ?_
  obtain ⟨w, h1, h2⟩ := h
  rw [h1]
  exact h2
theorem ok_cmpE {o : Cop} {a b : Ex} {Q : W → Sto → Prop} (h : Ok (evE cb ci ini a ρ S) fun x S => Ok (evE cb ci ini b ρ S) fun y S => ∃ w, cmpW o x y S = some w ∧ Q (.d (.bl w)) S) : Ok (evE cb ci ini (.cmp o a b) ρ S) Q := by
  rw [evE, Ok_bind]
  refine h.mono fun x S h => ?_
  rw [Ok_bind]
  refine h.mono fun y S h => ?_
  obtain ⟨w, h1, h2⟩ := h
  rw [h1]
  exact h2
theorem ok_blt1E {b : Blt} {a : Ex} {Q : W → Sto → Prop} (h : Ok (evE cb ci ini a ρ S) fun x S => ∃ w, bltW b [x] S = some w ∧ Q w S) : Ok (evE cb ci ini (.blt b (.cons a .nil)) ρ S) Q := by
  rw [evE, Ok_bind, evWs, Ok_bind]
  refine h.mono fun x S h => ?_
  rw [Ok_bind, evWs, Ok_ok, Ok_ok]
  obtain ⟨w, h1, h2⟩ := h
  rw [h1]
  exact h2
theorem ok_bandE {a b : Ex} {Q : W → Sto → Prop} (h : Ok (evE cb ci ini a ρ S) fun x S => ∃ t, x = .d (.bl t) ∧ if t = true then Ok (evE cb ci ini b ρ S) (fun y S => ∃ u, y = .d (.bl u) ∧ Q (.d (.bl u)) S) else Q (.d (.bl false)) S) : Ok (evE cb ci ini (.band a b) ρ S) Q := by
  rw [evE, Ok_bind]
  refine h.mono fun x S h => ?_
  obtain ⟨t, rfl, h⟩ := h
  rw [testD_bl]
  cases t with
  | false => exact h
  | true =>
    rw [if_pos rfl] at h ⊢
    rw [Ok_bind]
    refine h.mono fun y S h => ?_
    obtain ⟨u, rfl, h⟩ := h
    rw [testD_bl]
    exact h
theorem ok_borE {a b : Ex} {Q : W → Sto → Prop} (h : Ok (evE cb ci ini a ρ S) fun x S => ∃ t, x = .d (.bl t) ∧ if t = true then Q (.d (.bl true)) S else Ok (evE cb ci ini b ρ S) (fun y S => ∃ u, y = .d (.bl u) ∧ Q (.d (.bl u)) S)) : Ok (evE cb ci ini (.bor a b) ρ S) Q := by
  rw [evE, Ok_bind]
  refine h.mono fun x S h => ?_
  obtain ⟨t, rfl, h⟩ := h
  rw [testD_bl]
  cases t with
  | true => exact h
  | false =>
    rw [if_neg (by decide)] at h ⊢
    rw [Ok_bind]
    refine h.mono fun y S h => ?_
    obtain ⟨u, rfl, h⟩ := h
    rw [testD_bl]
    exact h
theorem ok_iteS {fu : Nat} {c : Ex} {a b : Sts} {Q : Out → Sto → Prop} (h : Ok (evE cb ci ini c ρ S) fun x S => ∃ t, x = .d (.bl t) ∧ if t = true then Ok (evSs fu cb ci ini a ρ S) Q else Ok (evSs fu cb ci ini b ρ S) Q) : Ok (evS fu cb ci ini (.ite c a b) ρ S) Q := by
  rw [evS, Ok_bind]
  unfold tst
  rw [Ok_bind]
  refine h.mono fun x S h => ?_
  obtain ⟨t, rfl, h⟩ := h
  rw [testD_bl, Ok_ok, Ok_ite]
  exact h
theorem lc_map {vs : List Nat} {t : Tg} {it : Itx} {e : Ex} (g : D → D) {its : List D} {at_ : List (Nat × List D)} (hit : evI cb ci ini it ρ S = .ok ⟨its, at_⟩ S) (hs : Wk.stays ⟨its, at_⟩ S = true) (hl : its.length ≤ LINE)
    (hstep : ∀ x ∈ its, ∃ ρ', t.put x (wipeE ρ vs) = some ρ' ∧ evE cb ci ini e ρ' S = .ok (.d (g x)) S) : evE cb ci ini (.lc vs t it .no e) ρ S = .ok (.o (.lst (its.map g))) S := by
  rw [evE, hit, bind_ok]
  rw [lc_pure hs (fun x => some (g x)) its [] (fun x hx => ?_) (by simpa using hl)]
  · simp
  · obtain ⟨ρ', h1, h2⟩ := hstep x hx
    rw [h1]
    dsimp only
    rw [evC, bind_ok, if_pos rfl, h2, al_ok_d, bind_ok]
    rfl
theorem lc_fil {vs : List Nat} {t : Tg} {it : Itx} {c e : Ex} (g : D → D) (b : D → Bool) {its : List D} {at_ : List (Nat × List D)} (hit : evI cb ci ini it ρ S = .ok ⟨its, at_⟩ S) (hs : Wk.stays ⟨its, at_⟩ S = true) (hl : its.length ≤ LINE)
    (hstep : ∀ x ∈ its, ∃ ρ', t.put x (wipeE ρ vs) = some ρ' ∧ evE cb ci ini c ρ' S = .ok (.d (.bl (b x))) S ∧ (b x = true → evE cb ci ini e ρ' S = .ok (.d (g x)) S)) : evE cb ci ini (.lc vs t it (.ya c) e) ρ S = .ok (.o (.lst ((its.filter b).map g))) S := by
  rw [evE, hit, bind_ok]
  rw [lc_pure hs (fun x => if b x = true then some (g x) else none) its [] (fun x hx => ?_) (by simpa using hl)]
  · congr 3
    clear hstep hl hs hit
    induction its with
    | nil => rfl
    | cons x l ih =>
      simp only [List.nil_append] at ih ⊢
      rw [List.filterMap_cons, List.filter_cons]
      by_cases hb : b x = true
      · simp only [hb, if_true, List.map_cons, ih]
      · simp only [hb, if_false, ih]
        simp
  · obtain ⟨ρ', h1, h2, h3⟩ := hstep x hx
    rw [h1]
    dsimp only
    rw [evC, h2, bind_ok, testD_bl, bind_ok]
    by_cases hb : b x = true
    · rw [hb, if_pos rfl, h3 hb, al_ok_d, bind_ok]
      rfl
    · rw [if_neg hb, if_neg hb]
      rfl
theorem seq_tup {l : List D} {S : Sto} : seqWk (.d (.tup l)) S = some ⟨l, []⟩ := rfl
theorem stays_nil {its : List D} {S : Sto} : Wk.stays ⟨its, []⟩ S = true := rfl
end
/-- [x] * n -/
theorem rep_one {x : D} {n : Nat} {S : Sto} (h : n ≤ 1000000) : mulW (.o (.lst [x])) (.d (.int (n : Int))) S = some (.o (.lst (List.replicate n x))) := by
  show repL (.o (.lst [x])) (.d (.int (n : Int))) S = _
  unfold repL
  show (if -(2 ^ 63) ≤ (n : Int) ∧ (n : Int) < 2 ^ 63 ∧ [x].length * (n : Int).toNat ≤ LINE then some (W.o (.lst (List.replicate (n : Int).toNat [x]).flatten)) else none) = _
  have hf : ∀ m : Nat, (List.replicate m [x]).flatten = List.replicate m x := fun m => by
    induction m with
    | zero => rfl
    | succ m ih => rw [List.replicate_succ, List.flatten_cons, ih]; rfl
  rw [if_pos ⟨by omega, by omega, by rw [Int.toNat_natCast]; show 1 * n ≤ LINE; unfold LINE; omega⟩, Int.toNat_natCast, hf]
theorem rep_lit {x : D} {S : Sto} (n : Nat) {m : Int} (hm : m = (n : Int)) (h : n ≤ 1000000) : binW .mul (.o (.lst [x])) (.d (.int m)) S = some (.o (.lst (List.replicate n x))) := by
  subst hm
  simp only [binW]
  exact rep_one h
/-- (x,) * n -/
theorem rep_tup {x : D} {n : Nat} {S : Sto} (h : n ≤ 1000) : mulW (.d (.tup [x])) (.d (.int (n : Int))) S = some (.d (.tup (List.replicate n x))) := by
  show (if [x] ≠ [] ∧ 0 ≤ (n : Int) ∧ (n : Int) ≤ 1000 ∧ [x].length ≤ 1000 then some (W.d (.tup (List.replicate (n : Int).toNat [x]).flatten)) else none) = _
  have hf : ∀ m : Nat, (List.replicate m [x]).flatten = List.replicate m x := fun m => by
    induction m with
    | zero => rfl
    | succ m ih => rw [List.replicate_succ, List.flatten_cons, ih]; rfl
  rw [if_pos ⟨by simp, by omega, by omega, by show 1 ≤ 1000; omega⟩, Int.toNat_natCast, hf]
theorem add_own {l m : List D} {S : Sto} (h : l.length + m.length ≤ LINE) : addW (.o (.lst l)) (.o (.lst m)) S = some (.o (.lst (l ++ m))) := if_pos h
theorem add_ownR {l m : List D} {r : Nat} {S : Sto} (e : S[r]? = some (.lst m)) (h : l.length + m.length ≤ LINE) : addW (.o (.lst l)) (.d (.ref r)) S = some (.o (.lst (l ++ m))) := by
  have hm : mlsOf (.d (.ref r)) S = some m := by unfold mlsOf; simp only [e]
  show catL (.o (.lst l)) (.d (.ref r)) S = _
  unfold catL
  rw [hm]
  exact if_pos h
theorem add_tup {l m : List D} {S : Sto} (h : l.length + m.length ≤ LINE) : addW (.d (.tup l)) (.d (.tup m)) S = some (.d (.tup (l ++ m))) := if_pos h
theorem lst_own {l : List D} {S : Sto} : lstOf (.o (.lst l)) S = some l := rfl
theorem tup_own {o : O} : tupOf (.o o) = none := rfl
theorem tup_tup {l : List D} : tupOf (.d (.tup l)) = some l := rfl
theorem tup_ref {r : Nat} : tupOf (.d (.ref r)) = none := rfl
theorem lst_ref {l : List D} {r : Nat} {S : Sto} (e : S[r]? = some (.lst l)) : lstOf (.d (.ref r)) S = some l := by unfold lstOf; simp only [e]
theorem badd_own {l m : List D} {S : Sto} (h : l.length + m.length ≤ LINE) : binW .add (.o (.lst l)) (.o (.lst m)) S = some (.o (.lst (l ++ m))) := add_own (S := S) h
theorem badd_ownR {l m : List D} {r : Nat} {S : Sto} (e : S[r]? = some (.lst m)) (h : l.length + m.length ≤ LINE) : binW .add (.o (.lst l)) (.d (.ref r)) S = some (.o (.lst (l ++ m))) := add_ownR e h
theorem badd_tup {l m : List D} {S : Sto} (h : l.length + m.length ≤ LINE) : binW .add (.d (.tup l)) (.d (.tup m)) S = some (.d (.tup (l ++ m))) := add_tup (S := S) h
theorem brep_tup {x : D} {n : Nat} {m : Int} {S : Sto} (hm : m = (n : Int)) (h : n ≤ 1000) : binW .mul (.d (.tup [x])) (.d (.int m)) S = some (.d (.tup (List.replicate n x))) := by subst hm; exact rep_tup (S := S) h
theorem bmul_l {a b : Int} {S : Sto} (h : -(2 ^ 64) < a ∧ a < 2 ^ 64) : binW .mul (.d (.int a)) (.d (.int b)) S = some (.d (.int (a * b))) := mul_l (S := S) h
theorem bmul_r {a b : Int} {S : Sto} (h : -(2 ^ 64) < b ∧ b < 2 ^ 64) : binW .mul (.d (.int a)) (.d (.int b)) S = some (.d (.int (a * b))) := mul_r (S := S) h
theorem len_tup {l : List D} {S : Sto} : lenW (.d (.tup l)) S = some l.length := rfl
theorem len_own {l : List D} {S : Sto} : lenW (.o (.lst l)) S = some l.length := rfl
theorem int_cut {l : List D} {n : Nat} : cut l (some (n : Int)) none = l.drop n := by
  have hs : sI l.length 0 (some (n : Int)) = min n l.length := by
    show (if (n : Int) < 0 then ((n : Int) + (l.length : Int)).toNat else min (n : Int).toNat l.length) = _
    rw [if_neg (by omega), Int.toNat_natCast]
  have ht : sI l.length l.length none = l.length := rfl
  unfold cut
  rw [hs, ht, List.take_of_length_le (by rw [List.length_drop]; exact Nat.le_refl _)]
  rcases Nat.le_total n l.length with h | h
  · rw [Nat.min_eq_left h]
  · rw [Nat.min_eq_right h, List.drop_of_length_le (Nat.le_refl _), List.drop_of_length_le h]
/-- a store that has grown -/
def Gr (S S' : Sto) : Prop := ∃ G, S' = S ++ G
theorem Gr.refl {S : Sto} : Gr S S := ⟨[], by simp⟩
theorem Gr.app {S : Sto} (o : O) : Gr S (S ++ [o]) := ⟨[o], rfl⟩
theorem Gr.trans {S S' S'' : Sto} (a : Gr S S') (b : Gr S' S'') : Gr S S'' := by
  obtain ⟨G, rfl⟩ := a
  obtain ⟨G', rfl⟩ := b
  exact ⟨G ++ G', by rw [List.append_assoc]⟩
theorem Gr.at_ {S S' : Sto} {p : Nat} {o : O} (h : Gr S S') (e : S[p]? = some o) : S'[p]? = some o := by
  obtain ⟨G, rfl⟩ := h
  rw [List.getElem?_append_left (List.getElem?_eq_some_iff.mp e).1]
  exact e
theorem Gr.le {S S' : Sto} (h : Gr S S') : S.length ≤ S'.length := by
  obtain ⟨G, rfl⟩ := h
  simp
theorem Gr.fr {S S' : Sto} (k j : Nat) (h : Gr S S') : Fr k j S S' := ⟨h.le, fun i hi _ _ => by
  obtain ⟨G, rfl⟩ := h
  rw [List.getElem?_append_left hi]⟩
theorem Gr.dl {S S' : Sto} {k j : Nat} (h : Gr S S') (d : Dl k j S) : Dl k j S' := by
  obtain ⟨G, rfl⟩ := h
  induction G generalizing S with
  | nil => simpa using d
  | cons o G ih =>
    have := ih (S := S ++ [o]) (d.app o)
    rwa [List.append_assoc] at this
/-! ### steps -/
section
variable {cb ci : Cb} {ini : Nat → Option Nat} {ρ : Env} {S : Sto}
theorem ok_varE {i : Nat} {d : D} {Q : W → Sto → Prop} (h : ρ[i]? = some (some d)) (q : Q (.d d) S) : Ok (evE cb ci ini (.var i) ρ S) Q := by
  rw [evE, h]
  exact q
theorem ok_conE {d : D} {Q : W → Sto → Prop} (q : Q (.d d) S) : Ok (evE cb ci ini (.con d) ρ S) Q := by
  rw [evE]
  exact q
theorem ok_glbE {x : PySem.Str} {d : D} {Q : W → Sto → Prop} (q : Q (.d d) S) : Ok (evE cb ci ini (.glb x d) ρ S) Q := by
  rw [evE]
  exact q
theorem ok_alD {d : D} {Q : D → Sto → Prop} (q : Q d S) : Ok (W.al (.d d) S) Q := q
theorem ok_alO {ob : O} {Q : D → Sto → Prop} (q : Q (.ref S.length) (S ++ [ob])) : Ok (W.al (.o ob) S) Q := q
theorem ok_bltE {b : Blt} {es : Exs} {Q : W → Sto → Prop} (h : Ok (evWs cb ci ini es ρ S) fun ws S => ∃ w, bltW b ws S = some w ∧ Q w S) : Ok (evE cb ci ini (.blt b es) ρ S) Q := by
  rw [evE, Ok_bind]
  refine h.mono fun x S h => ?_
  obtain ⟨w, h1, h2⟩ := h
  rw [h1]
  exact h2
theorem ok_wcons {e : Ex} {r : Exs} {Q : List W → Sto → Prop} (h : Ok (evE cb ci ini e ρ S) fun w S => Ok (evWs cb ci ini r ρ S) fun ds S => Q (w :: ds) S) : Ok (evWs cb ci ini (.cons e r) ρ S) Q := by
  rw [evWs, Ok_bind]
  refine h.mono fun w S h => ?_
  rw [Ok_bind]
  exact h
theorem ok_wnil {Q : List W → Sto → Prop} (h : Q [] S) : Ok (evWs cb ci ini .nil ρ S) Q := by
  rw [evWs]
  exact h
theorem ok_bnotE {a : Ex} {Q : W → Sto → Prop} (h : Ok (evE cb ci ini a ρ S) fun x S => ∃ t, x = .d (.bl t) ∧ Q (.d (.bl (!t))) S) : Ok (evE cb ci ini (.bnot a) ρ S) Q := by
  rw [evE, Ok_bind]
  refine h.mono fun x S h => ?_
  obtain ⟨t, rfl, h⟩ := h
  exact h
theorem ok_iteE {c a b : Ex} {Q : W → Sto → Prop} (h : Ok (evE cb ci ini c ρ S) fun x S => ∃ t, x = .d (.bl t) ∧ if t = true then Ok (evE cb ci ini a ρ S) Q else Ok (evE cb ci ini b ρ S) Q) : Ok (evE cb ci ini (.ite c a b) ρ S) Q := by
  rw [evE, Ok_bind]
  refine h.mono fun x S h => ?_
  obtain ⟨t, rfl, h⟩ := h
  rw [testD_bl, Ok_ite]
  exact h
theorem ok_fldE {a : Ex} {f : Nat} {cs : List Nat} {Q : W → Sto → Prop} (h : Ok (evE cb ci ini a ρ S) fun x S => Ok (x.al S) fun d S => ∃ y, getF d f cs S = some y ∧ Q (.d y) S) : Ok (evE cb ci ini (.fld a f cs) ρ S) Q := by
  rw [evE, Ok_bind, Ok_al]
  refine h.mono fun w S h => h.mono fun d S h => ?_
  obtain ⟨y, h1, h2⟩ := h
  rw [h1]
  exact h2
theorem ok_methE {o : Ex} {m : Nat} {dis : List (Nat × Nat)} {es : Exs} {Q : W → Sto → Prop} (h : Ok (evE cb ci ini o ρ S) fun x S => Ok (x.al S) fun d S => ∃ n C fs f, d = .ref n ∧ S[n]? = some (.ins C fs) ∧ fs.lookup m = none ∧ dis.lookup C = some f ∧ Ok (evDs cb ci ini es ρ S) fun ds S => Ok (cb f (.ref n :: ds) S) Q) : Ok (evE cb ci ini (.meth o m dis es) ρ S) Q := by
  rw [evE, Ok_bind, Ok_al]
  refine h.mono fun w S h => h.mono fun d S h => ?_
  obtain ⟨n, C, fs, f, rfl, h1, h2, h3, h4⟩ := h
  dsimp only
  rw [h1]
  dsimp only
  rw [h2]
  show Ok (match (if true = true then dis.lookup C else none) with | some f => _ | none => _) Q
  rw [if_pos rfl, h3]
  dsimp only
  rw [Ok_bind]
  exact h4
theorem ok_slcE0 {a : Ex} {lo hi : Oex} {Q : W → Sto → Prop} (h : Ok (evE cb ci ini a ρ S) fun x S => Ok (evO cb ci ini lo ρ S) fun l S => Ok (evO cb ci ini hi ρ S) fun m S => ∃ w, slcW x l m S = some w ∧ Q w S) : Ok (evE cb ci ini (.slc a lo hi) ρ S) Q := by
  rw [evE, Ok_bind]
  refine h.mono fun x S h => ?_
  rw [Ok_bind]
  refine h.mono fun x S h => ?_
  rw [Ok_bind]
  refine h.mono fun x S h => ?_
  obtain ⟨w, h1, h2⟩ := h
  rw [h1]
  exact h2
theorem ok_onoE {Q : Option Int → Sto → Prop} (h : Q none S) : Ok (evO cb ci ini .no ρ S) Q := by
  rw [evO]
  exact h
theorem ok_oyaE {e : Ex} {Q : Option Int → Sto → Prop} (h : Ok (evE cb ci ini e ρ S) fun x S => ∃ i, x = .d (.int i) ∧ Q (some i) S) : Ok (evO cb ci ini (.ya e) ρ S) Q := by
  rw [evO, Ok_bind]
  refine h.mono fun x S h => ?_
  obtain ⟨i, rfl, h⟩ := h
  exact h
theorem ok_isTE {a : Ex} {ts : List Ty} {Q : W → Sto → Prop} (h : Ok (evE cb ci ini a ρ S) fun x S => ∃ t, tyOf x S = some t ∧ Q (.d (.bl (ts.any fun u => t.sub u))) S) : Ok (evE cb ci ini (.isT ts a) ρ S) Q := by
  rw [evE, Ok_bind]
  refine h.mono fun x S h => ?_
  obtain ⟨t, h1, h⟩ := h
  rw [h1]
  exact h
theorem ok_chainE {o o' : Cop} {a b c : Ex} {Q : W → Sto → Prop} (h : Ok (evE cb ci ini a ρ S) fun x S => Ok (evE cb ci ini b ρ S) fun y S => ∃ t, cmpW o x y S = some t ∧ if t = true then Ok (evE cb ci ini c ρ S) (fun z S => ∃ u, cmpW o' y z S = some u ∧ Q (.d (.bl u)) S) else Q (.d (.bl false)) S) : Ok (evE cb ci ini (.chain o o' a b c) ρ S) Q := by
  rw [evE, Ok_bind]
  refine h.mono fun x S h => ?_
  rw [Ok_bind]
  refine h.mono fun y S h => ?_
  obtain ⟨t, h1, h⟩ := h
  rw [h1]
  cases t with
  | false => exact h
  | true =>
    rw [if_pos rfl] at h
    dsimp only
    rw [Ok_bind]
    refine h.mono fun z S h => ?_
    obtain ⟨u, h1, h⟩ := h
    rw [h1]
    exact h
theorem ok_seqI {e : Ex} {Q : Wk → Sto → Prop} (h : Ok (evE cb ci ini e ρ S) fun w S => ∃ k, seqWk w S = some k ∧ Q k S) : Ok (evI cb ci ini (.seq e) ρ S) Q := by
  rw [evI, Ok_bind]
  refine h.mono fun x S h => ?_
  obtain ⟨k, h1, h⟩ := h
  rw [h1]
  exact h
theorem ok_enumI {e : Ex} {Q : Wk → Sto → Prop} (h : Ok (evE cb ci ini e ρ S) fun w S => ∃ k, lsrc w S = some k ∧ Q ⟨enumL k.1, k.2⟩ S) : Ok (evI cb ci ini (.enum e) ρ S) Q := by
  rw [evI, Ok_bind]
  refine h.mono fun x S h => ?_
  obtain ⟨k, h1, h⟩ := h
  rw [h1]
  exact h
theorem ok_bmtD {m : Bmt} {o : Ex} {es : Exs} {Q : W → Sto → Prop} (hm : m.keeps = true) (h : Ok (evE cb ci ini o ρ S) fun x S => kdOk m.kd x S = true ∧ Ok (evDs cb ci ini es ρ S) fun ds S => Ok (bmtD m x ds S) Q) : Ok (evE cb ci ini (.bmt m o es) ρ S) Q := by
  rw [evE, Ok_bind]
  refine h.mono fun x S h => ?_
  rw [if_pos h.1, if_pos hm, Ok_bind]
  exact h.2
theorem ok_bmtW {m : Bmt} {o : Ex} {es : Exs} {Q : W → Sto → Prop} (hm : m.keeps = false) (h : Ok (evE cb ci ini o ρ S) fun x S => kdOk m.kd x S = true ∧ Ok (evWs cb ci ini es ρ S) fun ds S => Ok (bmtW m x ds S) Q) : Ok (evE cb ci ini (.bmt m o es) ρ S) Q := by
  rw [evE, Ok_bind]
  refine h.mono fun x S h => ?_
  rw [if_pos h.1, if_neg (by rw [hm]; decide), Ok_bind]
  exact h.2
/-- a comprehension without a test -/
theorem ok_lcI {vs : List Nat} {t : Tg} {it : Itx} {e : Ex} {Q : W → Sto → Prop} (h : Ok (evI cb ci ini it ρ S) fun k S1 => ∃ I : List D → List D → Sto → Prop, k.items.length ≤ LINE ∧ (∀ l acc S, I l acc S → k.stays S = true) ∧ I k.items [] S1 ∧
    (∀ x l acc S, I (x :: l) acc S → ∃ ρ', t.put x (wipeE ρ vs) = some ρ' ∧ Ok (evE cb ci ini e ρ' S) fun w S => Ok (w.al S) fun y S => I l (acc ++ [y]) S) ∧ (∀ acc S, I [] acc S → Q (.o (.lst acc)) S)) : Ok (evE cb ci ini (.lc vs t it .no e) ρ S) Q := by
  refine ok_lcE (h.mono fun k S1 h => ?_)
  obtain ⟨I, h1, h2, h3, h4, h5⟩ := h
  refine ok_lc (fun l acc S => I l acc S ∧ acc.length + l.length = k.items.length) (fun l acc S h => h2 l acc S h.1) ?_ (fun acc S h => h5 acc S h.1) _ _ _ ⟨h3, by simp⟩
  rintro x l acc S ⟨hi, hl⟩
  obtain ⟨ρ', e1, e2⟩ := h4 x l acc S hi
  rw [Ok_nox, e1]
  dsimp only
  rw [evC, bind_ok, if_pos rfl, Ok_bind, Ok_al]
  rw [List.length_cons] at hl
  exact e2.mono fun w S h => h.mono fun y S h => ⟨by omega, h, by rw [List.length_append, List.length_singleton]; omega⟩
variable {fu : Nat}
theorem ok_exprE {e : Ex} {Q : Out → Sto → Prop} (h : Ok (evE cb ci ini e ρ S) fun w S => Q (.nx ρ) S) : Ok (evS fu cb ci ini (.expr e) ρ S) Q := by
  rw [evS, Ok_bind]
  exact h
theorem ok_forE {t : Tg} {it : Itx} {b : Sts} {Q : Out → Sto → Prop} (h : Ok (evI cb ci ini it ρ S) fun k S => Ok (forGo k (forF t (evSs fu cb ci ini b)) k.items ρ S) Q) : Ok (evS fu cb ci ini (.for t it b) ρ S) Q := by
  rw [evS, Ok_bind]
  exact h
theorem ok_retNE {Q : Out → Sto → Prop} (h : Q (.rt (.d .non)) S) : Ok (evS fu cb ci ini .retN ρ S) Q := by
  rw [evS]
  exact h
theorem ok_ssubE {o i e : Ex} {Q : Out → Sto → Prop} (h : Ok (evE cb ci ini e ρ S) fun w S => Ok (w.al S) fun v S => Ok (evE cb ci ini o ρ S) fun w S => Ok (w.al S) fun x S => Ok (evE cb ci ini i ρ S) fun w S => Ok (w.al S) fun k S => ∃ S', setD x k v S = some S' ∧ Q (.nx ρ) S') : Ok (evS fu cb ci ini (.ssub o i e) ρ S) Q := by
  rw [evS, Ok_bind, Ok_al]
  refine h.mono fun w S h => h.mono fun v S h => ?_
  rw [Ok_bind, Ok_al]
  refine h.mono fun w S h => h.mono fun x S h => ?_
  rw [Ok_bind, Ok_al]
  refine h.mono fun w S h => h.mono fun k S h => ?_
  obtain ⟨S', h1, h2⟩ := h
  rw [h1]
  exact h2
theorem ok_sfldE {o e : Ex} {f : Nat} {cs : List Nat} {Q : Out → Sto → Prop} (h : Ok (evE cb ci ini e ρ S) fun w S => Ok (w.al S) fun v S => Ok (evE cb ci ini o ρ S) fun w S => Ok (w.al S) fun x S => ∃ S', setF x f cs v S = some S' ∧ Q (.nx ρ) S') : Ok (evS fu cb ci ini (.sfld o f cs e) ρ S) Q := by
  rw [evS, Ok_bind, Ok_al]
  refine h.mono fun w S h => h.mono fun v S h => ?_
  rw [Ok_bind, Ok_al]
  refine h.mono fun w S h => h.mono fun x S h => ?_
  obtain ⟨S', h1, h2⟩ := h
  rw [h1]
  exact h2
theorem ok_makeE {C : Nat} {es : Exs} {f : Nat} {Q : W → Sto → Prop} (hf : ini C = some f) (h : Ok (evDs cb ci ini es ρ S) fun ds S => Ok (ci f (.ref S.length :: ds) (S ++ [.ins C []])) fun w S' => w = .d .non ∧ Q (.d (.ref S.length)) S') : Ok (evE cb ci ini (.make C es) ρ S) Q := by
  rw [evE, Ok_bind]
  refine h.mono fun ds S h => ?_
  unfold mkObj
  rw [hf]
  dsimp only
  rw [Ok_bind]
  refine h.mono fun w S' h => ?_
  obtain ⟨rfl, h⟩ := h
  exact h
theorem ok_whlE {c : Ex} {b : Sts} {Q : Out → Sto → Prop} (h : Ok (whlGo (tst (evE cb ci ini c)) (evSs fu cb ci ini b) fu ρ S) Q) : Ok (evS fu cb ci ini (.whl c b) ρ S) Q := by
  rw [evS]
  exact h
theorem ok_tst {c : Ex} {Q : Bool → Sto → Prop} (h : Ok (evE cb ci ini c ρ S) fun x S => ∃ t, x = .d (.bl t) ∧ Q t S) : Ok (tst (evE cb ci ini c) ρ S) Q := by
  unfold tst
  rw [Ok_bind]
  refine h.mono fun x S h => ?_
  obtain ⟨t, rfl, h⟩ := h
  exact h
theorem ok_setTp {is : List Nat} {e : Ex} {Q : Out → Sto → Prop} (h : Ok (evE cb ci ini e ρ S) fun w S => Ok (w.al S) fun d S => ∃ ρ', Tg.put (.tp is) d ρ = some ρ' ∧ Q (.nx ρ') S) : Ok (evS fu cb ci ini (.set (.tp is) e) ρ S) Q := by
  rw [evS, Ok_bind, Ok_al]
  refine h.mono fun w S h => h.mono fun v S h => ?_
  obtain ⟨S', h1, h2⟩ := h
  rw [h1]
  exact h2
end
theorem ok_testT {α : Type} {r : Res α} {Q : α → Sto → Prop} {b : Bool} {B : Prop} (hb : b = true) (h : Ok r Q) : if b = true then Ok r Q else B := by rw [if_pos hb]; exact h
theorem cmp_eq {x y : W} {S : Sto} : cmpW .eq x y S = eqW x y S := rfl
theorem cmp_ne {x y : W} {S : Sto} : cmpW .ne x y S = (eqW x y S).map (!·) := rfl
theorem cmp_in {x y : W} {S : Sto} : cmpW .isin x y S = inS x y S := rfl
theorem cmp_nin {x y : W} {S : Sto} : cmpW .notin x y S = (inS x y S).map (!·) := rfl
theorem if_t {c : Prop} [Decidable c] {a b : Prop} (h : c) (q : a) : if c then a else b := by rw [if_pos h]; exact q
theorem if_f {c : Prop} [Decidable c] {a b : Prop} (h : ¬ c) (q : b) : if c then a else b := by rw [if_neg h]; exact q
theorem dl_new {some_ left : List Int} {seed : Int} (h0 : 0 ≤ seed) (h1 : seed < 2147483648) (h2 : ∀ x ∈ left, 0 ≤ x) (h3 : left.length ≤ 63) : Dl 2 1 ([O.lst (some_.map D.int), O.lst (left.map D.int)] ++ [dealO 1 seed 0]) :=
  ⟨by decide, seed, 0, left, rfl, rfl, h0, h1, by decide, h2, h3⟩
theorem eq_str {a b : List Nat} {S : Sto} : cmpW .eq (.d (.str a)) (.d (.str b)) S = some (decide (a = b)) := by
  rw [cmp_eq, eqW_scal rfl]
  congr 1
  by_cases e : a = b
  · subst e; simp
  · rw [decide_eq_false e, decide_eq_false fun h => e (by injection h)]
theorem eq_int {a b : Int} {S : Sto} : cmpW .eq (.d (.int a)) (.d (.int b)) S = some (decide (a = b)) := by
  rw [cmp_eq, eqW_scal rfl]
  congr 1
  by_cases e : a = b
  · subst e; simp
  · rw [decide_eq_false e, decide_eq_false fun h => e (by injection h)]
theorem ne_str {a b : List Nat} {S : Sto} : cmpW .ne (.d (.str a)) (.d (.str b)) S = some (!decide (a = b)) := by
  have := eq_str (a := a) (b := b) (S := S)
  rw [cmp_eq] at this
  rw [cmp_ne, this]
  rfl
theorem ne_int {a b : Int} {S : Sto} : cmpW .ne (.d (.int a)) (.d (.int b)) S = some (!decide (a = b)) := by
  have := eq_int (a := a) (b := b) (S := S)
  rw [cmp_eq] at this
  rw [cmp_ne, this]
  rfl
theorem get_f {r C f : Nat} {fs : List (Nat × D)} {d : D} {S : Sto} (e : S[r]? = some (.ins C fs)) (h : fs.lookup f = some d) : getF (.ref r) f [C] S = some d := by
  unfold getF
  simp only [e, h]
  rw [if_pos (by simp)]
theorem set_f {r C f : Nat} {fs : List (Nat × D)} {d : D} {S : Sto} (e : S[r]? = some (.ins C fs)) (hl : fs.length < 1000) : setF (.ref r) f [C] d S = some (S.set r (.ins C (putFs f d fs))) := by
  unfold setF
  simp only [e]
  rw [if_pos ⟨by simp, hl⟩]
theorem set_last {α : Type} (S : List α) (x y : α) : (S ++ [x]).set S.length y = S ++ [y] := by
  rw [List.set_append_right _ _ (Nat.le_refl _), Nat.sub_self]
  rfl
theorem lk_one {a b : Nat} : List.lookup a [(a, b)] = some b := by simp [List.lookup]
section
variable {k : Wk} {f : D → Env → Sto → Res Out} {ρ : Env} {S : Sto} {Q : Out → Sto → Prop}
theorem ok_forC {x : D} {l : List D} (hs : k.stays S = true) (h : Ok (f x ρ S) fun o S' => match o with
    | .nx ρ => Ok (forGo k f l ρ S') Q
    | .ct ρ => Ok (forGo k f l ρ S') Q
    | .bk ρ => Q (.nx ρ) S'
    | .rt w => Q (.rt w) S') : Ok (forGo k f (x :: l) ρ S) Q := by
  unfold forGo
  rw [if_pos hs, Ok_bind]
  refine h.mono fun o S' h => ?_
  cases o <;> exact h
theorem ok_forN (hs : k.stays S = true) (h : Q (.nx ρ) S) : Ok (forGo k f [] ρ S) Q := by
  unfold forGo
  rw [if_pos hs]
  exact h
theorem ok_forF {t : Tg} {b : Env → Sto → Res Out} {x : D} {ρ' : Env} (h : t.put x ρ = some ρ') (q : Ok (b ρ' S) Q) : Ok (forF t b x ρ S) Q := by
  unfold forF
  rw [h]
  exact q
end
theorem fr_set1 {r : Nat} {S : Sto} (o : O) : Fr r r S (S.set r o) := ⟨by simp, fun i _ a _ => List.getElem?_set_ne (Ne.symm a)⟩
theorem set_ne {S : Sto} {p r : Nat} {x o : O} (e : S[p]? = some x) (h : p ≠ r) : (S.set r o)[p]? = some x := by
  rw [List.getElem?_set_ne (Ne.symm h)]
  exact e
end PyI

set_option maxRecDepth 100000
set_option maxHeartbeats 1000000
local macro_rules | `(tactic| walk_at "ex") => `(tactic| repeat (first
  | (with_reducible show PyI.Ok (PyI.evE _ _ _ (PyI.Ex.var _) _ _) _); refine PyI.ok_varE rfl ?_
  | with_reducible refine PyI.ok_conE ?_
  | with_reducible refine PyI.ok_glbE ?_
  | with_reducible refine PyI.ok_alD ?_
  | with_reducible refine PyI.ok_alO ?_
  | with_reducible refine PyI.ok_dnil ?_
  | with_reducible refine PyI.ok_wnil ?_
  | with_reducible refine PyI.ok_dcons ?_
  | with_reducible refine PyI.ok_wcons ?_
  | with_reducible refine PyI.ok_binE ?_
  | with_reducible refine PyI.ok_cmpE ?_
  | with_reducible refine PyI.ok_chainE ?_
  | with_reducible refine PyI.ok_idxE ?_
  | with_reducible refine PyI.ok_callE ?_
  | with_reducible refine PyI.ok_bltE ?_
  | with_reducible refine PyI.ok_bandE ?_
  | with_reducible refine PyI.ok_borE ?_
  | with_reducible refine PyI.ok_bnotE ?_
  | with_reducible refine PyI.ok_iteE ?_
  | with_reducible refine PyI.ok_fldE ?_
  | with_reducible refine PyI.ok_methE ?_
  | with_reducible refine PyI.ok_slcE0 ?_
  | with_reducible refine PyI.ok_onoE ?_
  | with_reducible refine PyI.ok_oyaE ?_
  | with_reducible refine PyI.ok_isTE ?_
  | with_reducible refine PyI.ok_seqI ?_
  | with_reducible refine PyI.ok_enumI ?_
  | with_reducible refine PyI.ok_rng1 ?_
  | (with_reducible show PyI.Ok (PyI.evE _ _ _ (PyI.Ex.bmt _ _ _) _ _) _); refine PyI.ok_bmtD rfl ?_
  | (with_reducible show PyI.Ok (PyI.evE _ _ _ (PyI.Ex.bmt _ _ _) _ _) _); refine PyI.ok_bmtW rfl ?_
  | (with_reducible refine PyI.ok_tupE ?_)
  | (with_reducible refine PyI.ok_lstE ?_)
  | with_reducible refine PyI.ok_setE ?_
  | with_reducible refine PyI.ok_retE ?_
  | with_reducible refine PyI.ok_retNE ?_
  | with_reducible refine PyI.ok_exprE ?_
  | with_reducible refine PyI.ok_iteS ?_
  | with_reducible refine PyI.ok_forE ?_
  | with_reducible refine PyI.ok_ssubE ?_
  | with_reducible refine PyI.ok_sfldE ?_
  | with_reducible refine PyI.ok_setTp ?_
  | with_reducible refine PyI.ok_whlE ?_
  | with_reducible refine PyI.ok_tst ?_))
local macro_rules | `(tactic| walk_at "nx") => `(tactic| ((try simp only [List.set_cons_zero, List.set_cons_succ]); first | with_reducible refine PyI.ok_one ?_ | with_reducible refine PyI.ok_cons ?_))
local macro_rules | `(tactic| walk_at "rr") => `(tactic| (refine ⟨_, rfl, ?_⟩; try dsimp only))
local macro_rules | `(tactic| walk_at "ln") => `(tactic| refine ⟨Nat.le_of_ble_eq_true rfl, ?_⟩)
local macro_rules | `(tactic| walk_at "qt") => `(tactic| refine ⟨_, PyI.eq_str, _, rfl, PyI.if_t (by decide) ?_⟩)
local macro_rules | `(tactic| walk_at "qf") => `(tactic| refine ⟨_, PyI.eq_str, _, rfl, PyI.if_f (by decide) ?_⟩)
/-! PyI: the laws' programs in the one numbering; the stand's layout. -/
namespace PyI
def GN.bd (N : GN) : PrN := { iD := N.i 3, iW := N.i 5, iT := N.i 94, iR := N.i 95, iS := N.i 96, iB := N.i 97, iN := N.i 166 }
theorem UBld.bdP {P : Pg} {N : GN} (b : UBase P N) (u : UBld P N) : BdP P N.bd.toBdN where
  D := b.h3
  W := u.h5
  T := u.h94
  R := u.h95
  S := u.h96
  B := u.h97
section
variable {P : Pg} {N : GN} {fu n : Nat} {S : Sto} {Q : W → Sto → Prop}
/-- a program of type A -/
theorem prA (b : UBase P N) (u : UBld P N) (v : UPrA P N) (hfu : 64 < fu) {k j : Nat} (hD : Dl k j S) (q : ∀ (p : Pr) (S' : Sto), p.ok → Dl k j S' → Fr k j S S' → Q (.d p.d) S') : Ok (run fu P (n + 20) (N.i 167) [.ref k] S) Q :=
  progA_ok (N := N.bd) (u.bdP b) v.h167 (fun m S Q hD q => names2_ok (u.bdP b).toTmP v.h166 hfu hD q) hfu hD q
theorem bdraw (b : UBase P N) (hfu : 64 < fu) {k j : Nat} {m : Int} (hD : Dl k j S) (h0 : 0 < m) (h1 : m < 18446744073709551616)
    (q : ∀ (v : Int) (S' : Sto), 0 ≤ v → v < m → Dl k j S' → Fr k j S S' → Q (.d (.int v)) S') : Ok (run fu P (n + 1) (N.i 3) [.ref k, .int m] S) Q := by
  obtain ⟨F, a, b, c, d⟩ := b.h3
  exact draw_ok a b c d hfu hD h0 h1 fun v S' x y z w _ => q v S' x y z w
theorem bdeal (b : UBase P N) {ns : List Int} {base : Int} (hns : ns.length ≤ 63) (b0 : 0 ≤ base) (b1 : base < 1000000)
    (q : ∀ (some_ left : List Int) (seed : Int), 0 ≤ seed → seed < 2147483648 → (∀ x ∈ left, 0 ≤ x) → left.length ≤ 63 → Q (.o (dealO (S.length + 1) seed 0)) (S ++ [.lst (some_.map D.int), .lst (left.map D.int)])) : Ok (run fu P (n + 1) (N.i 2) [.rol false (ns.map D.int), .int base] S) Q := by
  obtain ⟨F, a, b, c, d⟩ := b.h2
  exact deal_ok a b c d hns b0 b1 q
end
/-! ### the layout -/
def Pr.many (p : Pr) : Nat := p.cells.length + (p.rows.map fun q => q.2.toNat).sum
def Pr.dep (p : Pr) : Nat := if p.many + 20 ≤ 32 then 5 else 6
structure Pr.sm (p : Pr) : Prop where
  c1 : 1 ≤ p.cells.length
  r0 : ∀ q ∈ p.rows, 0 ≤ q.2
  m : p.many ≤ 44
  r9 : p.rows.length ≤ 44
theorem Pr.cells_le (p : Pr) : p.cells.length ≤ p.many := by unfold Pr.many; omega
theorem sum_le8 : ∀ l : List (List Nat × Int), (∀ q ∈ l, 1 ≤ q.2 ∧ q.2 ≤ 8) → (l.map fun q => q.2.toNat).sum ≤ 8 * l.length
  | [], _ => by simp
  | x :: l, h => by
    have := sum_le8 l fun q hq => h q (List.mem_cons_of_mem _ hq)
    have := h x List.mem_cons_self
    simp only [List.map_cons, List.sum_cons, List.length_cons]
    omega
theorem Pr.ok.sm {p : Pr} (h : p.ok) : p.sm where
  c1 := h.c1
  r0 := fun q hq => by have := h.rw_ q hq; omega
  m := by
    have := sum_le8 p.rows h.rw_
    have := h.c6
    have := h.r3
    unfold Pr.many
    omega
  r9 := by have := h.r3; omega
def sndD : D → D
  | .tup [_, b] => b
  | d => d
theorem snd_map (l : List (List Nat × Int)) : (l.map pairD).map sndD = (l.map (·.2)).map D.int := by
  rw [List.map_map, List.map_map]
  rfl
theorem sum_rows {p : Pr} (h : p.sm) : (p.rows.map (·.2)).sum = (((p.rows.map fun q => q.2.toNat).sum : Nat) : Int) := by
  have key : ∀ l : List (List Nat × Int), (∀ q ∈ l, 0 ≤ q.2) → (l.map (·.2)).sum = (((l.map fun q => q.2.toNat).sum : Nat) : Int) := by
    intro l
    induction l with
    | nil => intro _; rfl
    | cons x l ih =>
      intro h
      have := h x List.mem_cons_self
      simp only [List.map_cons, List.sum_cons, ih fun q hq => h q (List.mem_cons_of_mem _ hq)]
      omega
  exact key p.rows h.r0
/-- the second ones of pairs -/
theorem lc_snd {cb ci : Cb} {ini : Nat → Option Nat} {ρ : Env} {S : Sto} {it : Ex} {a b : Nat} {l : List (List Nat × Int)} (hab : a ≠ b) (hb : b < ρ.length) (hl : l.length ≤ LINE) (hit : evE cb ci ini it ρ S = .ok (.d (.tup (l.map pairD))) S) :
    evE cb ci ini (.lc [a, b] (.tp [a, b]) (.seq it) .no (.var b)) ρ S = .ok (.o (.lst ((l.map (·.2)).map D.int))) S := by
  rw [lc_map (fun d => sndD d) (its := l.map pairD) (at_ := []) (by rw [evI, hit, bind_ok]; rfl) rfl (by simpa using hl) fun x hx => ?_, snd_map]
  obtain ⟨p, -, rfl⟩ := List.mem_map.mp hx
  refine ⟨((wipeE ρ [a, b]).set a (some (.str p.1))).set b (some (.int p.2)), rfl, ?_⟩
  rw [evE, List.getElem?_set_self]
  · rfl
  · have hw : ∀ (vs : List Nat) (ρ : Env), (wipeE ρ vs).length = ρ.length := fun vs => by
      induction vs with
      | nil => intro ρ; rfl
      | cons v vs ih => intro ρ; unfold wipeE; simp [ih]
    simp [hw, hb]
section
variable {P : Pg} {N : GN} {fu n : Nat} {S : Sto} {Q : W → Sto → Prop} {p : Pr}
theorem cells_i {p : Pr} {S : Sto} : idxW (.d p.d) (.int 0) S = some (.tup (p.cells.map pairD)) := rfl
theorem rows_i {p : Pr} {S : Sto} : idxW (.d p.d) (.int 1) S = some (.tup (p.rows.map pairD)) := rfl
theorem many_ok0 {i : Nat} (u : Has P i (U.b159 N) 1 3) (hp : p.sm) (q : Q (.d (.int (p.many : Int))) S) : Ok (run fu P (n + 1) i [p.d] S) Q := by
  refine has_run u rfl ?_
  show Ok (evSs fu _ _ _ (U.b159 N) [some p.d, none, none] S) _
  unfold U.b159
  refine ok_one ?_
  unfold U.t159_0
  have hlc := fun S => lc_snd (cb := run fu P n) (ci := run fu P n) (ini := P.T.ini) (ρ := [some p.d, none, none]) (S := S) (it := .idx (.var 0) (.con (.int 1))) (a := 1) (b := 2) (l := p.rows) (by decide) (by show 2 < 3; decide) (by have := hp.r9; unfold LINE; omega) (by simp only [tst, evE, evWs, evDs, evO, evC, evI, Ok_bind, Ok_ok, Ok_al, al_d, al_o, bind_ok, al_ok_d, al_ok_o, opt_some, testD_bl, List.getElem?_cons_zero, List.getElem?_cons_succ, List.set_cons_zero, List.set_cons_succ, Option.map_some, cmpW, ordW, bltW, binW, intW, addW, evS, Tg.put, if_true, Bool.false_eq_true, if_false, rows_i])
  simp only [↓hlc, tst, evE, evWs, evDs, evO, evC, evI, Ok_bind, Ok_ok, Ok_al, al_d, al_o, bind_ok, al_ok_d, al_ok_o, opt_some, testD_bl, List.getElem?_cons_zero, List.getElem?_cons_succ, List.set_cons_zero, List.set_cons_succ, Option.map_some, cmpW, ordW, bltW, binW, intW, addW, evS, Tg.put, if_true, Bool.false_eq_true, if_false, lst_own, len_tup, len_own, ints_map, Option.bind_some, tup_own, tup_tup, intW, List.length_map, cells_i]
  have e : (p.cells.length : Int) + (p.rows.map (·.2)).sum = (p.many : Int) := by
    rw [sum_rows hp]
    unfold Pr.many
    omega
  rw [e]
  exact q
theorem many_ok (u : ULay P N) (hp : p.sm) (q : Q (.d (.int (p.many : Int))) S) : Ok (run fu P (n + 1) (N.i 159) [p.d] S) Q := many_ok0 u.h159 hp q
theorem room_ok (u : ULay P N) (hp : p.sm) (q : Q (.d (.int (6 + p.many : Nat))) S) : Ok (run fu P (n + 2) (N.i 160) [p.d] S) Q := by
  refine has_run u.h160 rfl ?_
  show Ok (evSs fu _ _ _ (U.b160 N) [some p.d] S) _
  unfold U.b160
  refine ok_one ?_
  unfold U.t160_0
  simp only [tst, evE, evWs, evDs, evO, evC, evI, Ok_bind, Ok_ok, Ok_al, al_d, al_o, bind_ok, al_ok_d, al_ok_o, opt_some, testD_bl, List.getElem?_cons_zero, List.getElem?_cons_succ, List.set_cons_zero, List.set_cons_succ, Option.map_some, cmpW, ordW, bltW, binW, intW, addW, evS, Tg.put, if_true, Bool.false_eq_true, if_false]
  refine many_ok u hp ?_
  simp only [tst, evE, evWs, evDs, evO, evC, evI, Ok_bind, Ok_ok, Ok_al, al_d, al_o, bind_ok, al_ok_d, al_ok_o, opt_some, testD_bl, List.getElem?_cons_zero, List.getElem?_cons_succ, List.set_cons_zero, List.set_cons_succ, Option.map_some, cmpW, ordW, bltW, binW, intW, addW, evS, Tg.put, if_true, Bool.false_eq_true, if_false]
  have e : (6 : Int) + (p.many : Int) = ((6 + p.many : Nat) : Int) := by omega
  rw [e]
  exact q
theorem waits_ok (u : ULay P N) (hp : p.sm) (q : Q (.d (.int (14 + p.many : Nat))) S) : Ok (run fu P (n + 3) (N.i 161) [p.d] S) Q := by
  refine has_run u.h161 rfl ?_
  show Ok (evSs fu _ _ _ (U.b161 N) [some p.d] S) _
  unfold U.b161
  refine ok_one ?_
  unfold U.t161_0
  simp only [tst, evE, evWs, evDs, evO, evC, evI, Ok_bind, Ok_ok, Ok_al, al_d, al_o, bind_ok, al_ok_d, al_ok_o, opt_some, testD_bl, List.getElem?_cons_zero, List.getElem?_cons_succ, List.set_cons_zero, List.set_cons_succ, Option.map_some, cmpW, ordW, bltW, binW, intW, addW, evS, Tg.put, if_true, Bool.false_eq_true, if_false]
  refine room_ok u hp ?_
  simp only [tst, evE, evWs, evDs, evO, evC, evI, Ok_bind, Ok_ok, Ok_al, al_d, al_o, bind_ok, al_ok_d, al_ok_o, opt_some, testD_bl, List.getElem?_cons_zero, List.getElem?_cons_succ, List.set_cons_zero, List.set_cons_succ, Option.map_some, cmpW, ordW, bltW, binW, intW, addW, evS, Tg.put, if_true, Bool.false_eq_true, if_false]
  have e : ((6 + p.many : Nat) : Int) + 8 = ((14 + p.many : Nat) : Int) := by omega
  rw [e]
  exact q
theorem dep_lt {p : Pr} (hp : p.sm) {d : Nat} (hd : d ≤ 7) : (2 ^ d < p.many + 20) ↔ d < p.dep := by
  have h1 := hp.c1
  have h2 := hp.m
  have h3 := p.cells_le
  unfold Pr.dep
  have : d = 0 ∨ d = 1 ∨ d = 2 ∨ d = 3 ∨ d = 4 ∨ d = 5 ∨ d = 6 ∨ d = 7 := by omega
  rcases this with rfl | rfl | rfl | rfl | rfl | rfl | rfl | rfl <;> split <;> omega
theorem dep_le {p : Pr} : p.dep ≤ 6 ∧ 5 ≤ p.dep := by unfold Pr.dep; split <;> omega
theorem dep_ge {p : Pr} (hp : p.sm) : p.many + 20 ≤ 2 ^ p.dep := by
  have := dep_lt hp (d := p.dep) (by have := dep_le (p := p); omega)
  omega
theorem depth_ok (u : ULay P N) (hfu : 64 < fu) (hp : p.sm) (q : Q (.d (.int (p.dep : Nat))) S) : Ok (run fu P (n + 4) (N.i 162) [p.d] S) Q := by
  refine has_run u.h162 rfl ?_
  show Ok (evSs fu (run fu P (n + 3)) (run fu P (n + 3)) P.T.ini (U.b162 N) [some p.d, none, none] S) _
  unfold U.b162
  refine ok_cons ?_
  simp only [U.t162_0, tst, evE, evWs, evDs, evO, evC, evI, Ok_bind, Ok_ok, Ok_al, al_d, al_o, bind_ok, al_ok_d, al_ok_o, opt_some, testD_bl, List.getElem?_cons_zero, List.getElem?_cons_succ, List.set_cons_zero, List.set_cons_succ, Option.map_some, cmpW, ordW, bltW, binW, intW, addW, evS, Tg.put, if_true, Bool.false_eq_true, if_false]
  refine waits_ok u hp ?_
  simp only [tst, evE, evWs, evDs, evO, evC, evI, Ok_bind, Ok_ok, Ok_al, al_d, al_o, bind_ok, al_ok_d, al_ok_o, opt_some, testD_bl, List.getElem?_cons_zero, List.getElem?_cons_succ, List.set_cons_zero, List.set_cons_succ, Option.map_some, cmpW, ordW, bltW, binW, intW, addW, evS, Tg.put, if_true, Bool.false_eq_true, if_false]
  refine ok_cons ?_
  simp only [U.t162_1, tst, evE, evWs, evDs, evO, evC, evI, Ok_bind, Ok_ok, Ok_al, al_d, al_o, bind_ok, al_ok_d, al_ok_o, opt_some, testD_bl, List.getElem?_cons_zero, List.getElem?_cons_succ, List.set_cons_zero, List.set_cons_succ, Option.map_some, cmpW, ordW, bltW, binW, intW, addW, evS, Tg.put, if_true, Bool.false_eq_true, if_false]
  refine ok_cons ?_
  unfold U.t162_2
  rw [evS]
  have hdl := dep_le (p := p)
  refine ok_while (fun m ρ S' => ∃ d : Nat, d ≤ p.dep ∧ m = p.dep - d ∧ S' = S ∧ ρ = [some p.d, some (.int ((14 + p.many : Nat) + 6 : Int)), some (.int (d : Int))]) ?_ _ p.dep _ _ (by omega) ⟨0, by omega, by omega, rfl, rfl⟩
  rintro m ρ S' ⟨d, hd, rfl, rfl, rfl⟩
  simp only [tst, evE, evWs, evDs, evO, evC, evI, Ok_bind, Ok_ok, Ok_al, al_d, al_o, bind_ok, al_ok_d, al_ok_o, opt_some, testD_bl, List.getElem?_cons_zero, List.getElem?_cons_succ, List.set_cons_zero, List.set_cons_succ, Option.map_some, cmpW, ordW, bltW, binW, intW, addW, evS, Tg.put, if_true, Bool.false_eq_true, if_false, intW, shl_one (show d ≤ 12 by omega)]
  have e : decide (((2 ^ d : Nat) : Int) < ((14 + p.many : Nat) : Int) + 6) = decide (d < p.dep) := by
    have := dep_lt hp (d := d) (by omega)
    by_cases h : d < p.dep
    · rw [decide_eq_true h, decide_eq_true]
      have := this.mpr h
      omega
    · rw [decide_eq_false h, decide_eq_false]
      intro h2
      exact h (this.mp (by omega))
  rw [e]
  by_cases h : d < p.dep
  · rw [decide_eq_true h, if_pos rfl]
    refine ok_one ?_
    unfold U.t162_3
    walk_at "ex"
    walk_at "rr"
    walk_at "ex"
    exact ⟨p.dep - (d + 1), by omega, d + 1, by omega, rfl, rfl, rfl⟩
  · rw [decide_eq_false h, if_neg (by decide)]
    have : d = p.dep := by omega
    subst this
    refine ok_one ?_
    simp only [U.t162_4, tst, evE, evWs, evDs, evO, evC, evI, Ok_bind, Ok_ok, Ok_al, al_d, al_o, bind_ok, al_ok_d, al_ok_o, opt_some, testD_bl, List.getElem?_cons_zero, List.getElem?_cons_succ, List.set_cons_zero, List.set_cons_succ, Option.map_some, cmpW, ordW, bltW, binW, intW, addW, evS, Tg.put, if_true, Bool.false_eq_true, if_false]
    exact q
/-- words with noughts behind -/
theorem tuple_ref {l : List D} {r : Nat} {S : Sto} (e : S[r]? = some (.lst l)) : bltW .tuple [.d (.ref r)] S = some (.d (.tup l)) := by
  simp only [bltW, tupOf, lstOf, e, Option.map_some]
theorem blen_ref {l : List D} {r : Nat} {S : Sto} (e : S[r]? = some (.lst l)) : bltW .len [.d (.ref r)] S = some (.d (.int (l.length : Int))) := by
  simp only [bltW, len_ref e, Option.map_some]
theorem filled_ok (u : ULay P N) (hfu : 64 < fu) (hp : p.sm) {r : Nat} {l : List D} (e : S[r]? = some (.lst l)) (hl : l.length ≤ 2 ^ p.dep) (q : Q (.d (.tup (l ++ List.replicate (2 ^ p.dep - l.length) (.int 0)))) S) : Ok (run fu P (n + 5) (N.i 163) [p.d, .ref r] S) Q := by
  refine has_run u.h163 rfl ?_
  show Ok (evSs fu (run fu P (n + 4)) (run fu P (n + 4)) P.T.ini (U.b163 N) [some p.d, some (.ref r)] S) _
  unfold U.b163
  refine ok_one ?_
  unfold U.t163_0
  have hdl := dep_le (p := p)
  have h64 : 2 ^ p.dep ≤ 2 ^ 6 := Nat.pow_le_pow_right (by decide) hdl.1
  walk_at "ex"
  refine ⟨_, tuple_ref e, ?_⟩
  walk_at "ex"
  walk_at "ln"
  walk_at "ex"
  refine depth_ok u hfu hp ?_
  refine ⟨_, shl_one (show p.dep ≤ 12 by omega), ?_⟩
  walk_at "ex"
  refine ⟨_, blen_ref e, ?_⟩
  walk_at "rr"
  exact ⟨_, brep_tup (n := 2 ^ p.dep - l.length) (by omega) (by omega), _, badd_tup (by rw [List.length_replicate]; unfold LINE; omega), q⟩
def Pr.cellw (p : Pr) (ns : List Int) : List Int := ns ++ (p.cells.map (·.2)).drop ns.length
theorem cellw_len {p : Pr} {ns : List Int} (h : ns.length ≤ p.cells.length) : (p.cellw ns).length = p.cells.length := by
  unfold Pr.cellw
  simp
  omega
theorem bcells_ok (u : ULay P N) (hp : p.sm) {ns : List Int} (hn : ns.length ≤ p.cells.length) (q : ∀ S', Gr S S' → Q (.o (.lst ((p.cellw ns).map D.int))) S') : Ok (run fu P (n + 1) (N.i 164) [p.d, .tup (ns.map D.int)] S) Q := by
  refine has_run u.h164 rfl ?_
  show Ok (evSs fu _ _ _ (U.b164 N) [some p.d, some (.tup (ns.map D.int)), none, none, none] S) _
  unfold U.b164
  refine ok_cons ?_
  unfold U.t164_0
  have hm := hp.m
  have hcl := p.cells_le
  have hlc := fun S => lc_snd (cb := run fu P n) (ci := run fu P n) (ini := P.T.ini) (ρ := [some p.d, some (.tup (ns.map D.int)), none, none, none]) (S := S) (it := .idx (.var 0) (.con (.int 0))) (a := 3) (b := 4) (l := p.cells) (by decide) (by show 4 < 5; decide) (by unfold LINE; omega) (by simp only [tst, evE, evWs, evDs, evO, evC, evI, Ok_bind, Ok_ok, Ok_al, al_d, al_o, bind_ok, al_ok_d, al_ok_o, opt_some, testD_bl, List.getElem?_cons_zero, List.getElem?_cons_succ, List.set_cons_zero, List.set_cons_succ, Option.map_some, cmpW, ordW, bltW, binW, intW, addW, evS, Tg.put, if_true, Bool.false_eq_true, if_false, cells_i])
  simp only [↓hlc, tst, evE, evWs, evDs, evO, evC, evI, Ok_bind, Ok_ok, Ok_al, al_d, al_o, bind_ok, al_ok_d, al_ok_o, opt_some, testD_bl, List.getElem?_cons_zero, List.getElem?_cons_succ, List.set_cons_zero, List.set_cons_succ, Option.map_some, cmpW, ordW, bltW, binW, intW, addW, evS, Tg.put, if_true, Bool.false_eq_true, if_false]
  refine ok_one ?_
  have e := app_at S (O.lst ((p.cells.map (·.2)).map D.int))
  simp only [U.t164_1, tst, evE, evWs, evDs, evO, evC, evI, Ok_bind, Ok_ok, Ok_al, al_d, al_o, bind_ok, al_ok_d, al_ok_o, opt_some, testD_bl, List.getElem?_cons_zero, List.getElem?_cons_succ, List.set_cons_zero, List.set_cons_succ, Option.map_some, cmpW, ordW, bltW, binW, intW, addW, evS, Tg.put, if_true, Bool.false_eq_true, if_false, len_tup, List.length_map, slc_ref e, int_cut, tupOf]
  have hc : catL (.o (.lst (ns.map D.int))) (.o (.lst (((p.cells.map (·.2)).map D.int).drop ns.length))) (S ++ [O.lst ((p.cells.map (·.2)).map D.int)]) = some (.o (.lst ((p.cellw ns).map D.int))) := by
    show (if _ then some (W.o (O.lst _)) else none) = _
    rw [if_pos (by simp; unfold LINE; omega)]
    unfold Pr.cellw
    rw [List.map_append, List.map_drop]
  rw [hc]
  exact q _ (Gr.app _)
/-- the stand at the begin -/
def Pr.begin (p : Pr) (ns : List Int) : List Int := List.replicate 6 0 ++ p.cellw ns ++ List.replicate (p.many - p.cells.length) 0 ++ List.replicate (2 ^ p.dep - (6 + p.many)) 0
theorem begin_len {p : Pr} (hp : p.sm) {ns : List Int} (h : ns.length ≤ p.cells.length) : (p.begin ns).length = 2 ^ p.dep := by
  have := dep_ge hp
  have := p.cells_le
  unfold Pr.begin
  rw [List.length_append, List.length_append, List.length_append, cellw_len h]
  simp only [List.length_replicate]
  omega
theorem begin_ok (u : ULay P N) (hfu : 64 < fu) (hp : p.sm) {ns : List Int} (hn : ns.length ≤ p.cells.length) (q : ∀ S', Gr S S' → Q (.d (.tup ((p.begin ns).map D.int))) S') : Ok (run fu P (n + 6) (N.i 165) [p.d, .tup (ns.map D.int)] S) Q := by
  refine has_run u.h165 rfl ?_
  show Ok (evSs fu (run fu P (n + 5)) (run fu P (n + 5)) P.T.ini (U.b165 N) [some p.d, some (.tup (ns.map D.int)), none] S) _
  unfold U.b165
  have hm := hp.m
  have hcl := p.cells_le
  refine ok_cons ?_
  unfold U.t165_0
  walk_at "ex"
  walk_at "ln"
  walk_at "ex"
  refine many_ok u hp ?_
  walk_at "ex"
  refine ⟨_, cells_i, ?_⟩
  walk_at "rr"
  walk_at "rr"
  rw [List.length_map, show (p.many : Int) - (p.cells.length : Int) = ((p.many - p.cells.length : Nat) : Int) by omega]
  refine ⟨_, rep_lit _ rfl (by omega), ?_⟩
  walk_at "ex"
  generalize hR : List.replicate (p.many - p.cells.length) (D.int 0) = R
  have hRl : R.length = p.many - p.cells.length := by rw [← hR, List.length_replicate]
  have e := app_at S (O.lst R)
  walk_at "nx"
  unfold U.t165_1
  walk_at "ex"
  walk_at "ln"
  walk_at "ex"
  refine ⟨_, rep_lit 6 rfl (by decide), ?_⟩
  walk_at "ex"
  refine bcells_ok u hp hn fun S2 g2 => ?_
  refine ⟨_, badd_own (by simp [cellw_len hn]; unfold LINE; omega), ?_⟩
  walk_at "ex"
  have e2 := g2.at_ e
  refine ⟨_, badd_ownR e2 (by simp [cellw_len hn, hRl]; unfold LINE; omega), ?_⟩
  walk_at "ex"
  have e3 := app_at S2 (O.lst (List.replicate 6 (D.int 0) ++ (p.cellw ns).map D.int ++ R))
  have hge := dep_ge hp
  refine filled_ok u hfu hp e3 (by simp [cellw_len hn, hRl]; omega) ?_
  have := q _ ((Gr.app _).trans (g2.trans (Gr.app (O.lst (List.replicate 6 (D.int 0) ++ (p.cellw ns).map D.int ++ R)))))
  rw [show ((p.begin ns).map D.int) = List.replicate 6 (D.int 0) ++ (p.cellw ns).map D.int ++ R ++ List.replicate (2 ^ p.dep - (List.replicate 6 (D.int 0) ++ (p.cellw ns).map D.int ++ R).length) (D.int 0) from ?_] at this
  · exact this
  · unfold Pr.begin
    rw [← hR]
    simp only [List.map_append, List.map_replicate, List.length_append, List.length_replicate, List.length_map, cellw_len hn]
    congr 2
    omega
end
end PyI

set_option maxRecDepth 100000
set_option maxHeartbeats 1000000
local macro_rules | `(tactic| walk_at "ex") => `(tactic| repeat (first
  | (with_reducible show PyI.Ok (PyI.evE _ _ _ (PyI.Ex.var _) _ _) _); refine PyI.ok_varE rfl ?_
  | with_reducible refine PyI.ok_conE ?_
  | with_reducible refine PyI.ok_glbE ?_
  | with_reducible refine PyI.ok_alD ?_
  | with_reducible refine PyI.ok_alO ?_
  | with_reducible refine PyI.ok_dnil ?_
  | with_reducible refine PyI.ok_wnil ?_
  | with_reducible refine PyI.ok_dcons ?_
  | with_reducible refine PyI.ok_wcons ?_
  | with_reducible refine PyI.ok_binE ?_
  | with_reducible refine PyI.ok_cmpE ?_
  | with_reducible refine PyI.ok_chainE ?_
  | with_reducible refine PyI.ok_idxE ?_
  | with_reducible refine PyI.ok_callE ?_
  | with_reducible refine PyI.ok_bltE ?_
  | with_reducible refine PyI.ok_bandE ?_
  | with_reducible refine PyI.ok_borE ?_
  | with_reducible refine PyI.ok_bnotE ?_
  | with_reducible refine PyI.ok_iteE ?_
  | with_reducible refine PyI.ok_fldE ?_
  | with_reducible refine PyI.ok_methE ?_
  | with_reducible refine PyI.ok_slcE0 ?_
  | with_reducible refine PyI.ok_onoE ?_
  | with_reducible refine PyI.ok_oyaE ?_
  | with_reducible refine PyI.ok_isTE ?_
  | with_reducible refine PyI.ok_seqI ?_
  | with_reducible refine PyI.ok_enumI ?_
  | with_reducible refine PyI.ok_rng1 ?_
  | (with_reducible show PyI.Ok (PyI.evE _ _ _ (PyI.Ex.bmt _ _ _) _ _) _); refine PyI.ok_bmtD rfl ?_
  | (with_reducible show PyI.Ok (PyI.evE _ _ _ (PyI.Ex.bmt _ _ _) _ _) _); refine PyI.ok_bmtW rfl ?_
  | (with_reducible refine PyI.ok_tupE ?_)
  | (with_reducible refine PyI.ok_lstE ?_)
  | with_reducible refine PyI.ok_setE ?_
  | with_reducible refine PyI.ok_retE ?_
  | with_reducible refine PyI.ok_retNE ?_
  | with_reducible refine PyI.ok_exprE ?_
  | with_reducible refine PyI.ok_iteS ?_
  | with_reducible refine PyI.ok_forE ?_
  | with_reducible refine PyI.ok_ssubE ?_
  | with_reducible refine PyI.ok_sfldE ?_
  | with_reducible refine PyI.ok_setTp ?_
  | with_reducible refine PyI.ok_whlE ?_
  | with_reducible refine PyI.ok_tst ?_))
local macro_rules | `(tactic| walk_at "nx") => `(tactic| ((try simp only [List.set_cons_zero, List.set_cons_succ]); first | with_reducible refine PyI.ok_one ?_ | with_reducible refine PyI.ok_cons ?_))
local macro_rules | `(tactic| walk_at "rr") => `(tactic| (refine ⟨_, rfl, ?_⟩; try dsimp only))
local macro_rules | `(tactic| walk_at "ln") => `(tactic| refine ⟨Nat.le_of_ble_eq_true rfl, ?_⟩)
local macro_rules | `(tactic| walk_at "qt") => `(tactic| refine ⟨_, PyI.eq_str, _, rfl, PyI.if_t (by decide) ?_⟩)
local macro_rules | `(tactic| walk_at "qf") => `(tactic| refine ⟨_, PyI.eq_str, _, rfl, PyI.if_f (by decide) ?_⟩)
/-! PyI: the house and its trees in the one numbering. -/
namespace PyI
def GN.tr (N : GN) : TrN := { C := N.c 13, fN := 66, fT := 67, mL := 69, mP := 70, mO := 71, mG := 68, mM := 72, iI := N.i 227, iG := N.i 228, iL := N.i 229, iP := N.i 230, iO := N.i 231, iM := N.i 232, iS := N.i 226, iW := N.i 240, iV := N.i 241, iB := N.i 242, iR := N.i 243, iU := N.i 244 }
def GN.lw (N : GN) : LwN := { iD := N.i 3, iW := N.i 233, iR := N.i 234, iL := N.i 245 }
theorem UHou.hs {P : Pg} {N : GN} (u : UHou P N) : HsP P N.tr.toHsN where
  ne := by show (66 : Nat) ≠ 67; decide
  m := by show ∀ m ∈ [69, 70, 71, 68, 72], m ≠ 66 ∧ m ≠ 67; decide
  G := u.h228
  L := u.h229
  Pr := u.h230
  O := u.h231
  M := u.h232
  I := u.h227
theorem lwP {P : Pg} {N : GN} (b : UBase P N) (r : URow P N) : LwP P N.lw := ⟨b.h3, r.h233, r.h234⟩
/-- the deal at k, j; the house at h, a, b with the things T -/
structure HD (N : GN) (k j h a b : Nat) (S : Sto) (T : List Th) : Prop where
  dl : Dl k j S
  hs : Hs N.tr.toHsN h a b S T
  ne : h ≠ k ∧ h ≠ j ∧ k ≠ a ∧ k ≠ b ∧ j ≠ a ∧ j ≠ b
section
variable {P : Pg} {N : GN} {fu n k j h a b : Nat} {S S' : Sto} {T T' : List Th} {Q : W → Sto → Prop}
theorem HD.fr (H : HD N k j h a b S T) (d : Dl k j S') (f : Fr k j S S') : HD N k j h a b S' T := ⟨d, H.hs.frame f H.ne.1 H.ne.2.1 H.ne.2.2.1 H.ne.2.2.2.1 H.ne.2.2.2.2.1 H.ne.2.2.2.2.2, H.ne⟩
theorem HD.fh (H : HD N k j h a b S T) (d : Hs N.tr.toHsN h a b S' T') (f : Fh a b S S') : HD N k j h a b S' T' := ⟨H.dl.frame f H.ne.2.2.1 H.ne.2.2.2.1 H.ne.2.2.2.2.1 H.ne.2.2.2.2.2, d, H.ne⟩
theorem HD.app (H : HD N k j h a b S T) (o : O) : HD N k j h a b (S ++ [o]) T := ⟨H.dl.app o, H.hs.app o, H.ne⟩
theorem HD.lm (H : HD N k j h a b S T) (u : UHou P N) {m : Nat} (hm : m ∈ [69, 70, 71, 68, 72]) : [(66, D.ref a), (67, D.ref b)].lookup m = none := H.hs.lM u.hs hm
theorem hdraw (u : UBase P N) (hfu : 64 < fu) (H : HD N k j h a b S T) {m : Int} (h0 : 0 < m) (h1 : m < 18446744073709551616) (q : ∀ (v : Int) (S' : Sto), 0 ≤ v → v < m → HD N k j h a b S' T → Fr k j S S' → Q (.d (.int v)) S') : Ok (run fu P (n + 1) (N.i 3) [.ref k, .int m] S) Q :=
  bdraw u hfu H.dl h0 h1 fun v S' a b c d => q v S' a b (H.fr c d) d
theorem hword (u : UBase P N) (r : URow P N) (hfu : 64 < fu) (H : HD N k j h a b S T) (q : ∀ (v : Int) (S' : Sto), HD N k j h a b S' T → Fr k j S S' → Q (.d (.int v)) S') : Ok (run fu P (n + 2) (N.i 233) [.ref k] S) Q :=
  wrd (L := N.lw) (lwP u r) hfu H.dl fun v S' c d _ => q v S' (H.fr c d) d
theorem hrow (u : UBase P N) (r : URow P N) (hfu : 64 < fu) (H : HD N k j h a b S T) {d : Nat} (hd : d ≤ 6) (q : ∀ (ws : List Int) (S' : Sto), ws.length = 2 ^ d → HD N k j h a b S' T → Fr k j S S' → Q (.d (.tup (ws.map D.int))) S') : Ok (run fu P (n + 3) (N.i 234) [.ref k, .int (d : Int)] S) Q :=
  row (L := N.lw) (lwP u r) hfu H.dl hd fun v S' l c d => q v S' l (H.fr c d) d
theorem hleaf (u : UHou P N) (H : HD N k j h a b S T) (hl : T.length < 8000000) (w : Int) (q : ∀ (s : Int) (S' : Sto) (T' : List Th), HD N k j h a b S' T' → At T' s (.leaf w) → Ext T T' 1 → Fh a b S S' → Q (.d (.int s)) S') : Ok (run fu P (n + 2) (N.i 229) [.ref h, .int w] S) Q :=
  leaf_ok (N := N.tr.toHsN) u.hs H.hs hl w fun S' c d _ => q _ S' _ (H.fh c d) (num_at _ _) (giv_ext _ _) d
theorem hpair (u : UHou P N) (H : HD N k j h a b S T) (hl : T.length < 8000000) (x y : Int) (q : ∀ (s : Int) (S' : Sto) (T' : List Th), HD N k j h a b S' T' → At T' s (.pair x y) → Ext T T' 1 → Fh a b S S' → Q (.d (.int s)) S') : Ok (run fu P (n + 2) (N.i 230) [.ref h, .int x, .int y] S) Q :=
  pair_ok (N := N.tr.toHsN) u.hs H.hs hl x y fun S' c d _ => q _ S' _ (H.fh c d) (num_at _ _) (giv_ext _ _) d
theorem hopen (u : UHou P N) (H : HD N k j h a b S T) (hl : T.length < 8000000) (s : Int) (q : Q (.d (opd T s)) S) : Ok (run fu P (n + 1) (N.i 231) [.ref h, .int s] S) Q :=
  open_ok (N := N.tr.toHsN) u.hs H.hs hl s q
theorem hmany (u : UHou P N) (H : HD N k j h a b S T) (q : Q (.d (.int (T.length : Int))) S) : Ok (run fu P (n + 1) (N.i 232) [.ref h] S) Q := by
  refine has_run u.h232 rfl ?_
  show Ok (evSs fu _ _ _ (U.b232 N) [some (.ref h)] S) _
  unfold U.b232
  walk_at "nx"
  unfold U.t232_0
  walk_at "ex"
  refine ⟨_, get_f H.hs.i (by rfl), ?_⟩
  refine ⟨_, blen_ref H.hs.t, ?_⟩
  walk_at "ex"
  walk_at "rr"
  rw [List.length_cons, List.length_map, show ((T.length + 1 : Nat) : Int) - 1 = (T.length : Int) by omega]
  exact q
theorem hseal (u : UHou P N) (v : USea P N) (hfu : 64 < fu) (H : HD N k j h a b S T) {ws : List Int} {d : Nat} (hd : ws.length = 2 ^ d) (hd20 : d ≤ 12) (hl : T.length + 2 ^ (d + 1) < 8000000)
    (q : ∀ (s : Int) (S' : Sto) (T' : List Th), HD N k j h a b S' T' → Ext T T' (2 ^ (d + 1)) → Sl T' (wf ws) d 0 s → Fh a b S S' → Q (.d (.int s)) S') : Ok (run fu P (n + 3) (N.i 226) [.ref h, .tup (ws.map D.int)] S) Q :=
  seal_ok (N := N.tr) u.hs v.h226 hfu H.hs hd hd20 hl fun s S' T' c d e f => q s S' T' (H.fh c f) d e f
theorem hhalf (u : UHou P N) (v : USel P N) {m d : Nat} {r : D} {ws : List Int} (hm : d + 3 ≤ m) (hd : d ≤ 12) (H : HD N k j h a b S T) (hT : T.length + 2 ^ (d + 1) < 8000000) (hw : ws.length = 2 ^ d) (hr : Rw a b r ws S)
    (q : ∀ (s : Int) (S' : Sto) (T' : List Th), HD N k j h a b S' T' → Ext T T' (2 ^ (d + 1) - 1) → Sl T' (wf ws) d 0 s → Fh a b S S' → (∀ s0, Sl T (wf ws) d 0 s0 → T' = T) → Q (.d (.int s)) S') : Ok (run fu P m (N.i 245) [.ref h, r] S) Q :=
  halves_at' (N := N.tr) u.hs v.h245 hm hd H.hs hT hw hr fun s S' T' c d e f g => q s S' T' (H.fh c f) d e f g
theorem hway (u : UHou P N) (v : UWay P N) (H : HD N k j h a b S T) (hT : T.length < 8000000) {i d : Nat} (hk : i < 2 ^ d) (hd : d ≤ 12) (s : Int)
    (q1 : ∀ w l, dnT T i d s = some (w, l) → l.length = d → Q (.d (.tup [.int w, .ref S.length])) (S ++ [.lst (l.map D.int)]))
    (q2 : dnT T i d s = none → ∀ o, Q (.d .non) (S ++ [o])) : Ok (run fu P (n + 2) (N.i 240) [.ref h, .int s, .int (d : Int), .int (i : Int)] S) Q :=
  way_ok (N := N.tr) u.hs v.h240 H.hs hT hk hd s q1 q2
theorem hwordin (u : UHou P N) (v : UWay P N) (x : UWor P N) (H : HD N k j h a b S T) (hT : T.length < 8000000) {i d : Nat} (hk : i < 2 ^ d) (hd : d ≤ 12) (s : Int)
    (q : ∀ o, HD N k j h a b (S ++ [o]) T → Q (match dnT T i d s with
      | some p => .d (.int p.1)
      | none => .d .non) (S ++ [o])) : Ok (run fu P (n + 3) (N.i 241) [.ref h, .int s, .int (d : Int), .int (i : Int)] S) Q :=
  word_ok (N := N.tr) u.hs v.h240 x.h241 H.hs hT hk hd s (fun w l e o => by have := q o (H.app o); rw [e] at this; exact this) fun e o => by have := q o (H.app o); rw [e] at this; exact this
def pathD (T : List Th) (i d : Nat) (s : Int) : D := match dnT T i d s with
  | some p => .tup [.int p.1, .tup (p.2.reverse.map D.int)]
  | none => .non
theorem hpath (u : UHou P N) (v : UWay P N) (x : UPat P N) (H : HD N k j h a b S T) (hT : T.length < 8000000) {i d : Nat} (hk : i < 2 ^ d) (hd : d ≤ 12) (s : Int)
    (q : ∀ o, HD N k j h a b (S ++ [o]) T → Q (.d (pathD T i d s)) (S ++ [o])) : Ok (run fu P (n + 3) (N.i 242) [.ref h, .int s, .int (d : Int), .int (i : Int)] S) Q :=
  path_ok (N := N.tr) u.hs v.h240 x.h242 H.hs hT hk hd s (fun w l e _ o => by have := q o (H.app o); unfold pathD at this; rw [e] at this; exact this) fun e o => by have := q o (H.app o); unfold pathD at this; rw [e] at this; exact this
theorem way_len {T : List Th} {i : Nat} : ∀ {d : Nat} {s : Int} (p : Int × List Int), dnT T i d s = some p → p.2.length = d
  | 0, s, p, e => by
    unfold dnT at e
    split at e
    · cases e; rfl
    · cases e
  | d + 1, s, p, e => by
    unfold dnT at e
    split at e
    · rw [Option.map_eq_some_iff] at e
      obtain ⟨r, h1, rfl⟩ := e
      rw [List.length_cons, way_len r h1]
    · cases e
/-- seals put above one another, whatever they are of -/
theorem hraise (u : UHou P N) (v : URai P N) (H : HD N k j h a b S T) (hT : T.length + 20 < 8000000) {i d : Nat} (hd : d ≤ 12) (w : Int) {sib : List Int} (hsl : sib.length = d)
    (q : ∀ (S' : Sto) (T' : List Th) (p : Nat) (fo : List Int), HD N k j h a b S' T' → Ext T T' (d + 1) → Fh a b S S' → S'[p]? = some (.lst (fo.map D.int)) → fo.length = d + 1 → Q (.d (.ref p)) S') :
    Ok (run fu P (n + 3) (N.i 243) [.ref h, .int (d : Int), .int (i : Int), .int w, .tup (sib.map D.int)] S) Q := by
  refine has_run v.h243 rfl ?_
  show Ok (evSs fu (run fu P (n + 2)) (run fu P (n + 2)) P.T.ini (U.b243 N) [some (.ref h), some (.int (d : Int)), some (.int (i : Int)), some (.int w), some (.tup (sib.map D.int)), none, none] S) _
  unfold U.b243
  walk_at "nx"
  unfold U.t243_0
  walk_at "ex"
  refine ⟨h, _, _, _, rfl, H.hs.i, H.lm u (m := 69) (by decide), lk_one, ?_⟩
  walk_at "ex"
  refine hleaf u H (by omega) w fun s S1 T1 H1 _ E1 F1 => ?_
  walk_at "ex"
  walk_at "ln"
  walk_at "ex"
  have e1 := app_at S1 (O.lst [.int s])
  have hlt := H1.hs.lt
  have hnb : S1.length ≠ a ∧ S1.length ≠ b := ⟨by omega, by omega⟩
  have H2 := H1.app (O.lst [.int s])
  have F2 : Fh a b S (S1 ++ [O.lst [.int s]]) := F1.trans (Fh.app _)
  have hSl : S.length ≤ S1.length := F1.1
  generalize S1.length = p at e1 hnb hSl ⊢
  generalize S1 ++ [O.lst [.int s]] = S2 at e1 H2 F2 ⊢
  walk_at "nx"
  unfold U.t243_1
  walk_at "ex"
  refine ⟨d, rfl, by omega, ?_⟩
  refine ok_for (fun l ρ S' => ∃ (m : Nat) (fo : List Int) (T' : List Th) (y : Option D), l = (rngL 0 1 d).drop m ∧ m ≤ d ∧ fo.length = m + 1 ∧ ρ = [some (.ref h), some (.int (d : Int)), some (.int (i : Int)), some (.int w), some (.tup (sib.map D.int)), some (.ref p), y] ∧
      HD N k j h a b S' T' ∧ Ext T T' (m + 1) ∧ Fh a b S S' ∧ S'[p]? = some (.lst (fo.map D.int))) (fun _ _ _ _ => rfl) ?_ ?_ _ _ _ ⟨0, [s], T1, none, rfl, Nat.zero_le _, rfl, rfl, H2, E1, F2, e1⟩
  · rintro x l ρ S' ⟨m, fo, T', y, hl, hm, hfo, rfl, H', E', F', e'⟩
    have hmd : m < d := by
      rcases Nat.lt_or_ge m d with hh | hh
      · exact hh
      · rw [List.drop_of_length_le (by rw [rng_len]; exact hh)] at hl
        cases hl
    rw [rng_drop hmd] at hl
    injection hl with hx hl
    subst hx
    refine ok_forF rfl ?_
    rw [show (0 : Int) + (m : Int) * 1 = (m : Int) by omega]
    obtain ⟨u0, hu0⟩ : ∃ u0, fo[m]? = some u0 := ⟨_, List.getElem?_eq_getElem (by omega)⟩
    obtain ⟨z0, hz0⟩ : ∃ z0, sib[m]? = some z0 := ⟨_, List.getElem?_eq_getElem (by omega)⟩
    have hT' : T'.length < 8000000 := by have := E'.2; omega
    have iu : idxW (.d (.ref p)) (.int (m : Int)) S' = some (.int u0) := idx_rn e' (by rw [List.getElem?_map, hu0]; rfl)
    have iz : idxW (.d (.tup (sib.map D.int))) (.int (m : Int)) S' = some (.int z0) := idx_tn (by rw [List.getElem?_map, hz0]; rfl)
    have fin : ∀ (t : Int) (S4 : Sto) (T4 : List Th), HD N k j h a b S4 T4 → Ext T' T4 1 → Fh a b S' S4 → ∃ l', bmtD .append (.d (.ref p)) [.int t] S4 = .ok (.d .non) (S4.set p (.lst l')) ∧ l' = (fo ++ [t]).map D.int ∧ HD N k j h a b (S4.set p (.lst l')) T4 ∧ Fh a b S (S4.set p (.lst l')) ∧ (S4.set p (.lst l'))[p]? = some (.lst l') := by
      intro t S4 T4 H4 E4 F4
      have e4 := F4.at_ e' hnb.1 hnb.2
      refine ⟨_, append_ref e4 (by rw [List.length_map]; unfold LINE; omega), by simp, ?_, ?_, set_at e4⟩
      · have hp : p ≠ k ∧ p ≠ j ∧ p ≠ h := by
          obtain ⟨d1, seed, num, ll, d2, d3, -⟩ := H4.dl
          refine ⟨fun e => ?_, fun e => ?_, fun e => ?_⟩
          · rw [e, d2] at e4; cases e4
          · have g0 := F2.1
            obtain ⟨c1, seed0, num0, l0, c2, c3, -⟩ := H.dl
            have := (List.getElem?_eq_some_iff.mp c3).1
            omega
          · rw [e, H4.hs.i] at e4; cases e4
        exact ⟨H4.dl.set_ne hp.1 hp.2.1, ⟨set_ne H4.hs.i (Ne.symm hp.2.2), set_ne H4.hs.n (Ne.symm hnb.1), set_ne H4.hs.t (Ne.symm hnb.2), H4.hs.nd⟩, H4.ne⟩
      · exact Fr.set_new (F'.trans F4) hSl
    walk_at "nx"
    unfold U.t243_2
    walk_at "ex"
    refine ⟨_, shr_nat i m, ?_⟩
    walk_at "ex"
    refine ⟨_, mod_two _, ?_⟩
    walk_at "ex"
    refine ⟨_, eq_int, _, rfl, ?_⟩
    by_cases hb : i / 2 ^ m % 2 = 0
    · refine if_t (decide_eq_true (by omega)) ?_
      walk_at "nx"
      unfold U.t243_3
      walk_at "ex"
      refine ⟨kd_ref e', ?_⟩
      walk_at "ex"
      refine ⟨h, _, _, _, rfl, H'.hs.i, H'.lm u (m := 70) (by decide), lk_one, ?_⟩
      walk_at "ex"
      refine ⟨_, iu, ?_⟩
      walk_at "ex"
      refine ⟨_, iz, ?_⟩
      walk_at "ex"
      refine hpair u H' hT' u0 z0 fun t S4 T4 H4 _ E4 F4 => ?_
      walk_at "ex"
      obtain ⟨l', b1, rfl, b3, b4, b5⟩ := fin t S4 T4 H4 E4 F4
      rw [b1, Ok_ok]
      exact ⟨m + 1, fo ++ [t], T4, _, hl, hmd, by rw [List.length_append, List.length_singleton]; omega, rfl, b3, (E'.trans E4).le (by omega), b4, b5⟩
    · refine if_f (by rw [decide_eq_false (by omega)]; decide) ?_
      walk_at "nx"
      unfold U.t243_4
      walk_at "ex"
      refine ⟨kd_ref e', ?_⟩
      walk_at "ex"
      refine ⟨h, _, _, _, rfl, H'.hs.i, H'.lm u (m := 70) (by decide), lk_one, ?_⟩
      walk_at "ex"
      refine ⟨_, iz, ?_⟩
      walk_at "ex"
      refine ⟨_, iu, ?_⟩
      walk_at "ex"
      refine hpair u H' hT' z0 u0 fun t S4 T4 H4 _ E4 F4 => ?_
      walk_at "ex"
      obtain ⟨l', b1, rfl, b3, b4, b5⟩ := fin t S4 T4 H4 E4 F4
      rw [b1, Ok_ok]
      exact ⟨m + 1, fo ++ [t], T4, _, hl, hmd, by rw [List.length_append, List.length_singleton]; omega, rfl, b3, (E'.trans E4).le (by omega), b4, b5⟩
  · rintro ρ S' ⟨m, fo, T', y, hl, hm, hfo, rfl, H', E', F', e'⟩
    have hmd : m = d := by
      rcases Nat.lt_or_ge m d with hh | hh
      · rw [rng_drop hh] at hl; cases hl
      · omega
    subst hmd
    dsimp only
    walk_at "nx"
    unfold U.t243_5
    walk_at "ex"
    exact q S' T' p fo H' E' F' e' hfo
/-- a word put by a path that is opened, or not -/
theorem hput (u : UHou P N) (v : UWay P N) (x : UPat P N) (y : URai P N) (z : UPut P N) (H : HD N k j h a b S T) (hT : T.length + 20 < 8000000) {i d : Nat} (hk : i < 2 ^ d) (hd : d ≤ 12) (s w : Int)
    (q : ∀ (r : D) (S' : Sto) (T' : List Th), HD N k j h a b S' T' → Ext T T' (d + 1) → (dnT T i d s = none → r = .non ∧ T' = T) → ((dnT T i d s).isSome = true → ∃ t, r = .int t) → Q (.d r) S') :
    Ok (run fu P (n + 4) (N.i 244) [.ref h, .int s, .int (d : Int), .int (i : Int), .int w] S) Q := by
  refine has_run z.h244 rfl ?_
  show Ok (evSs fu (run fu P (n + 3)) (run fu P (n + 3)) P.T.ini (U.b244 N) [some (.ref h), some (.int s), some (.int (d : Int)), some (.int (i : Int)), some (.int w), none] S) _
  unfold U.b244
  walk_at "nx"
  unfold U.t244_0
  walk_at "ex"
  refine hpath u v x H (by omega) hk hd s fun o H1 => ?_
  walk_at "ex"
  have pw := way_len (T := T) (i := i) (d := d) (s := s)
  unfold pathD
  cases e : dnT T i d s with
  | none =>
    walk_at "nx"
    unfold U.t244_1
    walk_at "ex"
    refine ⟨_, rfl, _, rfl, if_t rfl ?_⟩
    walk_at "nx"
    unfold U.t244_2
    walk_at "ex"
    exact q _ _ _ H1 (Ext.refl.le (Nat.zero_le _)) (fun _ => ⟨rfl, rfl⟩) fun h => by rw [e] at h; cases h
  | some p =>
    walk_at "nx"
    unfold U.t244_1
    walk_at "ex"
    refine ⟨_, rfl, _, rfl, if_f (fun h => by cases h) ?_⟩
    refine ok_nil ?_
    walk_at "nx"
    unfold U.t244_3
    walk_at "ex"
    walk_at "rr"
    refine hraise u y H1 hT hd w (by rw [List.length_reverse]; exact pw p e) fun S2 T2 r fo H2 E2 F2 e2 hfo => ?_
    walk_at "ex"
    obtain ⟨t, ht⟩ : ∃ t, fo[d]? = some t := ⟨_, List.getElem?_eq_getElem (by omega)⟩
    refine ⟨_, idx_rn e2 (by rw [List.getElem?_map, ht]; rfl), ?_⟩
    exact q _ _ _ H2 E2 (fun h => by rw [e] at h; cases h) fun _ => ⟨t, rfl⟩
end
end PyI

set_option maxRecDepth 100000
set_option maxHeartbeats 1000000
local macro_rules | `(tactic| walk_at "ex") => `(tactic| repeat (first
  | (with_reducible show PyI.Ok (PyI.evE _ _ _ (PyI.Ex.var _) _ _) _); refine PyI.ok_varE rfl ?_
  | with_reducible refine PyI.ok_conE ?_
  | with_reducible refine PyI.ok_glbE ?_
  | with_reducible refine PyI.ok_alD ?_
  | with_reducible refine PyI.ok_alO ?_
  | with_reducible refine PyI.ok_dnil ?_
  | with_reducible refine PyI.ok_wnil ?_
  | with_reducible refine PyI.ok_dcons ?_
  | with_reducible refine PyI.ok_wcons ?_
  | with_reducible refine PyI.ok_binE ?_
  | with_reducible refine PyI.ok_cmpE ?_
  | with_reducible refine PyI.ok_chainE ?_
  | with_reducible refine PyI.ok_idxE ?_
  | with_reducible refine PyI.ok_callE ?_
  | with_reducible refine PyI.ok_bltE ?_
  | with_reducible refine PyI.ok_bandE ?_
  | with_reducible refine PyI.ok_borE ?_
  | with_reducible refine PyI.ok_bnotE ?_
  | with_reducible refine PyI.ok_iteE ?_
  | with_reducible refine PyI.ok_fldE ?_
  | with_reducible refine PyI.ok_methE ?_
  | with_reducible refine PyI.ok_slcE0 ?_
  | with_reducible refine PyI.ok_onoE ?_
  | with_reducible refine PyI.ok_oyaE ?_
  | with_reducible refine PyI.ok_isTE ?_
  | with_reducible refine PyI.ok_seqI ?_
  | with_reducible refine PyI.ok_enumI ?_
  | with_reducible refine PyI.ok_rng1 ?_
  | (with_reducible show PyI.Ok (PyI.evE _ _ _ (PyI.Ex.bmt _ _ _) _ _) _); refine PyI.ok_bmtD rfl ?_
  | (with_reducible show PyI.Ok (PyI.evE _ _ _ (PyI.Ex.bmt _ _ _) _ _) _); refine PyI.ok_bmtW rfl ?_
  | (with_reducible refine PyI.ok_tupE ?_)
  | (with_reducible refine PyI.ok_lstE ?_)
  | with_reducible refine PyI.ok_setE ?_
  | with_reducible refine PyI.ok_retE ?_
  | with_reducible refine PyI.ok_retNE ?_
  | with_reducible refine PyI.ok_exprE ?_
  | with_reducible refine PyI.ok_iteS ?_
  | with_reducible refine PyI.ok_forE ?_
  | with_reducible refine PyI.ok_ssubE ?_
  | with_reducible refine PyI.ok_sfldE ?_
  | with_reducible refine PyI.ok_setTp ?_
  | with_reducible refine PyI.ok_whlE ?_
  | with_reducible refine PyI.ok_tst ?_))
local macro_rules | `(tactic| walk_at "nx") => `(tactic| ((try simp only [List.set_cons_zero, List.set_cons_succ]); first | with_reducible refine PyI.ok_one ?_ | with_reducible refine PyI.ok_cons ?_))
local macro_rules | `(tactic| walk_at "rr") => `(tactic| (refine ⟨_, rfl, ?_⟩; try dsimp only))
local macro_rules | `(tactic| walk_at "ln") => `(tactic| refine ⟨Nat.le_of_ble_eq_true rfl, ?_⟩)
local macro_rules | `(tactic| walk_at "qt") => `(tactic| refine ⟨_, PyI.eq_str, _, rfl, PyI.if_t (by decide) ?_⟩)
local macro_rules | `(tactic| walk_at "qf") => `(tactic| refine ⟨_, PyI.eq_str, _, rfl, PyI.if_f (by decide) ?_⟩)
/-! PyI: the house further: new things in the store, small operations. -/
namespace PyI
section
variable {cb ci : Cb} {ini : Nat → Option Nat} {ρ : Env} {S : Sto}
theorem ok_orvE {a b c : Ex} {Q : W → Sto → Prop} (h : Ok (evE cb ci ini a ρ S) fun x S => ∃ t, truW x = some t ∧ if t = true then Ok (evE cb ci ini c ρ S) (fun k S => Ok (k.al S) fun k S => ∃ d, idxW x k S = some d ∧ Q (.d d) S)
    else Ok (evE cb ci ini b ρ S) fun x S => Ok (evE cb ci ini c ρ S) (fun k S => Ok (k.al S) fun k S => ∃ d, idxW x k S = some d ∧ Q (.d d) S)) : Ok (evE cb ci ini (.orv a b c) ρ S) Q := by
  have key : ∀ (x : W) (S : Sto), Ok (evE cb ci ini c ρ S) (fun k S => Ok (k.al S) fun k S => ∃ d, idxW x k S = some d ∧ Q (.d d) S) → Ok ((evE cb ci ini c ρ S).al.bind fun k S => opt ((idxW x k S).map W.d) S) Q := by
    intro x S h
    rw [Ok_bind, Ok_al]
    refine h.mono fun k S h => h.mono fun k S h => ?_
    obtain ⟨d, h1, h2⟩ := h
    rw [h1]
    exact h2
  rw [evE, Ok_bind, Ok_bind]
  refine h.mono fun x S h => ?_
  obtain ⟨t, h1, h2⟩ := h
  rw [h1]
  cases t with
  | true =>
    rw [if_pos rfl] at h2
    exact key _ _ h2
  | false =>
    rw [if_neg (by decide)] at h2
    exact h2.mono fun x S h => key _ _ h
end
theorem fdiv_nat {a b : Nat} {S : Sto} (h0 : 0 < b) (h1 : b < 2 ^ 64) : binW .fdiv (.d (.int (a : Int))) (.d (.int (b : Int))) S = some (.d (.int ((a / b : Nat) : Int))) := by
  show (if decide (0 < (b : Int) ∧ (b : Int).natAbs.log2 < 9000) = true then _ else _) = _
  have hl : 0 < (b : Int) ∧ (b : Int).natAbs.log2 < 9000 := by
    rw [Int.natAbs_natCast]
    have h2 := (Nat.log2_lt (show b ≠ 0 by omega)).mpr h1
    exact ⟨by omega, by omega⟩
  rw [if_pos (decide_eq_true hl)]
  rfl
theorem xor_one {m : Nat} {S : Sto} : binW .xor (.d (.int (m : Int))) (.d (.int 1)) S = some (.d (.int ((flip m : Nat) : Int))) := by
  show some (W.d (.int (PySem.Builtin.bitXor m 1))) = _
  rw [Bits.bitXor_pp (by omega) (by omega), Int.toNat_natCast]
  congr 4
  show m ^^^ 1 = flip m
  have h1 : (m ^^^ 1) / 2 = m / 2 := by
    have := Nat.xor_div_two (a := m) (b := 1)
    rw [this]
    simp
  have h2 : (m ^^^ 1) % 2 = (m + 1) % 2 := by
    have h3 := Nat.xor_mod_two_pow (a := m) (b := 1) (n := 1)
    rw [Nat.pow_one] at h3
    rw [h3]
    have : m % 2 = 0 ∨ m % 2 = 1 := by omega
    rcases this with h | h
    · rw [h, show (m + 1) % 2 = 1 by omega]
      rfl
    · rw [h, show (m + 1) % 2 = 0 by omega]
      rfl
  unfold flip
  split <;> omega
theorem max2_ok {a b : Int} {S : Sto} : bltW .max2 [.d (.int a), .d (.int b)] S = some (.d (.int (max a b))) := by
  show some (W.d (.int (if a < b then b else a))) = _
  congr 3
  split <;> omega
theorem min2_ok {a b : Int} {S : Sto} : bltW .min2 [.d (.int a), .d (.int b)] S = some (.d (.int (min a b))) := by
  show some (W.d (.int (if b < a then b else a))) = _
  congr 3
  split <;> omega
theorem eq_bl {a b : Bool} {S : Sto} : cmpW .eq (.d (.bl a)) (.d (.bl b)) S = some (decide (a = b)) := by cases a <;> cases b <;> rfl
theorem ne_bl {a b : Bool} {S : Sto} : cmpW .ne (.d (.bl a)) (.d (.bl b)) S = some (!decide (a = b)) := by cases a <;> cases b <;> rfl
theorem ne_same {d : D} {n : Nat} {S : Sto} (hn : n ≤ 64) (h : D.tok n d = true) : cmpW .ne (.d d) (.d d) S = some false := by
  rw [cmp_ne, eqW_tok n hn h h]
  simp
section
variable {P : Pg} {N : GN} {fu n k j h a b : Nat} {S S' : Sto} {T T' : List Th} {Q : W → Sto → Prop}
theorem HD.lt (H : HD N k j h a b S T) : k < S.length ∧ j < S.length ∧ h < S.length ∧ a < S.length ∧ b < S.length := ⟨H.dl.lt.1, H.dl.lt.2, H.hs.lt⟩
theorem HD.put (H : HD N k j h a b S T) {p : Nat} {o : O} (hp : p ≠ k ∧ p ≠ j ∧ p ≠ h ∧ p ≠ a ∧ p ≠ b) : HD N k j h a b (S.set p o) T :=
  ⟨H.dl.set_ne hp.1 hp.2.1, ⟨set_ne H.hs.i (Ne.symm hp.2.2.1), set_ne H.hs.n (Ne.symm hp.2.2.2.1), set_ne H.hs.t (Ne.symm hp.2.2.2.2), H.hs.nd⟩, H.ne⟩
/-- a thing that came later may change -/
theorem HD.putN (H : HD N k j h a b S T) (H' : HD N k j h a b S' T') {p : Nat} {o : O} (hp : S.length ≤ p) : HD N k j h a b (S'.set p o) T' := by
  have := H.lt
  exact H'.put ⟨by omega, by omega, by omega, by omega, by omega⟩
theorem hnew (u : UHou P N) (hD : Dl k j S) (q : ∀ S', HD N k j S.length (S.length + 1) (S.length + 2) S' [] → S'.length = S.length + 3 → (∀ i, i < S.length → S'[i]? = S[i]?) → Q (.d (.ref S.length)) S') {ρ : Env} :
    Ok (evE (run fu P (n + 1)) (run fu P (n + 1)) P.T.ini (.make (N.c 13) .nil) ρ S) Q := by
  refine house_ok (N := N.tr.toHsN) u.hs u.k13 fun S' h1 h2 h3 => q S' ⟨?_, h1, ?_⟩ h2 h3
  · have := hD.lt
    obtain ⟨c1, seed, num, l, c2, c3, c4⟩ := hD
    exact ⟨c1, seed, num, l, by rw [h3 _ (by omega)]; exact c2, by rw [h3 _ (by omega)]; exact c3, c4⟩
  · have := hD.lt
    refine ⟨by omega, by omega, by omega, by omega, by omega, by omega⟩
theorem pathD_tok {i d : Nat} {s : Int} : D.tok 2 (pathD T i d s) = true := by
  unfold pathD
  split
  · rw [tok_tup]
    simp only [List.all_cons, List.all_nil, Bool.and_true, tok_int, Bool.true_and]
    rw [tok_tup]
    exact ints_tok 0 _
  · exact tok_non
theorem opn_low {s : Int} (hs : s ≤ 0 ∨ (T.length : Int) < s) : opn T s = none := by
  unfold opn
  split
  · rw [List.getElem?_eq_none_iff]
    omega
  · rfl
/-- a tree of other depth tells nothing -/
theorem dnT_off {f : Nat → Int} {K : Nat} : ∀ {d c e : Nat} {s : Int}, Sl T f d c s → e ≠ d → dnT T K e s = none
  | 0, c, e, s, hs, he => by
    obtain ⟨e, rfl⟩ : ∃ e', e = e' + 1 := ⟨e - 1, by omega⟩
    exact dnT_leafS (At.opn hs)
  | d + 1, c, 0, s, ⟨x, y, ha, _, _⟩, he => dnT_pair0 (At.opn ha)
  | d + 1, c, e + 1, s, ⟨x, y, ha, hx, hy⟩, he => by
    rw [dnT_pairS (At.opn ha)]
    have hxe := dnT_off (K := K) hx (show e ≠ d by omega)
    have hye := dnT_off (K := K) hy (show e ≠ d by omega)
    split <;> simp [hxe, hye]
end
end PyI

set_option maxRecDepth 100000
set_option maxHeartbeats 1000000
local macro_rules | `(tactic| walk_at "ex") => `(tactic| repeat (first
  | (with_reducible show PyI.Ok (PyI.evE _ _ _ (PyI.Ex.var _) _ _) _); refine PyI.ok_varE rfl ?_
  | with_reducible refine PyI.ok_conE ?_
  | with_reducible refine PyI.ok_glbE ?_
  | with_reducible refine PyI.ok_alD ?_
  | with_reducible refine PyI.ok_alO ?_
  | with_reducible refine PyI.ok_dnil ?_
  | with_reducible refine PyI.ok_wnil ?_
  | with_reducible refine PyI.ok_dcons ?_
  | with_reducible refine PyI.ok_wcons ?_
  | with_reducible refine PyI.ok_binE ?_
  | with_reducible refine PyI.ok_cmpE ?_
  | with_reducible refine PyI.ok_chainE ?_
  | with_reducible refine PyI.ok_idxE ?_
  | with_reducible refine PyI.ok_callE ?_
  | with_reducible refine PyI.ok_bltE ?_
  | with_reducible refine PyI.ok_bandE ?_
  | with_reducible refine PyI.ok_borE ?_
  | with_reducible refine PyI.ok_bnotE ?_
  | with_reducible refine PyI.ok_iteE ?_
  | with_reducible refine PyI.ok_fldE ?_
  | with_reducible refine PyI.ok_methE ?_
  | with_reducible refine PyI.ok_slcE0 ?_
  | with_reducible refine PyI.ok_onoE ?_
  | with_reducible refine PyI.ok_oyaE ?_
  | with_reducible refine PyI.ok_isTE ?_
  | with_reducible refine PyI.ok_seqI ?_
  | with_reducible refine PyI.ok_enumI ?_
  | with_reducible refine PyI.ok_rng1 ?_
  | (with_reducible show PyI.Ok (PyI.evE _ _ _ (PyI.Ex.bmt _ _ _) _ _) _); refine PyI.ok_bmtD rfl ?_
  | (with_reducible show PyI.Ok (PyI.evE _ _ _ (PyI.Ex.bmt _ _ _) _ _) _); refine PyI.ok_bmtW rfl ?_
  | (with_reducible refine PyI.ok_tupE ?_)
  | (with_reducible refine PyI.ok_lstE ?_)
  | with_reducible refine PyI.ok_setE ?_
  | with_reducible refine PyI.ok_retE ?_
  | with_reducible refine PyI.ok_retNE ?_
  | with_reducible refine PyI.ok_exprE ?_
  | with_reducible refine PyI.ok_iteS ?_
  | with_reducible refine PyI.ok_forE ?_
  | with_reducible refine PyI.ok_ssubE ?_
  | with_reducible refine PyI.ok_sfldE ?_
  | with_reducible refine PyI.ok_setTp ?_
  | with_reducible refine PyI.ok_whlE ?_
  | with_reducible refine PyI.ok_tst ?_))
local macro_rules | `(tactic| walk_at "nx") => `(tactic| ((try simp only [List.set_cons_zero, List.set_cons_succ]); first | with_reducible refine PyI.ok_one ?_ | with_reducible refine PyI.ok_cons ?_))
local macro_rules | `(tactic| walk_at "rr") => `(tactic| (refine ⟨_, rfl, ?_⟩; try dsimp only))
local macro_rules | `(tactic| walk_at "ln") => `(tactic| refine ⟨Nat.le_of_ble_eq_true rfl, ?_⟩)
local macro_rules | `(tactic| walk_at "qt") => `(tactic| refine ⟨_, PyI.eq_str, _, rfl, PyI.if_t (by decide) ?_⟩)
local macro_rules | `(tactic| walk_at "qf") => `(tactic| refine ⟨_, PyI.eq_str, _, rfl, PyI.if_f (by decide) ?_⟩)
namespace K23
open PyI
theorem ub : UBase P N := uBase
theorem cut_mid {α : Type} (l : List α) (a b : Nat) (h : a + b ≤ l.length) : cut l (some (a : Int)) (some ((a : Int) + (b : Int))) = (l.drop a).take b := by
  unfold cut sI
  dsimp only
  rw [if_neg (by omega), if_neg (by omega), show min (a : Int).toNat l.length = a by omega, show min ((a : Int) + (b : Int)).toNat l.length = a + b by omega, Nat.add_sub_cancel_left]
section
variable {fu n k j h a b : Nat} {S S' : Sto} {T T' : List Th} {Q : W → Sto → Prop}
/-- the seals beside a path -/
theorem sib_ok (H : HD N k j h a b S T) (hT : T.length + 4096 < 8000000) {ws : List Int} {d K : Nat} (hd : d ≤ 6) (hw : ws.length = 2 ^ d) (hK : K < 2 ^ d) {s : Int} (hs : Sl T (PyI.wf ws) d 0 s)
    (q : ∀ (l : List Int) (S' : Sto), HD N k j h a b S' T → dnT T K d s = some (PyI.wf ws K, l) → Q (.d (.tup (l.reverse.map D.int))) S') :
    Ok (run fu P (n + 12) 17 [.ref h, .tup (ws.map D.int), .int (d : Int), .int (K : Int)] S) Q := by
  have hh : Has P 17 b246 4 8 := ⟨f17, rfl, rfl, rfl, rfl⟩
  generalize hds : [D.ref h, .tup (ws.map D.int), .int (d : Int), .int (K : Int)] = ds
  refine has_run hh (by rw [← hds]; rfl) ?_
  subst hds
  show Ok (evSs fu (run fu P (n + 11)) (run fu P (n + 11)) P.T.ini b246 [some (.ref h), some (.tup (ws.map D.int)), some (.int (d : Int)), some (.int (K : Int)), none, none, none, none] S) _
  unfold b246
  walk_at "nx"
  unfold t246_0
  walk_at "ex"
  walk_at "ln"
  walk_at "ex"
  have e1 := app_at S (O.lst [])
  have H1 := H.app (O.lst [])
  have hlt := H.lt
  generalize hp : S.length = p at e1 hlt ⊢
  generalize S ++ [O.lst []] = S1 at e1 H1 ⊢
  walk_at "nx"
  unfold t246_1
  walk_at "ex"
  refine ⟨d, rfl, by omega, ?_⟩
  obtain ⟨L, hL, hLd, hLz⟩ := Sl.dn (k := K) hs
  rw [Nat.zero_mul, Nat.zero_add, Nat.mod_eq_of_lt hK] at hL hLz
  refine ok_for (fun l ρ S' => ∃ (m : Nat) (y1 y2 y3 : Option D), l = (rngL 0 1 d).drop m ∧ m ≤ d ∧ ρ = [some (.ref h), some (.tup (ws.map D.int)), some (.int (d : Int)), some (.int (K : Int)), some (.ref p), y1, y2, y3] ∧
      HD N k j h a b S' T ∧ S'[p]? = some (.lst ((L.reverse.take m).map D.int))) (fun _ _ _ _ => rfl) ?_ ?_ _ _ _ ⟨0, none, none, none, rfl, Nat.zero_le _, rfl, H1, e1⟩
  · rintro x l ρ S' ⟨m, y1, y2, y3, hl, hm, rfl, H', e'⟩
    have hmd : m < d := by
      rcases Nat.lt_or_ge m d with hh | hh
      · exact hh
      · rw [List.drop_of_length_le (by rw [rng_len]; exact hh)] at hl
        cases hl
    rw [rng_drop hmd] at hl
    injection hl with hx hl
    subst hx
    refine ok_forF rfl ?_
    rw [show (0 : Int) + (m : Int) * 1 = (m : Int) by omega]
    obtain ⟨z, hz, hSz⟩ := hLz m hmd
    have hp2 : (2 : Nat) ^ m < 2 ^ 6 := Nat.pow_lt_pow_right (by decide) (by omega)
    have hp0 : 0 < 2 ^ m := Nat.pow_pos (by decide)
    walk_at "nx"
    unfold t246_2
    walk_at "ex"
    refine ⟨_, shl_one (show m ≤ 12 by omega), ?_⟩
    walk_at "ex"
    walk_at "nx"
    unfold t246_3
    walk_at "ex"
    refine ⟨_, fdiv_nat hp0 (by omega), ?_⟩
    walk_at "ex"
    refine ⟨_, xor_one, ?_⟩
    walk_at "ex"
    have hfl : (flip (K / 2 ^ m) + 1) * 2 ^ m ≤ 2 ^ d := by
      obtain ⟨c, rfl⟩ : ∃ c, d = c + 1 + m := ⟨d - 1 - m, by omega⟩
      rw [Nat.pow_add] at hK ⊢
      refine Nat.mul_le_mul_right _ ?_
      have h1 : K / 2 ^ m < 2 ^ (c + 1) := Nat.div_lt_of_lt_mul (by rw [Nat.mul_comm]; exact hK)
      have h2 := flip_half (K / 2 ^ m)
      rw [Nat.pow_succ] at h1 ⊢
      omega
    have hfl2 : flip (K / 2 ^ m) * 2 ^ m + 2 ^ m ≤ ws.length := by rw [hw, ← Nat.succ_mul]; exact hfl
    have hsm : flip (K / 2 ^ m) < 2 ^ 6 := by
      have h1 : K / 2 ^ m ≤ K := Nat.div_le_self _ _
      have h2 : 2 ^ d ≤ 2 ^ 6 := Nat.pow_le_pow_right (by decide) hd
      have h3 := flip_half (K / 2 ^ m)
      omega
    refine ⟨_, bmul_l ⟨by omega, by omega⟩, ?_⟩
    walk_at "ex"
    rw [← Int.natCast_mul]
    generalize hc : flip (K / 2 ^ m) * 2 ^ m = c at hfl2 ⊢
    generalize hg : 2 ^ m = g at hfl2 hp0 hp2 hc ⊢
    walk_at "nx"
    unfold t246_4
    walk_at "ex"
    refine ⟨kd_ref e', ?_⟩
    walk_at "ex"
    walk_at "rr"
    walk_at "ex"
    walk_at "rr"
    walk_at "ex"
    walk_at "rr"
    walk_at "ex"
    refine ⟨_, rfl, ?_⟩
    walk_at "ex"
    rw [cut_map, cut_mid _ _ _ hfl2]
    generalize hsub : (ws.drop c).take g = sub
    have hsl : sub.length = 2 ^ m := by rw [← hsub, List.length_take, List.length_drop, hg]; omega
    have hSz' : Sl T (PyI.wf sub) m 0 z := by
      have h1 : Sl T (fun t => PyI.wf ws (t + flip (K / 2 ^ m) * 2 ^ m)) m 0 z := Sl.shift.mpr (by rw [Nat.zero_add]; exact hSz)
      refine Sl.congr (fun t _ ht => ?_) h1
      rw [Nat.zero_add, Nat.one_mul] at ht
      rw [← hsub, wf_take (by omega), wf_drop, hg, hc]
    refine hhalf (d := m) uHou uSel (by omega) (by omega) H' (by have : 2 ^ (m + 1) ≤ 2 ^ 7 := Nat.pow_le_pow_right (by decide) (by omega); omega) hsl (.inl rfl) fun s2 S2 T2 H2 _ hs2 F2 hst => ?_
    have hT2 := hst z hSz'
    subst hT2
    have hz2 : s2 = z := Sl.uniq H'.hs.nd hs2 hSz'
    subst hz2
    walk_at "ex"
    have e2 := F2.at_ e' (by omega) (by omega)
    rw [append_ref e2 (by rw [List.length_map, List.length_take]; unfold LINE; omega), Ok_ok]
    refine ⟨m + 1, _, _, _, hl, hmd, rfl, H.putN H2 (by omega), ?_⟩
    rw [set_at e2, List.take_succ, hz]
    simp
  · rintro ρ S' ⟨m, y1, y2, y3, hl, hm, rfl, H', e'⟩
    have hmd : m = d := by
      rcases Nat.lt_or_ge m d with hh | hh
      · rw [rng_drop hh] at hl; cases hl
      · omega
    subst hmd
    dsimp only
    walk_at "nx"
    unfold t246_5
    walk_at "ex"
    refine ⟨_, tuple_ref e', ?_⟩
    rw [List.take_of_length_le (by rw [List.length_reverse]; omega)]
    exact q L S' H' hL
theorem none_ok (H : HD N k j h a b S T) (hT : T.length + 20 < 8000000) {d K : Nat} (hd : d ≤ 12) (hK : K < 2 ^ d) {s : Int} (hs : dnT T K d s = none)
    (q : ∀ S', HD N k j h a b S' T → Q (.d (.bl true)) S') : Ok (run fu P (n + 5) 18 [.ref h, .int s, .int (d : Int), .int (K : Int)] S) Q := by
  refine has_run (i := 18) (B := b247) (np := 4) (ns := 4) ⟨f18, rfl, rfl, rfl, rfl⟩ rfl ?_
  show Ok (evSs fu (run fu P (n + 4)) (run fu P (n + 4)) P.T.ini b247 [some (.ref h), some (.int s), some (.int (d : Int)), some (.int (K : Int))] S) _
  unfold b247
  walk_at "nx"
  unfold t247_0
  walk_at "ex"
  refine hwordin uHou uWay uWor H (by omega) hK hd s fun o H1 => ?_
  rw [hs]
  walk_at "ex"
  refine ⟨_, rfl, _, rfl, if_f (fun h => by cases h) ?_⟩
  walk_at "ex"
  refine hpath uHou uWay uPat H1 (by omega) hK hd s fun o H2 => ?_
  walk_at "ex"
  refine ⟨false, ?_, _, rfl, _, rfl, ?_⟩
  · unfold pathD
    rw [hs]
    rfl
  refine if_f (fun h => by cases h) ?_
  refine ok_nil ?_
  dsimp only
  walk_at "nx"
  unfold t247_2
  walk_at "ex"
  refine hput uHou uWay uPat uRai uPut H2 hT hK hd s 5 fun r S3 T3 H3 _ hr _ => ?_
  obtain ⟨rfl, rfl⟩ := hr hs
  walk_at "ex"
  exact ⟨_, rfl, q _ H3⟩
/-! ### trees put together here -/
inductive UT where
  | leaf (s w : Int)
  | pair (s : Int) (l r : UT)
def UT.s : UT → Int
  | .leaf s _ => s
  | .pair s _ _ => s
def UT.d : UT → D
  | .leaf s w => .tup [.str [108, 101, 97, 102], .int s, .int w]
  | .pair s l r => .tup [.str [112, 97, 105, 114], .int s, l.d, r.d]
def UT.ok (T : List Th) : UT → Prop
  | .leaf s w => At T s (.leaf w)
  | .pair s l r => At T s (.pair l.s r.s) ∧ l.ok T ∧ r.ok T
theorem UT.mono (hp : T <+: T') : ∀ {t : UT}, t.ok T → t.ok T'
  | .leaf _ _, h => At.mono hp h
  | .pair _ _ _, h => ⟨At.mono hp h.1, UT.mono hp h.2.1, UT.mono hp h.2.2⟩
theorem UT.seal (t : UT) (S : Sto) : idxW (.d t.d) (.int 1) S = some (.int t.s) := by cases t <;> rfl
theorem way_eq {t : UT} (hok : t.ok T) {d K : Nat} (hd : d ≤ 12) (q : Q (.d (pathD T K d t.s)) S) : Ok (run fu P (n + 1) 20 [t.d, .int (d : Int), .int (K : Int)] S) Q := by
  refine has_run (i := 20) (B := b249) (np := 3) (ns := 6) ⟨f20, rfl, rfl, rfl, rfl⟩ rfl ?_
  show Ok (evSs fu (run fu P n) (run fu P n) P.T.ini b249 [some t.d, some (.int (d : Int)), some (.int (K : Int)), none, none, none] S) _
  unfold b249
  walk_at "nx"
  unfold t249_0
  walk_at "ex"
  walk_at "ln"
  walk_at "ex"
  walk_at "nx"
  unfold t249_1
  refine ok_forE ?_
  rw [evI_rngD (v := 1) (k := d) rfl (by omega), Ok_ok]
  refine ok_for (fun l ρ S' => ∃ (m : Nat) (t' : UT) (acc : List Int) (x y : Option D), m ≤ d ∧ l = (rngL ((d : Int) - 1) (-1) d).drop (d - m) ∧ S' = S ∧ acc.length = d - m ∧ t'.ok T ∧
      ρ = [some t'.d, some (.int (d : Int)), some (.int (K : Int)), some (.tup (acc.reverse.map D.int)), x, y] ∧ dnT T K d t.s = (dnT T K m t'.s).map fun p => (p.1, acc ++ p.2)) (fun _ _ _ _ => rfl) ?_ ?_ _ _ _
    ⟨d, t, [], none, none, Nat.le_refl _, by rw [Nat.sub_self]; rfl, rfl, by simp, hok, rfl, by cases dnT T K d t.s <;> rfl⟩
  · rintro x l ρ S' ⟨m, t', acc, x1, x2, hm, hl, rfl, hacc, hok', rfl, hdn⟩
    cases m with
    | zero => rw [Nat.sub_zero, List.drop_eq_nil_of_le (by rw [rng_len]; exact Nat.le_refl _)] at hl; cases hl
    | succ m =>
      rw [rng_drop (by omega)] at hl
      injection hl with hx hl
      have hx : x = .int (m : Int) := by rw [hx]; congr 1; omega
      subst hx
      rw [show d - (m + 1) + 1 = d - m by omega] at hl
      refine ok_forF rfl ?_
      cases t' with
      | leaf s w =>
        walk_at "nx"
        unfold t249_2
        walk_at "ex"
        refine ⟨.str [108, 101, 97, 102], rfl, ?_⟩
        walk_at "ex"
        refine ⟨_, ne_str, _, rfl, if_t (by decide) ?_⟩
        walk_at "nx"
        unfold t249_3
        walk_at "ex"
        unfold pathD at q
        rw [hdn, show (UT.leaf s w).s = s from rfl, dnT_leafS (At.opn hok')] at q
        exact q
      | pair s l' r' =>
        have ho := dnT_pairS (k := K) (j := m) (At.opn hok'.1)
        rw [show (UT.pair s l' r').s = s from rfl, ho] at hdn
        walk_at "nx"
        unfold t249_2
        walk_at "ex"
        refine ⟨.str [112, 97, 105, 114], rfl, ?_⟩
        walk_at "ex"
        refine ⟨_, ne_str, _, rfl, if_f (by decide) ?_⟩
        refine ok_nil ?_
        dsimp only
        walk_at "nx"
        unfold t249_4
        walk_at "ex"
        refine ⟨_, shr_nat K m, ?_⟩
        walk_at "ex"
        refine ⟨_, mod_two _, ?_⟩
        walk_at "ex"
        walk_at "nx"
        unfold t249_5
        walk_at "ex"
        walk_at "rr"
        walk_at "ex"
        by_cases hb : K / 2 ^ m % 2 = 0
        · rw [if_pos hb, if_pos hb] at hdn
          rw [hb]
          refine ⟨r'.d, rfl, ?_⟩
          walk_at "ex"
          refine ⟨_, r'.seal _, ?_⟩
          walk_at "ln"
          walk_at "ex"
          refine ⟨_, badd_tup (by simp; unfold LINE; omega), ?_⟩
          walk_at "ex"
          walk_at "nx"
          unfold t249_6
          walk_at "ex"
          walk_at "rr"
          walk_at "ex"
          refine ⟨l'.d, rfl, ?_⟩
          refine ⟨m, l', acc ++ [r'.s], some (.int (m : Int)), some (.int 0), by omega, hl, rfl, by simp; omega, hok'.2.1, by simp, ?_⟩
          rw [hdn]
          cases dnT T K m l'.s <;> simp
        · have hb1 : K / 2 ^ m % 2 = 1 := by omega
          rw [if_neg hb, if_neg hb] at hdn
          rw [hb1]
          refine ⟨l'.d, rfl, ?_⟩
          walk_at "ex"
          refine ⟨_, l'.seal _, ?_⟩
          walk_at "ln"
          walk_at "ex"
          refine ⟨_, badd_tup (by simp; unfold LINE; omega), ?_⟩
          walk_at "ex"
          walk_at "nx"
          unfold t249_6
          walk_at "ex"
          walk_at "rr"
          walk_at "ex"
          refine ⟨r'.d, rfl, ?_⟩
          refine ⟨m, r', acc ++ [l'.s], some (.int (m : Int)), some (.int 1), by omega, hl, rfl, by simp; omega, hok'.2.2, by simp, ?_⟩
          rw [hdn]
          cases dnT T K m r'.s <;> simp
  · rintro ρ S' ⟨m, t', acc, x1, x2, hm, hl, rfl, hacc, hok', rfl, hdn⟩
    have hm0 : m = 0 := by
      rcases Nat.eq_zero_or_pos m with hh | hh
      · exact hh
      · rw [rng_drop (by omega)] at hl; cases hl
    subst hm0
    dsimp only
    cases t' with
    | leaf s w =>
      walk_at "nx"
      unfold t249_7
      walk_at "ex"
      refine ⟨.str [108, 101, 97, 102], rfl, ?_⟩
      walk_at "ex"
      refine ⟨_, ne_str, _, rfl, if_f (by decide) ?_⟩
      refine ok_nil ?_
      dsimp only
      walk_at "nx"
      unfold t249_9
      walk_at "ex"
      refine ⟨.int w, rfl, ?_⟩
      walk_at "ex"
      walk_at "ln"
      unfold pathD at q
      rw [hdn, show (UT.leaf s w).s = s from rfl, dnT_leaf0 (At.opn hok')] at q
      simp only [Option.map_some, List.append_nil] at q
      exact q
    | pair s l' r' =>
      walk_at "nx"
      unfold t249_7
      walk_at "ex"
      refine ⟨.str [112, 97, 105, 114], rfl, ?_⟩
      walk_at "ex"
      refine ⟨_, ne_str, _, rfl, if_t (by decide) ?_⟩
      walk_at "nx"
      unfold t249_8
      walk_at "ex"
      unfold pathD at q
      rw [hdn, show (UT.pair s l' r').s = s from rfl, dnT_pair0 (At.opn hok'.1)] at q
      exact q
theorem uneven_ok (hfu : 64 < fu) : ∀ (far : Nat) {n : Nat} {S : Sto} {T : List Th} {Q : W → Sto → Prop}, far ≤ 6 → HD N k j h a b S T → T.length + 2 ^ (far + 1) < 8000000 →
    (∀ (t : UT) (S' : Sto) (T' : List Th), HD N k j h a b S' T' → Ext T T' (2 ^ (far + 1) - 1) → t.ok T' → Q (.d t.d) S') → Ok (run fu P (n + far + 3) 19 [.ref k, .ref h, .int (far : Int)] S) Q := by
  intro far
  induction far with
  | zero =>
    intro n S T Q _ H hT q
    refine has_run (i := 19) (B := b248) (np := 3) (ns := 6) ⟨f19, rfl, rfl, rfl, rfl⟩ rfl ?_
    show Ok (evSs fu (run fu P (n + 2)) (run fu P (n + 2)) P.T.ini b248 [some (.ref k), some (.ref h), some (.int 0), none, none, none] S) _
    unfold b248
    walk_at "nx"
    unfold t248_0
    walk_at "ex"
    refine ⟨true, rfl, _, rfl, ?_⟩
    refine if_t rfl ?_
    refine ⟨_, rfl, if_t rfl ?_⟩
    walk_at "nx"
    unfold t248_1
    walk_at "ex"
    refine hword ub uRow hfu H fun v S1 H1 F1 => ?_
    walk_at "ex"
    walk_at "nx"
    unfold t248_2
    walk_at "ex"
    refine ⟨h, _, _, _, rfl, H1.hs.i, H1.lm uHou (m := 69) (by decide), lk_one, ?_⟩
    walk_at "ex"
    refine hleaf uHou H1 (by omega) v fun s S2 T2 H2 a2 E2 F2 => ?_
    walk_at "ex"
    walk_at "ln"
    exact q (.leaf s v) S2 T2 H2 (E2.le (by decide)) a2
  | succ far ih =>
    intro n S T Q hf H hT q
    have hp2 : 2 ^ (far + 1 + 1) = 2 ^ (far + 1) + 2 ^ (far + 1) := by rw [Nat.pow_succ 2 (far + 1)]; omega
    have hp1 : 2 ^ (far + 1) = 2 ^ far + 2 ^ far := by rw [Nat.pow_succ]; omega
    have hp0 : 0 < 2 ^ far := Nat.pow_pos (by decide)
    have hp7 : 2 ^ (far + 1) ≤ 2 ^ 6 := Nat.pow_le_pow_right (by decide) hf
    refine has_run (i := 19) (B := b248) (np := 3) (ns := 6) ⟨f19, rfl, rfl, rfl, rfl⟩ rfl ?_
    show Ok (evSs fu (run fu P (n + far + 3)) (run fu P (n + far + 3)) P.T.ini b248 [some (.ref k), some (.ref h), some (.int ((far + 1 : Nat) : Int)), none, none, none] S) _
    unfold b248
    walk_at "nx"
    unfold t248_0
    walk_at "ex"
    refine ⟨_, eq_int, _, rfl, if_f (by rw [decide_eq_false (by omega)]; decide) ?_⟩
    walk_at "ex"
    refine hdraw (n := n + far + 2) ub hfu H (by decide) (by decide) fun v S1 v0 v1 H1 F1 => ?_
    walk_at "ex"
    refine ⟨_, eq_int, _, rfl, _, rfl, ?_⟩
    by_cases hv : v = 0
    · refine if_t (decide_eq_true hv) ?_
      walk_at "nx"
      unfold t248_1
      walk_at "ex"
      refine hword (n := n + far + 1) ub uRow hfu H1 fun v S1 H1 F1 => ?_
      walk_at "ex"
      walk_at "nx"
      unfold t248_2
      walk_at "ex"
      refine ⟨h, _, _, _, rfl, H1.hs.i, H1.lm uHou (m := 69) (by decide), lk_one, ?_⟩
      walk_at "ex"
      refine hleaf (n := n + far + 1) uHou H1 (by omega) v fun s S2 T2 H2 a2 E2 F2 => ?_
      walk_at "ex"
      walk_at "ln"
      exact q (.leaf s v) S2 T2 H2 (E2.le (by omega)) a2
    · refine if_f (by rw [decide_eq_false hv]; decide) ?_
      refine ok_nil ?_
      dsimp only
      walk_at "nx"
      unfold t248_3
      walk_at "ex"
      walk_at "rr"
      rw [show ((far + 1 : Nat) : Int) - 1 = (far : Int) by omega]
      walk_at "ex"
      refine ih (n := n) (by omega) H1 (by omega) fun t1 S2 T2 H2 E2 o2 => ?_
      walk_at "ex"
      walk_at "nx"
      unfold t248_4
      walk_at "ex"
      walk_at "rr"
      rw [show ((far + 1 : Nat) : Int) - 1 = (far : Int) by omega]
      walk_at "ex"
      have hE2 := E2.2
      refine ih (n := n) (by omega) H2 (by omega) fun t2 S3 T3 H3 E3 o3 => ?_
      walk_at "ex"
      walk_at "nx"
      unfold t248_5
      walk_at "ex"
      refine ⟨h, _, _, _, rfl, H3.hs.i, H3.lm uHou (m := 70) (by decide), lk_one, ?_⟩
      walk_at "ex"
      refine ⟨_, t1.seal _, ?_⟩
      walk_at "ex"
      refine ⟨_, t2.seal _, ?_⟩
      walk_at "ex"
      have hE3 := E3.2
      refine hpair (n := n + far + 1) uHou H3 (by omega) t1.s t2.s fun s S4 T4 H4 a4 E4 F4 => ?_
      walk_at "ex"
      walk_at "ln"
      exact q (.pair s t1 t2) S4 T4 H4 (((E2.trans E3).trans E4).le (by omega)) ⟨a4, UT.mono (E3.1.trans E4.1) o2, UT.mono E4.1 o3⟩
theorem uneven_right_ok (hfu : 64 < fu) (H : HD N k j h a b S T) (hT : T.length < 100000) (q : ∀ (S' : Sto) (T' : List Th), HD N k j h a b S' T' → Ext T T' 1000 → Q (.d (.bl true)) S') :
    Ok (run fu P (n + 12) 21 [.ref k, .ref h] S) Q := by
  refine has_run (i := 21) (B := b633) (np := 2) (ns := 7) ⟨f21, rfl, rfl, rfl, rfl⟩ rfl ?_
  show Ok (evSs fu (run fu P (n + 11)) (run fu P (n + 11)) P.T.ini b633 [some (.ref k), some (.ref h), none, none, none, none, none] S) _
  unfold b633
  walk_at "nx"
  unfold t633_0
  walk_at "ex"
  refine uneven_ok (n := n + 5) hfu 3 (by decide) H (by omega) fun t1 S1 T1 H1 E1 o1 => ?_
  have hE1 := E1.2
  walk_at "ex"
  refine uneven_ok (n := n + 3) hfu 5 (by decide) H1 (by omega) fun t2 S2 T2 H2 E2 o2 => ?_
  have hE2 := E2.2
  walk_at "ex"
  walk_at "ln"
  walk_at "ex"
  walk_at "nx"
  unfold t633_1
  walk_at "ex"
  refine ⟨h, _, _, _, rfl, H2.hs.i, H2.lm uHou (m := 70) (by decide), lk_one, ?_⟩
  walk_at "ex"
  refine ⟨t1.d, rfl, ?_⟩
  walk_at "ex"
  refine ⟨_, t1.seal _, ?_⟩
  walk_at "ex"
  refine ⟨t2.d, rfl, ?_⟩
  walk_at "ex"
  refine ⟨_, t2.seal _, ?_⟩
  walk_at "ex"
  refine hpair (n := n + 9) uHou H2 (by omega) t1.s t2.s fun s S3 T3 H3 a3 E3 F3 => ?_
  have hE3 := E3.2
  walk_at "ex"
  walk_at "ln"
  walk_at "ex"
  walk_at "rr"
  walk_at "ex"
  walk_at "rr"
  refine ⟨.d (UT.pair s t1 t2).d, rfl, ?_⟩
  walk_at "ex"
  have ok3 : (UT.pair s t1 t2).ok T3 := ⟨a3, UT.mono (E2.1.trans E3.1) o1, UT.mono E3.1 o2⟩
  generalize ht : UT.pair s t1 t2 = t at ok3
  have hsl := UT.seal t
  walk_at "nx"
  unfold t633_2
  walk_at "ex"
  refine ⟨12, rfl, by decide, ?_⟩
  refine ok_for (fun l ρ S' => ∃ (m : Nat) (T' : List Th) (y1 y2 y3 y4 : Option D), l = (rngL 0 1 12).drop m ∧ m ≤ 12 ∧ ρ = [some (.ref k), some (.ref h), some t.d, y1, y2, y3, y4] ∧ HD N k j h a b S' T' ∧ Ext T3 T' (7 * m)) (fun _ _ _ _ => rfl) ?_ ?_ _ _ _
    ⟨0, T3, none, none, none, none, rfl, by decide, rfl, H3, Ext.refl⟩
  · rintro x l ρ S' ⟨m, T', y1, y2, y3, y4, hl, hm, rfl, H', E'⟩
    have hmd : m < 12 := by
      rcases Nat.lt_or_ge m 12 with hh | hh
      · exact hh
      · rw [List.drop_of_length_le (by rw [rng_len]; exact hh)] at hl
        cases hl
    rw [rng_drop hmd] at hl
    injection hl with hx hl
    refine ok_forF rfl ?_
    have hE' := E'.2
    have ok' := UT.mono E'.1 ok3
    walk_at "nx"
    unfold t633_3
    walk_at "ex"
    refine hdraw (n := n + 10) ub hfu H' (by decide) (by decide) fun v S4 v0 v1 H4 F4 => ?_
    obtain ⟨d, rfl⟩ : ∃ d : Nat, v = (d : Int) := ⟨v.toNat, by omega⟩
    have hd : d ≤ 6 := by omega
    have hp2 : (2 : Nat) ^ d ≤ 2 ^ 6 := Nat.pow_le_pow_right (by decide) hd
    have hp0 : 0 < 2 ^ d := Nat.pow_pos (by decide)
    walk_at "ex"
    walk_at "nx"
    unfold t633_4
    walk_at "ex"
    refine ⟨_, shl_one (show d ≤ 12 by omega), ?_⟩
    walk_at "ex"
    refine hdraw (n := n + 10) ub hfu H4 (by omega) (by omega) fun v S5 w0 w1 H5 F5 => ?_
    obtain ⟨K, rfl⟩ : ∃ K : Nat, v = (K : Int) := ⟨v.toNat, by omega⟩
    have hK : K < 2 ^ d := by omega
    walk_at "ex"
    walk_at "nx"
    unfold t633_5
    walk_at "ex"
    refine way_eq (n := n + 10) ok' (by omega) ?_
    walk_at "ex"
    walk_at "nx"
    unfold t633_6
    walk_at "ex"
    refine ⟨_, hsl _, ?_⟩
    walk_at "ex"
    refine hpath (n := n + 8) uHou uWay uPat H5 (by omega) hK (by omega) t.s fun o H6 => ?_
    walk_at "ex"
    refine ⟨_, ne_same (n := 2) (by decide) pathD_tok, _, rfl, if_f (by decide) ?_⟩
    walk_at "ex"
    refine ⟨_, hsl _, ?_⟩
    walk_at "ex"
    refine hwordin (n := n + 8) uHou uWay uWor H6 (by omega) hK (by omega) t.s fun o H7 => ?_
    have fin : ∀ (S : Sto), HD N k j h a b S T' → ∀ R : Out → Sto → Prop, (∀ (ρ : Env) (S' : Sto), (∃ (m : Nat) (T' : List Th) (y1 y2 y3 y4 : Option D), l = (rngL 0 1 12).drop m ∧ m ≤ 12 ∧ ρ = [some (.ref k), some (.ref h), some t.d, y1, y2, y3, y4] ∧ HD N k j h a b S' T' ∧ Ext T3 T' (7 * m)) → R (.nx ρ) S') → Ok (evSs fu (run fu P (n + 11)) (run fu P (n + 11)) P.T.ini (.cons t633_8 .nil) [some (.ref k), some (.ref h), some t.d, some x, some (.int (d : Int)), some (.int (K : Int)), some (pathD T' K d t.s)] S) R := by
      intro S H7 R hR
      walk_at "nx"
      unfold t633_8
      walk_at "ex"
      refine ⟨_, hsl _, ?_⟩
      walk_at "ex"
      refine hput (n := n + 7) uHou uWay uPat uRai uPut H7 (by omega) hK (by omega) t.s 5 fun r S8 T8 H8 E8 r1 r2 => ?_
      walk_at "ex"
      refine ⟨decide (r = .non), ?_, ?_⟩
      · cases r <;> rfl
      walk_at "ex"
      refine ⟨decide (dnT T' K d t.s = none), ?_, _, ne_bl, _, rfl, ?_⟩
      · unfold pathD
        cases dnT T' K d t.s <;> rfl
      refine if_f ?_ ?_
      · cases e : dnT T' K d t.s with
        | none =>
          rw [(r1 e).1]
          decide
        | some p =>
          obtain ⟨t0, rfl⟩ := r2 (by rw [e]; rfl)
          simp
      refine ok_nil ?_
      exact hR _ _ ⟨m + 1, T8, _, _, _, _, hl, hmd, rfl, H8, (E'.trans E8).le (by omega)⟩
    cases e : dnT T' K d t.s with
    | none =>
      have hpd : pathD T' K d t.s = .non := by unfold pathD; rw [e]
      dsimp only
      refine ok_orvE ?_
      walk_at "ex"
      rw [hpd] at fin ⊢
      refine ⟨false, rfl, if_f (by decide) ?_⟩
      walk_at "ex"
      walk_at "ln"
      walk_at "ex"
      refine ⟨.non, rfl, false, rfl, _, rfl, _, rfl, if_f (by decide) ?_⟩
      refine ok_nil ?_
      dsimp only
      exact fin _ H7 _ fun _ _ h => h
    | some p =>
      have hpd : pathD T' K d t.s = .tup [.int p.1, .tup (p.2.reverse.map D.int)] := by unfold pathD; rw [e]
      dsimp only
      refine ok_orvE ?_
      walk_at "ex"
      rw [hpd] at fin ⊢
      refine ⟨true, rfl, if_t rfl ?_⟩
      walk_at "ex"
      refine ⟨.int p.1, rfl, _, ne_int, _, rfl, _, rfl, if_f (by simp) ?_⟩
      refine ok_nil ?_
      dsimp only
      exact fin _ H7 _ fun _ _ h => h
  · rintro ρ S' ⟨m, T', y1, y2, y3, y4, hl, hm, rfl, H', E'⟩
    dsimp only
    walk_at "nx"
    unfold t633_10
    walk_at "ex"
    exact q S' T' H' ((((E1.trans E2).trans E3).trans E').le (by omega))
theorem pow12 {S : Sto} : binW .pow (.d (.int 10)) (.d (.int 12)) S = some (.d (.int 1000000000000)) := rfl
theorem pow9 {S : Sto} : binW .pow (.d (.int 10)) (.d (.int 9)) S = some (.d (.int 1000000000)) := rfl
theorem main_ok (hfu : 64 < fu) {ns : List Int} (hns : ns.length ≤ 63) : Ok (run fu P (n + 16) 22 [.rol false (ns.map D.int)] []) fun w _ => w = .d (.bl true) := by
  refine has_run (i := 22) (B := b634) (np := 1) (ns := 12) ⟨f22, rfl, rfl, rfl, rfl⟩ rfl ?_
  show Ok (evSs fu (run fu P (n + 15)) (run fu P (n + 15)) P.T.ini b634 [some (.rol false (ns.map D.int)), none, none, none, none, none, none, none, none, none, none, none] []) _
  unfold b634
  walk_at "nx"
  unfold t634_0
  walk_at "ex"
  refine bdeal ub hns (by decide) (by decide) fun some_ left seed h0 h1 h2 h3 => ?_
  walk_at "ex"
  have hD := dl_new (some_ := some_) h0 h1 h2 h3
  generalize hsc : D.rol false (ns.map D.int) = sc
  simp only [List.nil_append, List.length_append, List.length_nil, List.length_cons] at hD ⊢
  generalize hS1 : [O.lst (some_.map D.int), O.lst (left.map D.int)] ++ [dealO 1 seed 0] = S1 at hD ⊢
  have hl1 : S1.length = 3 := by rw [← hS1]; rfl
  walk_at "nx"
  unfold t634_1
  walk_at "ex"
  refine hnew (n := n + 14) uHou hD fun S2 H2 l2 _ => ?_
  rw [hl1] at H2 ⊢
  walk_at "ex"
  walk_at "nx"
  unfold t634_2
  walk_at "ex"
  refine hdraw (n := n + 14) ub hfu H2 (by decide) (by decide) fun v S3 v0 v1 H3 F3 => ?_
  walk_at "ex"
  refine ⟨_, eq_int, _, rfl, ?_⟩
  have rest : ∀ (S : Sto) (T : List Th), HD N 2 1 3 4 5 S T → T.length ≤ 64 → Ok (evSs fu (run fu P (n + 15)) (run fu P (n + 15)) P.T.ini (.cons t634_4 (.cons t634_5 (.cons t634_6 (.cons t634_7 (.cons t634_8 (.cons t634_12 (.cons t634_14 (.cons t634_22 .nil)))))))) [some sc, some (.ref 2), some (.ref 3), none, none, none, none, none, none, none, none, none] S) fun o S => match o with
      | .nx _ => (fun (w : W) (_ : Sto) => w = .d (.bl true)) (.d .non) S
      | .rt w => (fun (w : W) (_ : Sto) => w = .d (.bl true)) w S
      | _ => False := by
    intro S T H hT
    walk_at "nx"
    unfold t634_4
    walk_at "ex"
    walk_at "ln"
    walk_at "ex"
    refine hdraw (n := n + 14) ub hfu H (by decide) (by decide) fun v S4 v0 v1 H4 F4 => ?_
    walk_at "ex"
    obtain ⟨d, hd, hdv⟩ : ∃ d : Nat, d ≤ 6 ∧ idxW (.o (.lst [.int 0, .int 1, .int 2, .int 3, .int 5, .int 6])) (.int v) S4 = some (.int (d : Int)) := by
      have : v = 0 ∨ v = 1 ∨ v = 2 ∨ v = 3 ∨ v = 4 ∨ v = 5 := by omega
      rcases this with rfl | rfl | rfl | rfl | rfl | rfl
      · exact ⟨0, by decide, rfl⟩
      · exact ⟨1, by decide, rfl⟩
      · exact ⟨2, by decide, rfl⟩
      · exact ⟨3, by decide, rfl⟩
      · exact ⟨5, by decide, rfl⟩
      · exact ⟨6, by decide, rfl⟩
    have hp2 : (2 : Nat) ^ d ≤ 2 ^ 6 := Nat.pow_le_pow_right (by decide) hd
    have hp1 : (2 : Nat) ^ (d + 1) ≤ 2 ^ 7 := Nat.pow_le_pow_right (by decide) (by omega)
    have hp0 : 0 < 2 ^ d := Nat.pow_pos (by decide)
    refine ⟨_, hdv, ?_⟩
    walk_at "ex"
    walk_at "nx"
    unfold t634_5
    walk_at "ex"
    refine hrow (n := n + 12) ub uRow hfu H4 hd fun ws S5 hws H5 F5 => ?_
    walk_at "ex"
    walk_at "nx"
    unfold t634_6
    walk_at "ex"
    refine hseal (n := n + 12) uHou uSea hfu H5 hws (by omega) (by omega) fun s S6 T6 H6 E6 hs F6 => ?_
    have hE6 := E6.2
    walk_at "ex"
    walk_at "nx"
    unfold t634_7
    walk_at "ex"
    refine ⟨3, _, _, _, rfl, H6.hs.i, H6.lm uHou (m := 72) (by decide), lk_one, ?_⟩
    walk_at "ex"
    refine hmany (n := n + 14) uHou H6 ?_
    walk_at "ex"
    have hpath0 : ∀ K, K < 2 ^ d → ∀ l, dnT T6 K d s = some (PyI.wf ws K, l) → pathD T6 K d s = .tup [.int (PyI.wf ws K), .tup (l.reverse.map D.int)] := fun K _ l e => by unfold pathD; rw [e]
    have hget : ∀ K, K < 2 ^ d → ws[K]? = some (PyI.wf ws K) := fun K hK => by
      unfold PyI.wf
      rw [List.getD_eq_getElem?_getD, List.getElem?_eq_getElem (by omega)]
      rfl
    walk_at "nx"
    unfold t634_8
    walk_at "ex"
    refine ⟨_, shl_one (show d ≤ 12 by omega), ?_⟩
    refine ⟨_, rfl, by omega, ?_⟩
    refine ok_for (fun l ρ S' => ∃ (m : Nat) (y1 y2 : Option D), l = (rngL 0 1 (2 ^ d)).drop m ∧ m ≤ 2 ^ d ∧ ρ = [some sc, some (.ref 2), some (.ref 3), some (.int (d : Int)), some (.tup (ws.map D.int)), some (.int s), some (.int (T6.length : Int)), y1, y2, none, none, none] ∧ HD N 2 1 3 4 5 S' T6) (fun _ _ _ _ => rfl) ?_ ?_ _ _ _
      ⟨0, none, none, rfl, Nat.zero_le _, rfl, H6⟩
    · rintro x l ρ S' ⟨m, y1, y2, hl, hm, rfl, H'⟩
      have hmd : m < 2 ^ d := by
        rcases Nat.lt_or_ge m (2 ^ d) with hh | hh
        · exact hh
        · rw [List.drop_of_length_le (by rw [rng_len]; exact hh)] at hl
          cases hl
      rw [rng_drop hmd] at hl
      injection hl with hx hl
      subst hx
      refine ok_forF rfl ?_
      rw [show (0 : Int) + (m : Int) * 1 = (m : Int) by omega]
      have hwm : ∀ S, idxW (.d (.tup (ws.map D.int))) (.int (m : Int)) S = some (.int (PyI.wf ws m)) := fun S => idx_tn (by rw [List.getElem?_map, hget m hmd]; rfl)
      walk_at "nx"
      unfold t634_9
      walk_at "ex"
      refine ⟨_, hwm _, ?_⟩
      walk_at "ex"
      refine sib_ok (n := n + 3) H' (by omega) hd hws hmd hs fun L S7 H7 hL => ?_
      walk_at "ex"
      walk_at "ln"
      walk_at "ex"
      rw [← hpath0 m hmd L hL]
      walk_at "nx"
      unfold t634_10
      walk_at "ex"
      refine hwordin (n := n + 12) uHou uWay uWor H7 (by omega) hmd (by omega) s fun o H8 => ?_
      rw [hL]
      walk_at "ex"
      refine ⟨_, hwm _, _, ne_int, _, rfl, if_f (by simp) ?_⟩
      walk_at "ex"
      refine hpath (n := n + 12) uHou uWay uPat H8 (by omega) hmd (by omega) s fun o H9 => ?_
      walk_at "ex"
      refine ⟨_, ne_same (n := 2) (by decide) pathD_tok, _, rfl, _, rfl, if_f (by decide) ?_⟩
      refine ok_nil ?_
      exact ⟨m + 1, _, _, hl, hmd, rfl, H9⟩
    · rintro ρ S' ⟨m, y1, y2, hl, hm, rfl, H'⟩
      dsimp only
      walk_at "nx"
      unfold t634_12
      walk_at "ex"
      refine ⟨3, _, _, _, rfl, H'.hs.i, H'.lm uHou (m := 72) (by decide), lk_one, ?_⟩
      walk_at "ex"
      refine hmany (n := n + 14) uHou H' ?_
      walk_at "ex"
      refine ⟨_, ne_int, _, rfl, if_f (by simp) ?_⟩
      walk_at "ex"
      refine uneven_right_ok (n := n + 3) hfu H' (by omega) fun S8 T8 H8 E8 => ?_
      have hE8 := E8.2
      refine ⟨_, rfl, _, rfl, _, rfl, if_f (by decide) ?_⟩
      refine ok_nil ?_
      dsimp only
      have hs8 := Sl.mono E8.1 hs
      walk_at "nx"
      unfold t634_14
      walk_at "ex"
      refine ⟨6, rfl, by decide, ?_⟩
      refine ok_for (fun l ρ S' => ∃ (y3 y4 y5 : Option D), ρ = [some sc, some (.ref 2), some (.ref 3), some (.int (d : Int)), some (.tup (ws.map D.int)), some (.int s), some (.int (T6.length : Int)), y1, y2, y3, y4, y5] ∧ HD N 2 1 3 4 5 S' T8) (fun _ _ _ _ => rfl) ?_ ?_ _ _ _
        ⟨none, none, none, rfl, H8⟩
      · rintro x l ρ S' ⟨y3, y4, y5, rfl, H'⟩
        refine ok_forF rfl ?_
        walk_at "nx"
        unfold t634_15
        walk_at "ex"
        refine ⟨_, pow12, ?_⟩
        walk_at "ex"
        refine ⟨_, pow9, ?_⟩
        walk_at "ex"
        refine hdraw (n := n + 14) ub hfu H' (by decide) (by decide) fun v1 S9 a1 b1 H9 F9 => ?_
        walk_at "ex"
        walk_at "rr"
        walk_at "ex"
        refine ⟨_, pow9, ?_⟩
        walk_at "ex"
        refine hdraw (n := n + 14) ub hfu H9 (by decide) (by decide) fun v2 S9 a2 b2 H9 F9 => ?_
        walk_at "ex"
        walk_at "rr"
        walk_at "ex"
        walk_at "ln"
        walk_at "ex"
        refine hdraw (n := n + 14) ub hfu H9 (by decide) (by decide) fun v3 S9 a3 b3 H9 F9 => ?_
        walk_at "ex"
        obtain ⟨z, hz, hzv⟩ : ∃ z : Int, (z ≤ 0 ∨ (T8.length : Int) < z) ∧ idxW (.o (.lst [.int 0, .int (-1), .int (1000000000000 + v1), .int (0 - v2)])) (.int v3) S9 = some (.int z) := by
          have : v3 = 0 ∨ v3 = 1 ∨ v3 = 2 ∨ v3 = 3 := by omega
          rcases this with rfl | rfl | rfl | rfl
          · exact ⟨_, by omega, rfl⟩
          · exact ⟨_, by omega, rfl⟩
          · exact ⟨_, by omega, rfl⟩
          · exact ⟨_, by omega, rfl⟩
        refine ⟨_, hzv, ?_⟩
        walk_at "ex"
        have hoz := opn_low hz
        walk_at "nx"
        unfold t634_16
        walk_at "ex"
        refine hdraw (n := n + 14) ub hfu H9 (by decide) (by decide) fun v S10 c0 c1 H10 F9 => ?_
        obtain ⟨e, rfl⟩ : ∃ d : Nat, v = (d : Int) := ⟨v.toNat, by omega⟩
        have hp0 : 0 < 2 ^ e := Nat.pow_pos (by decide)
        have hp2 : (2 : Nat) ^ e ≤ 2 ^ 6 := Nat.pow_le_pow_right (by decide) (by omega)
        walk_at "ex"
        walk_at "nx"
        unfold t634_17
        walk_at "ex"
        refine ⟨_, shl_one (show e ≤ 12 by omega), ?_⟩
        walk_at "ex"
        refine hdraw (n := n + 14) ub hfu H10 (by omega) (by omega) fun v S11 c2 c3 H11 F9 => ?_
        obtain ⟨K, rfl⟩ : ∃ K : Nat, v = (K : Int) := ⟨v.toNat, by omega⟩
        walk_at "ex"
        refine none_ok (n := n + 10) H11 (by omega) (by omega) (by omega) (dnT_no hoz e) fun S12 H12 => ?_
        refine ⟨_, rfl, _, rfl, if_f (by decide) ?_⟩
        walk_at "ex"
        refine ⟨3, _, _, _, rfl, H12.hs.i, H12.lm uHou (m := 71) (by decide), lk_one, ?_⟩
        walk_at "ex"
        refine hopen (n := n + 14) uHou H12 (by omega) z ?_
        rw [opd_no hoz]
        walk_at "ex"
        refine ⟨_, rfl, _, rfl, _, rfl, if_f (by decide) ?_⟩
        refine ok_nil ?_
        dsimp only
        walk_at "nx"
        unfold t634_19
        walk_at "ex"
        walk_at "rr"
        walk_at "ex"
        walk_at "rr"
        walk_at "ex"
        refine ⟨.d (.int (max 0 ((d : Int) - 1))), max2_ok, ?_⟩
        walk_at "ex"
        walk_at "rr"
        walk_at "ex"
        walk_at "ln"
        walk_at "ex"
        refine hdraw (n := n + 14) ub hfu H12 (by decide) (by decide) fun v4 S13 a4 b4 H13 F9 => ?_
        walk_at "ex"
        obtain ⟨g, hg, hgv⟩ : ∃ g : Nat, g ≤ 8 ∧ idxW (.o (.lst [.int ((d : Int) + 1), .int (max 0 ((d : Int) - 1)), .int ((d : Int) + 2)])) (.int v4) S13 = some (.int (g : Int)) := by
          have : v4 = 0 ∨ v4 = 1 ∨ v4 = 2 := by omega
          rcases this with rfl | rfl | rfl
          · exact ⟨d + 1, by omega, rfl⟩
          · exact ⟨d - 1, by omega, by show some (D.int (max 0 ((d : Int) - 1))) = _; congr 2; omega⟩
          · exact ⟨d + 2, by omega, rfl⟩
        refine ⟨_, hgv, ?_⟩
        walk_at "ex"
        refine ⟨.d (.int (min 6 (g : Int))), min2_ok, ?_⟩
        obtain ⟨e2, he2, hee⟩ : ∃ e2 : Nat, e2 ≤ 6 ∧ min 6 (g : Int) = (e2 : Int) := ⟨min 6 g, by omega, by omega⟩
        rw [hee]
        walk_at "ex"
        have hq0 : 0 < 2 ^ e2 := Nat.pow_pos (by decide)
        have hq2 : (2 : Nat) ^ e2 ≤ 2 ^ 6 := Nat.pow_le_pow_right (by decide) (by omega)
        walk_at "nx"
        unfold t634_20
        walk_at "ex"
        refine ⟨_, ne_int, _, rfl, ?_⟩
        by_cases hed : e2 = d
        · refine if_f (by subst hed; simp) ?_
          refine ⟨_, rfl, if_f (by decide) ?_⟩
          refine ok_nil ?_
          exact ⟨_, _, _, rfl, H13⟩
        · refine if_t (by rw [decide_eq_false (by omega)]; rfl) ?_
          walk_at "ex"
          refine ⟨_, shl_one (show e2 ≤ 12 by omega), ?_⟩
          walk_at "ex"
          refine hdraw (n := n + 14) ub hfu H13 (by omega) (by omega) fun v S14 c2 c3 H14 F9 => ?_
          obtain ⟨K, rfl⟩ : ∃ K : Nat, v = (K : Int) := ⟨v.toNat, by omega⟩
          walk_at "ex"
          refine none_ok (n := n + 10) H14 (by omega) (by omega) (by omega) (dnT_off hs8 hed) fun S15 H15 => ?_
          refine ⟨_, rfl, _, rfl, _, rfl, if_f (by decide) ?_⟩
          refine ok_nil ?_
          exact ⟨_, _, _, rfl, H15⟩
      · rintro ρ S' ⟨y3, y4, y5, rfl, H'⟩
        dsimp only
        walk_at "nx"
        unfold t634_22
        walk_at "ex"
        refine hwordin (i := 0) (n := n + 12) uHou uWay uWor H' (by omega) hp0 (by omega) s fun o H9 => ?_
        obtain ⟨L, hL, -⟩ := Sl.dn (k := 0) hs8
        rw [hL]
        walk_at "ex"
        have hw0 : ∀ S, idxW (.d (.tup (ws.map D.int))) (.int 0) S = some (.int (PyI.wf ws 0)) := fun S => idx_tn (i := 0) (by rw [List.getElem?_map, hget 0 hp0]; rfl)
        refine ⟨_, hw0 _, _, eq_int, ?_⟩
        simp
  by_cases hv : v = 0
  · refine if_t (decide_eq_true hv) ?_
    walk_at "nx"
    unfold t634_3
    walk_at "ex"
    refine hdraw (n := n + 14) ub hfu H3 (by decide) (by decide) fun v S4 v0 v1 H4 F4 => ?_
    obtain ⟨d, rfl⟩ : ∃ d : Nat, v = (d : Int) := ⟨v.toNat, by omega⟩
    have hp1 : (2 : Nat) ^ (d + 1) ≤ 2 ^ 5 := Nat.pow_le_pow_right (by decide) (by omega)
    walk_at "ex"
    refine hrow (n := n + 12) ub uRow hfu H4 (d := d) (by omega) fun ws S5 hws H5 F5 => ?_
    walk_at "ex"
    refine hseal (n := n + 12) uHou uSea hfu H5 hws (by omega) (by simp; omega) fun s S6 T6 H6 E6 hs F6 => ?_
    have hE6 := E6.2
    rw [List.length_nil] at hE6
    dsimp only
    exact rest _ _ H6 (by omega)
  · refine if_f (by rw [decide_eq_false hv]; decide) ?_
    refine ok_nil ?_
    dsimp only
    exact rest _ _ H3 (by simp)
end
def fuel : Nat := 1000
def depth : Nat := 24
theorem room : L2.Room (2 * depth) PySem.callerA := ⟨rfl, by decide, by decide⟩
theorem main : ∀ ns : List Int, ns.length ≤ 63 → (∀ z ∈ ns, PySem.Builtin.Int.intBits z ≤ 1048576) → ∃ S', run fuel P depth 22 [.rol false (ns.map D.int)] [] = .ok (.d (.bl true)) S' := fun ns h _ => by
  obtain ⟨a, S', e, rfl⟩ := Ok.eq (main_ok (fu := fuel) (n := 8) (by decide) h)
  exact ⟨S', e⟩
end K23

set_option maxRecDepth 100000
set_option maxHeartbeats 0
open PySem PySem.W PySem.Calls PyProof.Rows
theorem PySem.Challenge.cw_stepcourt_k23_opened_by_paths_holds : PySem.Challenge.rw_stepcourt_k23_opened_by_paths.Holds := by
  w_on; o_law
  refine HandSHeadRun.head_any (r := K23.R) (q := view K23.R.prog [20]) (H := PyI.hookP 5 K23.P) (ob := PyI.obP 5 K23.P) (M := 2000) (loose := K23.loose) (d := HandSHeadRun.topDef K23.R.prog 20) (kwd := []) (PyI.obP_eq 5 K23.P)
    (by kernel_rfl) (fun s => by kernel_rfl) K23.head (by kernel_rfl) (by kernel_rfl) (by kernel_rfl) (by rfl) (by first | assumption | decide +kernel) (by decide +kernel) ⟨rfl, rfl, rfl, rfl, rfl, by decide +kernel⟩ ?hw ?hc
  case hw => w_witness2
  case hc => exact PyI.law_end (l := PySem.Challenge.rw_stepcourt_k23_opened_by_paths) (P := K23.P) (i := 22) (m := 5) (fu := K23.fuel) (n := K23.depth) (F := K23.f22) (x := "_law_script") rfl (by kernel_rfl) K23.room rfl (by kernel_rfl) rfl K23.wf K23.bnd (by kernel_rfl) K23.main

