import PyProof.Rows.All
import HandS.ForMost
import HandS.Wide
import HandS.Star
import HandS.TupAny
import HandS.TupMul
import HandS.IsInst
import HandS.Zip
import HandS.Style
import PyProof.ListMulRoad
import PyProof.FactsAll.tuple_2
import KE.DataEq
import HandS.Flow
import KE.GoesMore
import KE.GoesZip
import KE.GoesEnum
import PyProof.EnumMake
import HandS.Defaults
import HandS.Words
import HandS.Conv
import HandS.Head0
import HandS.Head1
import HandS.Head2
import HandS.HeadEnd
import HandS.HeadHook1
import HandS.HeadHook2
import HandS.Ends
import HandS.More
import PySem.Challenge.RW_endsorever_k57_whole_following_on_and_on
/-! VA: a small interpreter: data, heap, terms, evaluation. Plain Lean. -/
set_option linter.all false
namespace VI

/-- data: refs are the interpreter's own addresses -/
inductive D where
  | non | bl (b : Bool) | int (i : Int) | str (s : List Nat) | tup (xs : List D) | ref (n : Nat)
deriving Inhabited

/-- what stands at an address: a list, a list that is only read, an instance of a class with its fields -/
inductive O where
  | lst (xs : List D) | frz (xs : List D) | ins (c : Nat) (fs : List (Nat × D))
deriving Inhabited

/-! ### the heap -/
inductive BT where
  | nil | node (o : Option O) (l r : BT)
def BT.get : BT → Nat → Option O
  | .nil, _ => none
  | .node o l r, n => bif n == 0 then o else bif n % 2 == 1 then l.get (n / 2) else r.get (n / 2 - 1)
def BT.put : Nat → BT → Nat → O → BT
  | 0, t, _, _ => t
  | f + 1, .nil, n, v => bif n == 0 then .node (some v) .nil .nil else bif n % 2 == 1 then .node none (put f .nil (n / 2) v) .nil else .node none .nil (put f .nil (n / 2 - 1) v)
  | f + 1, .node o l r, n, v => bif n == 0 then .node (some v) l r else bif n % 2 == 1 then .node o (put f l (n / 2) v) r else .node o l (put f r (n / 2 - 1) v)

theorem BT.get_nil (n : Nat) : BT.get .nil n = none := rfl
theorem BT.get_node (o : Option O) (l r : BT) (n : Nat) : BT.get (.node o l r) n = if n = 0 then o else if n % 2 = 1 then l.get (n / 2) else r.get (n / 2 - 1) := by
  by_cases h : n = 0
  · subst h; rfl
  · have e : (n == 0) = false := by simp [h]
    by_cases h2 : n % 2 = 1
    · simp [BT.get, e, h, h2]
    · have e2 : (n % 2 == 1) = false := by simp [h2]
      simp [BT.get, e, h, h2, e2]
theorem BT.get_put : ∀ (f : Nat) (t : BT) (n m : Nat) (v : O), n < f → BT.get (BT.put f t n v) m = if m = n then some v else BT.get t m := by
  intro f
  induction f with
  | zero => intro t n m v h; omega
  | succ f ih =>
    intro t n m v h
    cases t with
    | nil =>
      unfold BT.put
      by_cases h0 : n = 0
      · subst h0
        simp only [BEq.rfl, cond_true, BT.get_node]
        by_cases hm : m = 0
        · simp [hm]
        · simp [hm, BT.get_nil]
      · have e : (n == 0) = false := by simp [h0]
        by_cases h2 : n % 2 = 1
        · have e2 : (n % 2 == 1) = true := by simp [h2]
          simp only [e, e2, cond_true, cond_false, BT.get_node]
          rw [ih .nil (n / 2) (m / 2) v (by omega)]
          by_cases hm : m = 0
          · have : ¬ (0 = n) := fun z => h0 z.symm
            simp [hm, this, BT.get_nil]
          · by_cases hm2 : m % 2 = 1
            · by_cases e3 : m = n
              · simp [hm, hm2, e3, h0, h2]
              · have : ¬ m / 2 = n / 2 := by omega
                simp [hm, hm2, e3, this, BT.get_nil]
            · have : ¬ m = n := by intro z; subst z; exact hm2 h2
              simp [hm, hm2, this, BT.get_nil]
        · have e2 : (n % 2 == 1) = false := by simp [h2]
          simp only [e, e2, cond_false, BT.get_node]
          rw [ih .nil (n / 2 - 1) (m / 2 - 1) v (by omega)]
          by_cases hm : m = 0
          · have : ¬ (0 = n) := fun z => h0 z.symm
            simp [hm, this, BT.get_nil]
          · by_cases hm2 : m % 2 = 1
            · have : ¬ m = n := by intro z; subst z; exact h2 hm2
              simp [hm, hm2, this, BT.get_nil]
            · by_cases e3 : m = n
              · simp [hm, hm2, e3, h0, h2]
              · have : ¬ m / 2 - 1 = n / 2 - 1 := by omega
                simp [hm, hm2, e3, this, BT.get_nil]
    | node o l r =>
      unfold BT.put
      by_cases h0 : n = 0
      · subst h0
        simp only [BEq.rfl, cond_true, BT.get_node]
        by_cases hm : m = 0
        · simp [hm]
        · simp [hm]
      · have e : (n == 0) = false := by simp [h0]
        by_cases h2 : n % 2 = 1
        · have e2 : (n % 2 == 1) = true := by simp [h2]
          simp only [e, e2, cond_true, cond_false, BT.get_node]
          rw [ih l (n / 2) (m / 2) v (by omega)]
          by_cases hm : m = 0
          · have : ¬ (0 = n) := fun z => h0 z.symm
            simp [hm, this]
          · by_cases hm2 : m % 2 = 1
            · by_cases e3 : m = n
              · simp [hm, hm2, e3, h0, h2]
              · have : ¬ m / 2 = n / 2 := by omega
                simp [hm, hm2, e3, this, BT.get_nil]
            · have : ¬ m = n := by intro z; subst z; exact hm2 h2
              simp [hm, hm2, this]
        · have e2 : (n % 2 == 1) = false := by simp [h2]
          simp only [e, e2, cond_false, BT.get_node]
          rw [ih r (n / 2 - 1) (m / 2 - 1) v (by omega)]
          by_cases hm : m = 0
          · have : ¬ (0 = n) := fun z => h0 z.symm
            simp [hm, this]
          · by_cases hm2 : m % 2 = 1
            · have : ¬ m = n := by intro z; subst z; exact h2 hm2
              simp [hm, hm2, this]
            · by_cases e3 : m = n
              · simp [hm, hm2, e3, h0, h2]
              · have : ¬ m / 2 - 1 = n / 2 - 1 := by omega
                simp [hm, hm2, e3, this, BT.get_nil]

structure Hp where
  next : Nat
  t : BT
def Hp.get (h : Hp) (n : Nat) : Option O := bif Nat.blt n h.next then h.t.get n else none
/-- store at an address that is there -/
def Hp.set (h : Hp) (n : Nat) (o : O) : Hp := ⟨h.next, BT.put (n + 1) h.t n o⟩
def Hp.push (h : Hp) (o : O) : Hp := ⟨h.next + 1, BT.put (h.next + 1) h.t h.next o⟩
theorem Hp.get_eq (h : Hp) (n : Nat) : h.get n = if n < h.next then h.t.get n else none := by
  unfold Hp.get
  by_cases q : n < h.next
  · have : Nat.blt n h.next = true := by simpa [Nat.blt_eq] using q
    simp [q, this]
  · have : Nat.blt n h.next = false := by
      rw [Bool.eq_false_iff]; intro z; exact q (by simpa [Nat.blt_eq] using z)
    simp [q, this]
theorem Hp.get_set (h : Hp) (n m : Nat) (o : O) (hn : n < h.next) : (h.set n o).get m = if m = n then some o else h.get m := by
  rw [Hp.get_eq, Hp.get_eq]
  show (if m < h.next then BT.get (BT.put (n + 1) h.t n o) m else none) = _
  rw [BT.get_put _ _ _ _ _ (Nat.lt_succ_self n)]
  by_cases e : m = n
  · subst e; simp [hn]
  · simp [e]
theorem Hp.get_push (h : Hp) (m : Nat) (o : O) : (h.push o).get m = if m = h.next then some o else h.get m := by
  rw [Hp.get_eq, Hp.get_eq]
  show (if m < h.next + 1 then BT.get (BT.put (h.next + 1) h.t h.next o) m else none) = _
  rw [BT.get_put _ _ _ _ _ (Nat.lt_succ_self _)]
  by_cases e : m = h.next
  · subst e; simp
  · by_cases q : m < h.next
    · have : m < h.next + 1 := by omega
      simp [e, q, this]
    · have : ¬ m < h.next + 1 := by omega
      simp [e, q, this]
theorem Hp.lt_of_get {h : Hp} {n : Nat} {o : O} (e : h.get n = some o) : n < h.next := by
  rw [Hp.get_eq] at e
  by_cases q : n < h.next
  · exact q
  · simp [q] at e
theorem Hp.get_next (h : Hp) : h.get h.next = none := by
  rw [Hp.get_eq]; simp
theorem Hp.next_set (h : Hp) (n : Nat) (o : O) : (h.set n o).next = h.next := rfl
theorem Hp.next_push (h : Hp) (o : O) : (h.push o).next = h.next + 1 := rfl
end VI

/-! VB: terms and their evaluation. -/
set_option linter.all false
namespace VI

inductive R (α : Type) where
  | ok (a : α) (h : Hp) | exc (c : Nat) (v : D) (h : Hp) | bad
@[reducible] def R.bd {α β : Type} (r : R α) (f : α → Hp → R β) : R β := match r with
  | .ok a h => f a h
  | .exc c v h => .exc c v h
  | .bad => .bad
def ofO {α : Type} (o : Option α) (h : Hp) : R α := match o with
  | some a => .ok a h
  | none => .bad

inductive Op2 where | add | sub | mul | fdiv | mod | pow
inductive Cp where | eq | ne | lt | le | gt | ge | is | isn

inductive TG where
  | nm (i : Nat) | nil | cons (t ts : TG) | tp (n : Nat) (ts : TG)

inductive E where
  | slot (i : Nat) | cst (d : D)
  | bin (o : Op2) (a b : E) | neg (a : E) | not (a : E) | and (a b : E) | or (a b : E)
  | cmp (o : Cp) (a b : E) | chain (o p : Cp) (a b c : E) | ite (c a b : E)
  | fld (a : E) (f : Nat) | idx (a b : E) | slc (p q : Bool) (a lo hi : E) | rev (a : E) | nop
  | nil | cons (a r : E) | star (a r : E)
  | tup (r : E) | lst (r : E)
  | call (f : Nat) (r : E) | meth (m : Nat) (a r : E) | make (c : Nat) (r : E) | blt (b : Nat) (r : E) | isi (a : E) (t : Nat) | app (a b : E) | ext (a b : E)
  | iseq (a : E) | irng (r : E) | ienum (a : E) | izip (a b : E)
  | lrg (r : E)
  | comp (vs : List Nat) (it : E) (t : TG) (c e : E)

inductive S where
  | nil | seq (s r : S) | pas
  | set (i : Nat) (e : E) | par (i j : Nat) (a b : E) | setT (t : TG) (e : E) | setF (a : E) (f : Nat) (e : E) | setI (a i e : E)
  | exp (e : E) | ret (e : E) | retn | ifs (c : E) (t e : S) | whl (c : E) (b : S) | fr (t : TG) (it : E) (b : S)
  | brk | cnt | nev

abbrev Env := List (Option D)

/-! ### small parts -/
def nth {α : Type} : List α → Nat → Option α
  | [], _ => none
  | a :: r, n => match n with
    | 0 => some a
    | n + 1 => nth r n
theorem nth_eq {α : Type} : ∀ (l : List α) (n : Nat), nth l n = l[n]?
  | [], _ => by simp [nth]
  | a :: r, 0 => rfl
  | a :: r, n + 1 => by show nth r n = _; rw [nth_eq r n]; simp
def getS (σ : Env) (i : Nat) : Option D := match nth σ i with
  | some (some d) => some d
  | _ => none
/-- a place of a list of length n -/
def place (n : Nat) (i : Int) : Option Nat := match i with
  | .ofNat k => bif Nat.blt k n then some k else none
  | .negSucc k => bif Nat.blt k n then some (n - 1 - k) else none
/-- a slice's bound -/
def cutAt (n d : Nat) : Option Int → Nat
  | none => d
  | some (.ofNat k) => bif Nat.ble k n then k else n
  | some (.negSucc k) => n - 1 - k
def cutL {α : Type} (xs : List α) (lo hi : Option Int) : List α :=
  let a := cutAt xs.length 0 lo
  (xs.drop a).take (cutAt xs.length xs.length hi - a)
def seqOf (h : Hp) (n : Nat) : Option (List D) := match h.get n with
  | some (.lst xs) => some xs
  | some (.frz xs) => some xs
  | _ => none

mutual
/-- == of data without refs; none: not told -/
def deq : Nat → D → D → Option Bool
  | 0, _, _ => none
  | f + 1, x, y => match x, y with
    | .int i, .int j => some (i == j)
    | .bl a, .bl b => some (a == b)
    | .str s, .str t => some (s == t)
    | .non, .non => some true
    | .tup xs, .tup ys => deqL f xs ys
    | .non, .int _ => some false | .int _, .non => some false
    | .non, .bl _ => some false | .bl _, .non => some false
    | .non, .str _ => some false | .str _, .non => some false
    | .int _, .str _ => some false | .str _, .int _ => some false
    | .bl _, .str _ => some false | .str _, .bl _ => some false
    | _, _ => none
def deqL : Nat → List D → List D → Option Bool
  | 0, _, _ => none
  | f + 1, [], [] => some true
  | f + 1, x :: xs, y :: ys => match deq f x y, deqL f xs ys with
    | some a, some b => some (a && b)
    | _, _ => none
  | f + 1, _, _ => none
end

def line : Nat := 16777216
def truth (d : D) (h : Hp) : Option Bool := match d with
  | .non => some false
  | .bl b => some b
  | .int i => some (i != 0)
  | .str s => bif Nat.ble s.length line then some (!s.isEmpty) else none
  | .tup xs => some (!xs.isEmpty)
  | .ref n => match seqOf h n with
    | some xs => some (!xs.isEmpty)
    | none => none

def bits (i : Int) : Nat := i.natAbs.log2

def bin2 (o : Op2) (x y : D) (h : Hp) : R D := match o, x, y with
  | .add, .int i, .int j => .ok (.int (i + j)) h
  | .sub, .int i, .int j => .ok (.int (i - j)) h
  | .mul, .int i, .int j => bif Nat.blt (bits i + bits j) 1000000 then .ok (.int (i * j)) h else .bad
  | .fdiv, .int i, .int j => match j with
    | .ofNat (k + 1) => bif Nat.blt (k + 1).log2 9000 then .ok (.int (i / .ofNat (k + 1))) h else .bad
    | _ => .bad
  | .mod, .int i, .int j => match j with
    | .ofNat (k + 1) => .ok (.int (i % .ofNat (k + 1))) h
    | _ => .bad
  | .pow, .int i, .int j => match j with
    | .ofNat k => bif Nat.ble k 1000 && Nat.blt ((bits i + 1) * k) 1000000 then .ok (.int (i ^ k)) h else .bad
    | _ => .bad
  | .add, .tup xs, .tup ys => bif Nat.ble (xs.length + ys.length) line then .ok (.tup (xs ++ ys)) h else .bad
  | .add, .ref n, .ref m => match h.get n, h.get m with
    | some (.lst xs), some (.lst ys) => bif Nat.ble (xs.length + ys.length) line then .ok (.ref h.next) (h.push (.lst (xs ++ ys))) else .bad
    | _, _ => .bad
  | .mul, .ref n, .int j => match h.get n, j with
    | some (.lst xs), .ofNat k => bif Nat.ble k 1000 && Nat.ble (xs.length * k) line then .ok (.ref h.next) (h.push (.lst (List.replicate k xs).flatten)) else .bad
    | _, _ => .bad
  | .mul, .tup xs, .int j => match xs, j with
    | x :: r, .ofNat (k + 1) => bif Nat.ble (k + 1) 1000 && Nat.ble (r.length + 1) 1000 then .ok (.tup (List.replicate (k + 1) (x :: r)).flatten) h else .bad
    | _, _ => .bad
  | _, _, _ => .bad

def cmp2 (o : Cp) (x y : D) (h : Hp) : Option Bool := match o with
  | .eq => deq 64 x y
  | .ne => match deq 64 x y with
    | some b => some (!b)
    | none => none
  | .lt => match x, y with
    | .int i, .int j => some (decide (i < j))
    | _, _ => none
  | .le => match x, y with
    | .int i, .int j => some (decide (i ≤ j))
    | _, _ => none
  | .gt => match x, y with
    | .int i, .int j => some (decide (j < i))
    | _, _ => none
  | .ge => match x, y with
    | .int i, .int j => some (decide (j ≤ i))
    | _, _ => none
  | .is => match y with
    | .non => some (match x with | .non => true | _ => false)
    | _ => none
  | .isn => match y with
    | .non => some (match x with | .non => false | _ => true)
    | _ => none

def idx2 (x y : D) (h : Hp) : Option D := match y with
  | .int i => match x with
    | .tup xs => match place xs.length i with
      | some k => nth xs k
      | none => none
    | .ref n => match seqOf h n with
      | some xs => match place xs.length i with
        | some k => nth xs k
        | none => none
      | none => none
    | _ => none
  | _ => none
def part? (p : Bool) (d : D) : Option (Option Int) := match p with
  | false => some none
  | true => match d with
    | .int i => some (some i)
    | _ => none
def slc3 (x : D) (l u : Option Int) (h : Hp) : R D := match x with
  | .tup xs => .ok (.tup (cutL xs l u)) h
  | .ref n => match seqOf h n with
    | some xs => .ok (.ref h.next) (h.push (.lst (cutL xs l u)))
    | none => .bad
  | _ => .bad

/-- codes of built-ins -/
def ints? : List D → Option (List Int)
  | [] => some []
  | .int i :: r => match ints? r with
    | some l => some (i :: l)
    | none => none
  | _ :: _ => none
def bls? : List D → Option (List Bool)
  | [] => some []
  | .bl i :: r => match bls? r with
    | some l => some (i :: l)
    | none => none
  | _ :: _ => none
def allB : List Bool → Bool
  | [] => true
  | b :: r => b && allB r
def anyB : List Bool → Bool
  | [] => false
  | b :: r => b || anyB r
def sumI : List Int → Int
  | [] => 0
  | i :: r => i + sumI r
def items? (d : D) (h : Hp) : Option (List D) := match d with
  | .tup xs => some xs
  | .ref n => seqOf h n
  | _ => none
def upTo : Nat → Int → List D
  | 0, _ => []
  | n + 1, i => .int i :: upTo n (i + 1)

def blt1 (b : Nat) (xs : List D) (h : Hp) : R D := match b, xs with
  | 0, [d] => match items? d h with      -- len
    | some l => .ok (.int l.length) h
    | none => match d with
      | .str s => bif Nat.ble s.length line then .ok (.int s.length) h else .bad
      | _ => .bad
  | 1, [.int i] => .ok (.int (if i < 0 then -i else i)) h      -- abs
  | 2, [.int i] => .ok (.int i) h      -- int
  | 2, [.bl b] => .ok (.int (if b then 1 else 0)) h
  | 3, [.int i, .int j] => .ok (.int (if j > i then j else i)) h      -- max
  | 4, [.int i, .int j] => .ok (.int (if j < i then j else i)) h      -- min
  | 5, [.ref n] => match seqOf h n with      -- all
    | some l => match bls? l with
      | some bs => .ok (.bl (allB bs)) h
      | none => .bad
    | none => .bad
  | 6, [.ref n] => match seqOf h n with      -- any
    | some l => match bls? l with
      | some bs => .ok (.bl (anyB bs)) h
      | none => .bad
    | none => .bad
  | 7, [.ref n] => match seqOf h n with      -- sum
    | some l => match ints? l with
      | some is => .ok (.int (sumI is)) h
      | none => .bad
    | none => .bad
  | 8, [d] => match d with      -- tuple
    | .tup xs => .ok (.tup xs) h
    | .ref n => match seqOf h n with
      | some l => .ok (.tup l) h
      | none => .bad
    | _ => .bad
  | 9, [d] => match items? d h with      -- list
    | some l => .ok (.ref h.next) (h.push (.lst l))
    | none => .bad
  | _, _ => .bad

/-- isinstance: codes 0 int, 1 bool, 2 tuple, 3 str -/
def isi2 (d : D) (t : Nat) (h : Hp) : Option Bool := match d with
  | .int _ => some (t == 0)
  | .bl _ => some (t == 0 || t == 1)
  | .tup _ => some (t == 2)
  | .str _ => some (t == 3)
  | .non => some false
  | .ref n => match h.get n with
    | some (.lst _) => some false
    | _ => none

/-! ### what is walked -/
/-- the item at a turn: none: not told; some none: at its end -/
def atS (d : D) (i : Nat) (h : Hp) : Option (Option D) := match items? d h with
  | some xs => bif Nat.ble i xs.length then some (nth xs i) else none
  | none => none
def nxt (it : D) (i : Nat) (h : Hp) : Option (Option D) := match it with
  | .tup [.int 0, d] => atS d i h
  | .tup [.int 1, .int lo, .int (.ofNat n)] => some (bif Nat.blt i n then some (.int (lo + i)) else none)
  | .tup [.int 2, d] => match atS d i h with
    | some (some x) => some (some (.tup [.int i, x]))
    | r => r
  | .tup [.int 3, a, b] => match atS a i h, atS b i h with
    | some (some x), some (some y) => some (some (.tup [x, y]))
    | some none, some _ => some none
    | some _, some none => some none
    | _, _ => none
  | _ => none
def small (i : Int) : Bool := decide (-4611686018427387904 ≤ i) && decide (i < 4611686018427387904)
def rng? : List D → Option D
  | [.int j] => bif small j then some (.tup [.int 1, .int 0, .int (.ofNat j.toNat)]) else none
  | [.int i, .int j] => bif small i && small j then some (.tup [.int 1, .int i, .int (.ofNat (j - i).toNat)]) else none
  | _ => none

def lrg? : List D → Option (List D)
  | [.int j] => bif small j && Nat.ble j.toNat line then some (upTo j.toNat 0) else none
  | [.int i, .int j] => bif small i && small j && Nat.ble (j - i).toNat line then some (upTo (j - i).toNat i) else none
  | _ => none

/-! ### targets -/
def setS : Env → Nat → D → Env
  | [], _, _ => []
  | a :: r, n, d => match n with
    | 0 => some d :: r
    | n + 1 => a :: setS r n d
def wipeS : Env → Nat → Env
  | [], _ => []
  | a :: r, n => match n with
    | 0 => none :: r
    | n + 1 => a :: wipeS r n
def wipeL : Env → List Nat → Env
  | σ, [] => σ
  | σ, v :: vs => wipeS (wipeL σ vs) v
mutual
def asg : TG → D → Env → Option Env
  | .nm i, d, σ => some (setS σ i d)
  | .tp n ts, d, σ => match d with
    | .tup xs => bif xs.length == n then asgL ts xs σ else none
    | _ => none
  | _, _, _ => none
def asgL : TG → List D → Env → Option Env
  | .nil, [], σ => some σ
  | .cons t ts, x :: xs, σ => match asg t x σ with
    | some σ' => asgL ts xs σ'
    | none => none
  | _, _, _ => none
end

/-! ### evaluation -/
/-- what a program has: for each class what its methods' functions are, its fields; for each def how many names it has, and its body -/
structure CI where
  meths : List (Nat × Nat)
  flds : List Nat
  init : Option Nat
structure FI where
  many : Nat
  names : Nat
  body : S
structure G where
  cls : List CI
  fns : List FI
def lookN {α : Type} : List (Nat × α) → Nat → Option α
  | [], _ => none
  | (k, v) :: r, n => bif k == n then some v else lookN r n
def putN (f : Nat) (v : D) : List (Nat × D) → List (Nat × D)
  | [] => [(f, v)]
  | (g, x) :: r => bif g == f then (g, v) :: r else (g, x) :: putN f v r
def memN : Nat → List Nat → Bool
  | _, [] => false
  | n, k :: r => k == n || memN n r

/-- the turns of a comprehension -/
def compGo (it : D) (n : Nat) (turn : D → Hp → R (Option D)) : Nat → Nat → Hp → R Unit
  | 0, _, _ => .bad
  | f + 1, i, h => match nxt it i h with
    | none => .bad
    | some none => .ok () h
    | some (some x) => (turn x h).bd fun o h1 => match o with
      | none => compGo it n turn f (i + 1) h1
      | some y => match h1.get n with
        | some (.lst acc) => bif Nat.blt acc.length line then compGo it n turn f (i + 1) (h1.set n (.lst (acc ++ [y]))) else .bad
        | _ => .bad

section
variable (g : G) (cf ci : Nat → List D → Hp → R D) (lf : Nat)
mutual
def ev : E → Env → Hp → R D
  | .slot i, σ, h => ofO (getS σ i) h
  | .cst d, _, h => .ok d h
  | .bin o a b, σ, h => (ev a σ h).bd fun x h1 => (ev b σ h1).bd fun y h2 => bin2 o x y h2
  | .neg a, σ, h => (ev a σ h).bd fun x h1 => match x with
    | .int i => .ok (.int (-i)) h1
    | _ => .bad
  | .not a, σ, h => (ev a σ h).bd fun x h1 => match truth x h1 with
    | some b => .ok (.bl (!b)) h1
    | none => .bad
  | .and a b, σ, h => (ev a σ h).bd fun x h1 => match x with
    | .bl true => ev b σ h1
    | .bl false => .ok (.bl false) h1
    | _ => .bad
  | .or a b, σ, h => (ev a σ h).bd fun x h1 => match x with
    | .bl true => .ok (.bl true) h1
    | .bl false => ev b σ h1
    | _ => .bad
  | .cmp o a b, σ, h => (ev a σ h).bd fun x h1 => (ev b σ h1).bd fun y h2 => match cmp2 o x y h2 with
    | some r => .ok (.bl r) h2
    | none => .bad
  | .chain o p a b c, σ, h => (ev a σ h).bd fun x h1 => (ev b σ h1).bd fun y h2 => match cmp2 o x y h2 with
    | some true => (ev c σ h2).bd fun z h3 => match cmp2 p y z h3 with
      | some r => .ok (.bl r) h3
      | none => .bad
    | some false => .ok (.bl false) h2
    | none => .bad
  | .ite c a b, σ, h => (ev c σ h).bd fun x h1 => match truth x h1 with
    | some true => ev a σ h1
    | some false => ev b σ h1
    | none => .bad
  | .fld a f, σ, h => (ev a σ h).bd fun x h1 => match x with
    | .ref n => match h1.get n with
      | some (.ins c fs) => ofO (lookN fs f) h1
      | _ => .bad
    | _ => .bad
  | .idx a b, σ, h => (ev a σ h).bd fun x h1 => (ev b σ h1).bd fun y h2 => ofO (idx2 x y h2) h2
  | .slc p q a lo hi, σ, h => (ev a σ h).bd fun x h1 => (ev lo σ h1).bd fun l h2 => match part? p l with
    | some l => (ev hi σ h2).bd fun u h3 => match part? q u with
      | some u => slc3 x l u h3
      | none => .bad
    | none => .bad
  | .rev a, σ, h => (ev a σ h).bd fun x h1 => match x with
    | .tup xs => .ok (.tup xs.reverse) h1
    | .ref n => match seqOf h1 n with
      | some xs => .ok (.ref h1.next) (h1.push (.lst xs.reverse))
      | none => .bad
    | _ => .bad
  | .nop, _, h => .ok .non h
  | .nil, _, h => .ok (.tup []) h
  | .cons a r, σ, h => (ev a σ h).bd fun x h1 => (ev r σ h1).bd fun y h2 => match y with
    | .tup xs => .ok (.tup (x :: xs)) h2
    | _ => .bad
  | .star a r, σ, h => (ev a σ h).bd fun x h1 => match items? x h1 with
    | some xs => (ev r σ h1).bd fun y h2 => match y with
      | .tup ys => .ok (.tup (xs ++ ys)) h2
      | _ => .bad
    | none => .bad
  | .tup r, σ, h => (ev r σ h).bd fun x h1 => match x with
    | .tup xs => bif Nat.ble xs.length line then .ok (.tup xs) h1 else .bad
    | _ => .bad
  | .lst r, σ, h => (ev r σ h).bd fun x h1 => match x with
    | .tup xs => bif Nat.ble xs.length line then .ok (.ref h1.next) (h1.push (.lst xs)) else .bad
    | _ => .bad
  | .call f r, σ, h => (ev r σ h).bd fun x h1 => match x with
    | .tup xs => cf f xs h1
    | _ => .bad
  | .meth m a r, σ, h => (ev a σ h).bd fun x h1 => match x with
    | .ref n => match h1.get n with
      | some (.ins c _) => match nth g.cls c with
        | some k => match lookN k.meths m with
          | some f => (ev r σ h1).bd fun y h2 => match y with
            | .tup ys => cf f (.ref n :: ys) h2
            | _ => .bad
          | none => .bad
        | none => .bad
      | _ => .bad
    | _ => .bad
  | .make c r, σ, h => (ev r σ h).bd fun x h1 => match x with
    | .tup xs => match nth g.cls c with
      | some k => match k.init with
        | some f => (ci f (.ref h1.next :: xs) (h1.push (.ins c []))).bd fun v h2 => match v with
          | .non => .ok (.ref h1.next) h2
          | _ => .bad
        | none => .bad
      | none => .bad
    | _ => .bad
  | .blt b r, σ, h => (ev r σ h).bd fun x h1 => match x with
    | .tup xs => blt1 b xs h1
    | _ => .bad
  | .isi a t, σ, h => (ev a σ h).bd fun x h1 => match isi2 x t h1 with
    | some b => .ok (.bl b) h1
    | none => .bad
  | .app a b, σ, h => (ev a σ h).bd fun x h1 => match x with
    | .ref n => match h1.get n with
      | some (.lst _) => (ev b σ h1).bd fun y h2 => match h2.get n with
        | some (.lst xs) => bif Nat.blt xs.length line then .ok .non (h2.set n (.lst (xs ++ [y]))) else .bad
        | _ => .bad
      | _ => .bad
    | _ => .bad
  | .ext a b, σ, h => (ev a σ h).bd fun x h1 => match x with
    | .ref n => match h1.get n with
      | some (.lst _) => (ev b σ h1).bd fun y h2 => match y with
        | .ref m => match h2.get n, h2.get m with
          | some (.lst xs), some (.lst ys) => bif Nat.ble (xs.length + ys.length) line then .ok .non (h2.set n (.lst (xs ++ ys))) else .bad
          | _, _ => .bad
        | _ => .bad
      | _ => .bad
    | _ => .bad
  | .iseq a, σ, h => (ev a σ h).bd fun x h1 => match atS x 0 h1 with
    | some _ => .ok (.tup [.int 0, x]) h1
    | none => .bad
  | .irng r, σ, h => (ev r σ h).bd fun x h1 => match x with
    | .tup xs => ofO (rng? xs) h1
    | _ => .bad
  | .lrg r, σ, h => (ev r σ h).bd fun x h1 => match x with
    | .tup xs => match lrg? xs with
      | some l => .ok (.ref h1.next) (h1.push (.lst l))
      | none => .bad
    | _ => .bad
  | .ienum a, σ, h => (ev a σ h).bd fun x h1 => match atS x 0 h1 with
    | some _ => .ok (.tup [.int 2, x]) h1
    | none => .bad
  | .izip a b, σ, h => (ev a σ h).bd fun x h1 => (ev b σ h1).bd fun y h2 => match atS x 0 h2, atS y 0 h2 with
    | some _, some _ => .ok (.tup [.int 3, x, y]) h2
    | _, _ => .bad
  | .comp vs it t c e, σ, h => (ev it σ h).bd fun i h1 =>
    (compGo i h1.next (fun x h2 => match asg t x (wipeL σ vs) with
      | none => .bad
      | some σ' => (ev c σ' h2).bd fun b h3 => match b with
        | .bl true => (ev e σ' h3).bd fun y h4 => .ok (some y) h4
        | .bl false => .ok none h3
        | _ => .bad) lf 0 (h1.push (.lst []))).bd fun _ h2 => .ok (.ref h1.next) h2
end

inductive Fl where
  | nx (σ : Env) | rt (d : D) | bk (σ : Env) | ct (σ : Env)

def whlGo (c : Env → Hp → R D) (b : Env → Hp → R Fl) : Nat → Env → Hp → R Fl
  | 0, _, _ => .bad
  | f + 1, σ, h => (c σ h).bd fun x h1 => match truth x h1 with
    | some true => (b σ h1).bd fun r h2 => match r with
      | .nx σ' => whlGo c b f σ' h2
      | .ct σ' => whlGo c b f σ' h2
      | .bk σ' => .ok (.nx σ') h2
      | .rt d => .ok (.rt d) h2
    | some false => .ok (.nx σ) h1
    | none => .bad
def forGo (it : D) (t : TG) (b : Env → Hp → R Fl) : Nat → Nat → Env → Hp → R Fl
  | 0, _, _, _ => .bad
  | f + 1, i, σ, h => match nxt it i h with
    | none => .bad
    | some none => .ok (.nx σ) h
    | some (some x) => match asg t x σ with
      | none => .bad
      | some σ1 => (b σ1 h).bd fun r h2 => match r with
        | .nx σ' => forGo it t b f (i + 1) σ' h2
        | .ct σ' => forGo it t b f (i + 1) σ' h2
        | .bk σ' => .ok (.nx σ') h2
        | .rt d => .ok (.rt d) h2

def ex : S → Env → Hp → R Fl
  | .nil, σ, h => .ok (.nx σ) h
  | .seq s r, σ, h => (ex s σ h).bd fun f h1 => match f with
    | .nx σ' => ex r σ' h1
    | f => .ok f h1
  | .pas, σ, h => .ok (.nx σ) h
  | .set i e, σ, h => (ev g cf ci lf e σ h).bd fun x h1 => .ok (.nx (setS σ i x)) h1
  | .par i j a b, σ, h => (ev g cf ci lf a σ h).bd fun x h1 => (ev g cf ci lf b σ h1).bd fun y h2 => .ok (.nx (setS (setS σ i x) j y)) h2
  | .setT t e, σ, h => (ev g cf ci lf e σ h).bd fun x h1 => match asg t x σ with
    | some σ' => .ok (.nx σ') h1
    | none => .bad
  | .setF a f e, σ, h => (ev g cf ci lf e σ h).bd fun y h1 => (ev g cf ci lf a σ h1).bd fun x h2 => match x with
    | .ref n => match h2.get n with
      | some (.ins c fs) => match nth g.cls c with
        | some k => bif memN f k.flds && Nat.blt fs.length 1000 then .ok (.nx σ) (h2.set n (.ins c (putN f y fs))) else .bad
        | none => .bad
      | _ => .bad
    | _ => .bad
  | .setI a i e, σ, h => (ev g cf ci lf e σ h).bd fun y h1 => (ev g cf ci lf a σ h1).bd fun x h2 => (ev g cf ci lf i σ h2).bd fun j h3 => match x, j with
    | .ref n, .int k => match h3.get n with
      | some (.lst xs) => match place xs.length k with
        | some p => .ok (.nx σ) (h3.set n (.lst (xs.set p y)))
        | none => .bad
      | _ => .bad
    | _, _ => .bad
  | .exp e, σ, h => (ev g cf ci lf e σ h).bd fun _ h1 => .ok (.nx σ) h1
  | .ret e, σ, h => (ev g cf ci lf e σ h).bd fun x h1 => .ok (.rt x) h1
  | .retn, _, h => .ok (.rt .non) h
  | .ifs c t e, σ, h => (ev g cf ci lf c σ h).bd fun x h1 => match truth x h1 with
    | some true => ex t σ h1
    | some false => ex e σ h1
    | none => .bad
  | .whl c b, σ, h => whlGo (ev g cf ci lf c) (ex b) lf σ h
  | .fr t it b, σ, h => (ev g cf ci lf it σ h).bd fun i h1 => forGo i t (ex b) lf 0 σ h1
  | .brk, σ, h => .ok (.bk σ) h
  | .cnt, σ, h => .ok (.ct σ) h
  | .nev, _, _ => .bad
end

/-- a def's names at its begin -/
def begin (ds : List D) (names : Nat) : Env := ds.map some ++ List.replicate (names - ds.length) none
def stepR (g : G) (lf : Nat) (cf ci : Nat → List D → Hp → R D) (f : Nat) (ds : List D) (h : Hp) : R D := match nth g.fns f with
  | none => .bad
  | some i => bif ds.length == i.many then (ex g cf ci lf i.body (begin ds i.names) h).bd fun r h1 => match r with
      | .nx _ => .ok .non h1
      | .rt d => .ok d h1
      | _ => .bad
    else .bad
/-- a def called: k calls deep at most; beside it, one call less -/
def runP (g : G) (lf : Nat) : Nat → (Nat → List D → Hp → R D) × (Nat → List D → Hp → R D)
  | 0 => (fun _ _ _ => .bad, fun _ _ _ => .bad)
  | k + 1 => (stepR g lf (runP g lf k).1 (runP g lf k).2, (runP g lf k).1)
def run (g : G) (lf k : Nat) : Nat → List D → Hp → R D := (runP g lf k).1
def runAt (g : G) (lf k : Nat) : Nat → List D → Hp → R D := (runP g lf k).2
end VI

set_option linter.all false
namespace L57
open VI
/-- is_integer -/
def b0 : VI.S := .seq (.ret (.and (.isi (.slot 0) 0) (.not (.isi (.slot 0) 1)))) .nil
/-- is_between -/
def b1 : VI.S := .seq (.ret (.and (.call 0 (.cons (.slot 0) .nil)) (.chain .le .le (.slot 1) (.slot 0) (.slot 2)))) .nil
/-- common -/
def b2 : VI.S := .seq (.whl (.cmp .ne (.slot 1) (.cst (.int 0))) (.seq (.par 0 1 (.slot 1) (.bin .mod (.slot 0) (.slot 1))) .nil)) (.seq (.ret (.blt 1 (.cons (.slot 0) .nil))) .nil)
/-- reduced -/
def b3 : VI.S := .seq (.set 2 (.ite (.cmp .gt (.slot 1) (.cst (.int 0))) (.call 2 (.cons (.slot 0) (.cons (.slot 1) .nil))) (.bin .sub (.cst (.int 0)) (.call 2 (.cons (.slot 0) (.cons (.slot 1) .nil)))))) (.seq (.ret (.tup (.cons (.bin .fdiv (.slot 0) (.slot 2)) (.cons (.bin .fdiv (.slot 1) (.slot 2)) .nil)))) .nil)
/-- added -/
def b4 : VI.S := .seq (.ret (.call 3 (.cons (.bin .add (.bin .mul (.idx (.slot 0) (.cst (.int 0))) (.idx (.slot 1) (.cst (.int 1)))) (.bin .mul (.idx (.slot 1) (.cst (.int 0))) (.idx (.slot 0) (.cst (.int 1))))) (.cons (.bin .mul (.idx (.slot 0) (.cst (.int 1))) (.idx (.slot 1) (.cst (.int 1)))) .nil)))) .nil
/-- difference -/
def b5 : VI.S := .seq (.ret (.call 3 (.cons (.bin .sub (.bin .mul (.idx (.slot 0) (.cst (.int 0))) (.idx (.slot 1) (.cst (.int 1)))) (.bin .mul (.idx (.slot 1) (.cst (.int 0))) (.idx (.slot 0) (.cst (.int 1))))) (.cons (.bin .mul (.idx (.slot 0) (.cst (.int 1))) (.idx (.slot 1) (.cst (.int 1)))) .nil)))) .nil
/-- product -/
def b6 : VI.S := .seq (.ret (.call 3 (.cons (.bin .mul (.idx (.slot 0) (.cst (.int 0))) (.idx (.slot 1) (.cst (.int 0)))) (.cons (.bin .mul (.idx (.slot 0) (.cst (.int 1))) (.idx (.slot 1) (.cst (.int 1)))) .nil)))) .nil
/-- quotient -/
def b7 : VI.S := .seq (.ret (.call 3 (.cons (.bin .mul (.idx (.slot 0) (.cst (.int 0))) (.idx (.slot 1) (.cst (.int 1)))) (.cons (.bin .mul (.idx (.slot 0) (.cst (.int 1))) (.idx (.slot 1) (.cst (.int 0)))) .nil)))) .nil
/-- less -/
def b8 : VI.S := .seq (.ret (.cmp .lt (.bin .mul (.idx (.slot 0) (.cst (.int 0))) (.idx (.slot 1) (.cst (.int 1)))) (.bin .mul (.idx (.slot 1) (.cst (.int 0))) (.idx (.slot 0) (.cst (.int 1)))))) .nil
/-- Tableau.__init__ -/
def b9 : VI.S := .seq (.setF (.slot 0) 1 (.blt 0 (.cons (.slot 1) .nil))) (.seq (.setF (.slot 0) 2 (.blt 0 (.cons (.slot 2) .nil))) (.seq (.setF (.slot 0) 8 (.comp [3] (.iseq (.slot 2)) (.nm 3) (.cst (.bl true)) (.ite (.cmp .ge (.slot 3) (.cst (.int 0))) (.cst (.int 1)) (.neg (.cst (.int 1)))))) (.seq (.setF (.slot 0) 7 (.comp [4] (.irng (.cons (.fld (.slot 0) 2) .nil)) (.nm 4) (.cst (.bl true)) (.meth 6 (.slot 0) (.cons (.slot 1) (.cons (.slot 2) (.cons (.slot 4) .nil)))))) (.seq (.setF (.slot 0) 5 (.comp [4] (.irng (.cons (.fld (.slot 0) 2) .nil)) (.nm 4) (.cst (.bl true)) (.bin .add (.fld (.slot 0) 1) (.slot 4)))) (.seq (.setF (.slot 0) 4 (.comp [5] (.irng (.cons (.bin .add (.bin .add (.fld (.slot 0) 1) (.fld (.slot 0) 2)) (.cst (.int 1))) .nil)) (.nm 5) (.cst (.bl true)) (.meth 3 (.slot 0) (.cons (.slot 5) .nil)))) (.seq (.exp (.meth 0 (.slot 0) .nil)) .nil))))))
/-- Tableau.first_row -/
def b10 : VI.S := .seq (.set 4 (.idx (.fld (.slot 0) 8) (.slot 3))) (.seq (.set 5 (.comp [6] (.iseq (.slot 1)) (.nm 6) (.cst (.bl true)) (.tup (.cons (.bin .mul (.slot 4) (.idx (.slot 6) (.slot 3))) (.cons (.cst (.int 1)) .nil))))) (.seq (.exp (.ext (.slot 5) (.comp [7] (.irng (.cons (.blt 0 (.cons (.slot 2) .nil)) .nil)) (.nm 7) (.cst (.bl true)) (.tup (.cons (.blt 2 (.cons (.cmp .eq (.slot 7) (.slot 3)) .nil)) (.cons (.cst (.int 1)) .nil)))))) (.seq (.ret (.lst (.star (.slot 5) (.cons (.tup (.cons (.bin .mul (.slot 4) (.idx (.slot 2) (.slot 3))) (.cons (.cst (.int 1)) .nil))) .nil)))) .nil)))
/-- Tableau.first_cost -/
def b11 : VI.S := .seq (.ifs (.chain .le .lt (.fld (.slot 0) 1) (.slot 1) (.bin .add (.fld (.slot 0) 1) (.fld (.slot 0) 2))) (.seq (.ret (.cst (.tup [.int 0, .int 1]))) .nil) .nil) (.seq (.set 2 (.cst (.tup [.int 0, .int 1]))) (.seq (.fr (.nm 3) (.iseq (.fld (.slot 0) 7)) (.seq (.set 2 (.call 5 (.cons (.slot 2) (.cons (.idx (.slot 3) (.slot 1)) .nil)))) .nil)) (.seq (.ret (.slot 2)) .nil)))
/-- Tableau.solve -/
def b12 : VI.S := .seq (.set 1 (.meth 9 (.slot 0) .nil)) (.seq (.whl (.cmp .isn (.slot 1) (.cst (.non))) (.seq (.exp (.meth 10 (.slot 0) (.cons (.meth 11 (.slot 0) (.cons (.slot 1) .nil)) (.cons (.slot 1) .nil)))) (.seq (.set 1 (.meth 9 (.slot 0) .nil)) .nil))) .nil)
/-- Tableau.entering -/
def b13 : VI.S := .seq (.fr (.nm 1) (.irng (.cons (.fld (.slot 0) 1) .nil)) (.seq (.ifs (.cmp .lt (.idx (.idx (.fld (.slot 0) 4) (.slot 1)) (.cst (.int 0))) (.cst (.int 0))) (.seq (.ret (.slot 1)) .nil) .nil) .nil)) (.seq (.ret (.cst (.non))) .nil)
/-- Tableau.leaving -/
def b14 : VI.S := .seq (.set 2 (.cst (.non))) (.seq (.fr (.tp 2 (.cons (.nm 3) (.cons (.nm 4) .nil))) (.ienum (.fld (.slot 0) 7)) (.seq (.ifs (.cmp .gt (.idx (.idx (.slot 4) (.slot 1)) (.cst (.int 0))) (.cst (.int 0))) (.seq (.set 5 (.tup (.cons (.call 7 (.cons (.idx (.slot 4) (.neg (.cst (.int 1)))) (.cons (.idx (.slot 4) (.slot 1)) .nil))) (.cons (.idx (.fld (.slot 0) 5) (.slot 3)) (.cons (.slot 3) .nil))))) (.seq (.ifs (.or (.cmp .is (.slot 2) (.cst (.non))) (.or (.call 8 (.cons (.idx (.slot 5) (.cst (.int 0))) (.cons (.idx (.slot 2) (.cst (.int 0))) .nil))) (.and (.cmp .eq (.idx (.slot 5) (.cst (.int 0))) (.idx (.slot 2) (.cst (.int 0)))) (.cmp .lt (.idx (.slot 5) (.cst (.int 1))) (.idx (.slot 2) (.cst (.int 1))))))) (.seq (.set 2 (.slot 5)) .nil) .nil) .nil)) .nil) .nil)) (.seq (.ret (.idx (.slot 2) (.cst (.int 2)))) .nil))
/-- Tableau.turn -/
def b15 : VI.S := .seq (.set 3 (.idx (.idx (.fld (.slot 0) 7) (.slot 1)) (.slot 2))) (.seq (.setI (.fld (.slot 0) 7) (.slot 1) (.comp [5] (.iseq (.idx (.fld (.slot 0) 7) (.slot 1))) (.nm 5) (.cst (.bl true)) (.ite (.cmp .ne (.idx (.slot 5) (.cst (.int 0))) (.cst (.int 0))) (.call 7 (.cons (.slot 5) (.cons (.slot 3) .nil))) (.slot 5)))) (.seq (.fr (.nm 4) (.irng (.cons (.fld (.slot 0) 2) .nil)) (.seq (.ifs (.cmp .ne (.slot 4) (.slot 1)) (.seq (.setI (.fld (.slot 0) 7) (.slot 4) (.call 19 (.cons (.idx (.fld (.slot 0) 7) (.slot 4)) (.cons (.idx (.fld (.slot 0) 7) (.slot 1)) (.cons (.slot 2) .nil))))) .nil) .nil) .nil)) (.seq (.setF (.slot 0) 4 (.call 19 (.cons (.fld (.slot 0) 4) (.cons (.idx (.fld (.slot 0) 7) (.slot 1)) (.cons (.slot 2) .nil))))) (.seq (.setI (.fld (.slot 0) 5) (.slot 1) (.slot 2)) .nil))))
/-- Tableau.is_solved -/
def b16 : VI.S := .seq (.ret (.cmp .eq (.idx (.idx (.fld (.slot 0) 4) (.neg (.cst (.int 1)))) (.cst (.int 0))) (.cst (.int 0)))) .nil
/-- Tableau.parts -/
def b17 : VI.S := .seq (.set 1 (.bin .mul (.lst (.cons (.cst (.tup [.int 0, .int 1])) .nil)) (.fld (.slot 0) 1))) (.seq (.fr (.tp 2 (.cons (.nm 2) (.cons (.nm 3) .nil))) (.ienum (.fld (.slot 0) 5)) (.seq (.ifs (.cmp .lt (.slot 3) (.fld (.slot 0) 1)) (.seq (.setI (.slot 1) (.slot 3) (.idx (.idx (.fld (.slot 0) 7) (.slot 2)) (.neg (.cst (.int 1))))) .nil) .nil) .nil)) (.seq (.ret (.slot 1)) .nil))
/-- Tableau.prices -/
def b18 : VI.S := .seq (.set 1 (.lst .nil)) (.seq (.fr (.tp 2 (.cons (.nm 2) (.cons (.nm 3) .nil))) (.ienum (.fld (.slot 0) 8)) (.seq (.set 4 (.call 5 (.cons (.cst (.tup [.int 1, .int 1])) (.cons (.idx (.fld (.slot 0) 4) (.bin .add (.fld (.slot 0) 1) (.slot 2))) .nil)))) (.seq (.exp (.app (.slot 1) (.call 6 (.cons (.tup (.cons (.slot 3) (.cons (.cst (.int 1)) .nil))) (.cons (.slot 4) .nil))))) .nil))) (.seq (.ret (.slot 1)) .nil))
/-- less_by -/
def b19 : VI.S := .seq (.set 3 (.idx (.slot 0) (.slot 2))) (.seq (.ifs (.cmp .eq (.idx (.slot 3) (.cst (.int 0))) (.cst (.int 0))) (.seq (.ret (.slot 0)) .nil) .nil) (.seq (.ret (.comp [4, 5] (.izip (.slot 0) (.slot 1)) (.tp 2 (.cons (.nm 4) (.cons (.nm 5) .nil))) (.cst (.bl true)) (.ite (.cmp .ne (.idx (.slot 5) (.cst (.int 0))) (.cst (.int 0))) (.call 5 (.cons (.slot 4) (.cons (.call 6 (.cons (.slot 3) (.cons (.slot 5) .nil))) .nil))) (.slot 4)))) .nil))
/-- parts_for -/
def b20 : VI.S := .seq (.set 2 (.make 0 (.cons (.slot 0) (.cons (.slot 1) .nil)))) (.seq (.ret (.ite (.meth 12 (.slot 2) .nil) (.tup (.cons (.cst (.str [112, 97, 114, 116, 115])) (.cons (.meth 13 (.slot 2) .nil) .nil))) (.tup (.cons (.cst (.str [112, 114, 105, 99, 101, 115])) (.cons (.meth 14 (.slot 2) .nil) .nil))))) .nil)
/-- is_row -/
def b21 : VI.S := .seq (.ifs (.or (.not (.isi (.slot 1) 2)) (.or (.cmp .ne (.blt 0 (.cons (.slot 1) .nil)) (.cst (.int 2))) (.or (.not (.call 0 (.cons (.idx (.slot 1) (.cst (.int 0))) .nil))) (.not (.isi (.idx (.slot 1) (.cst (.int 1))) 2))))) (.seq (.ret (.cst (.bl false))) .nil) .nil) (.seq (.ret (.and (.cmp .eq (.blt 0 (.cons (.idx (.slot 1) (.cst (.int 1))) .nil)) (.slot 0)) (.blt 5 (.cons (.comp [2] (.iseq (.idx (.slot 1) (.cst (.int 1)))) (.nm 2) (.cst (.bl true)) (.call 0 (.cons (.slot 2) .nil))) .nil)))) .nil)
/-- check_rows -/
def b22 : VI.S := .seq (.ifs (.or (.not (.call 1 (.cons (.slot 0) (.cons (.cst (.int 0)) (.cons (.cst (.int 24)) .nil))))) (.or (.not (.isi (.slot 1) 2)) (.cmp .gt (.blt 0 (.cons (.slot 1) .nil)) (.cst (.int 60))))) (.seq .nev .nil) .nil) (.seq (.ifs (.not (.blt 5 (.cons (.comp [2] (.iseq (.slot 1)) (.nm 2) (.cst (.bl true)) (.call 21 (.cons (.slot 0) (.cons (.slot 2) .nil)))) .nil))) (.seq .nev .nil) .nil) .nil)
/-- check_following -/
def b23 : VI.S := .seq (.exp (.call 22 (.cons (.slot 0) (.cons (.slot 1) .nil)))) (.seq (.ifs (.not (.call 21 (.cons (.slot 0) (.cons (.slot 2) .nil)))) (.seq .nev .nil) .nil) .nil)
/-- whole -/
def b24 : VI.S := .seq (.set 1 (.cst (.int 1))) (.seq (.fr (.tp 2 (.cons (.nm 2) (.cons (.nm 3) .nil))) (.iseq (.slot 0)) (.seq (.set 1 (.bin .fdiv (.bin .mul (.slot 1) (.slot 3)) (.call 2 (.cons (.slot 1) (.cons (.slot 3) .nil))))) .nil)) (.seq (.ret (.tup (.cons (.slot 1) (.cons (.blt 8 (.cons (.comp [2, 3] (.iseq (.slot 0)) (.tp 2 (.cons (.nm 2) (.cons (.nm 3) .nil))) (.cst (.bl true)) (.bin .fdiv (.bin .mul (.slot 2) (.slot 1)) (.slot 3))) .nil)) .nil)))) .nil))
/-- column_of -/
def b25 : VI.S := .seq (.ret (.lst (.star (.idx (.slot 0) (.cst (.int 1))) (.cons (.idx (.slot 0) (.cst (.int 0))) .nil)))) .nil
/-- rest_column -/
def b26 : VI.S := .seq (.ret (.bin .add (.bin .mul (.lst (.cons (.cst (.int 0)) .nil)) (.slot 0)) (.lst (.cons (.cst (.int 1)) .nil)))) .nil
/-- value_at -/
def b27 : VI.S := .seq (.set 2 (.tup (.cons (.idx (.slot 0) (.cst (.int 0))) (.cons (.cst (.int 1)) .nil)))) (.seq (.fr (.tp 2 (.cons (.nm 3) (.cons (.nm 4) .nil))) (.izip (.idx (.slot 0) (.cst (.int 1))) (.slot 1)) (.seq (.set 2 (.call 4 (.cons (.slot 2) (.cons (.call 6 (.cons (.tup (.cons (.slot 3) (.cons (.cst (.int 1)) .nil))) (.cons (.slot 4) .nil))) .nil)))) .nil)) (.seq (.ret (.slot 2)) .nil))
/-- turned_prices -/
def b28 : VI.S := .seq (.set 1 (.comp [2] (.iseq (.slot 0)) (.nm 2) (.cst (.bl true)) (.call 5 (.cons (.cst (.tup [.int 0, .int 1])) (.cons (.slot 2) .nil))))) (.seq (.ret (.tup (.cons (.slc false true (.slot 1) .nop (.neg (.cst (.int 1)))) (.cons (.idx (.slot 1) (.neg (.cst (.int 1)))) .nil)))) .nil)
/-- spot_of -/
def b29 : VI.S := .seq (.setT (.tp 2 (.cons (.nm 1) (.cons (.nm 2) .nil))) (.call 28 (.cons (.slot 0) .nil))) (.seq (.ret (.comp [3] (.iseq (.slot 1)) (.nm 3) (.cst (.bl true)) (.call 7 (.cons (.slot 3) (.cons (.slot 2) .nil))))) .nil)
/-- some_spot -/
def b30 : VI.S := .seq (.set 2 (.bin .add (.comp [5] (.iseq (.slot 1)) (.nm 5) (.cst (.bl true)) (.call 25 (.cons (.slot 5) .nil))) (.lst (.cons (.call 26 (.cons (.slot 0) .nil)) .nil)))) (.seq (.setT (.tp 2 (.cons (.nm 3) (.cons (.nm 4) .nil))) (.call 20 (.cons (.slot 2) (.cons (.bin .add (.bin .mul (.lst (.cons (.cst (.int 0)) .nil)) (.slot 0)) (.lst (.cons (.neg (.cst (.int 1))) .nil))) .nil)))) (.seq (.ret (.ite (.cmp .eq (.slot 3) (.cst (.str [112, 97, 114, 116, 115]))) (.tup (.cons (.slc false true (.slot 4) .nop (.neg (.cst (.int 1)))) (.cons (.cst (.non)) .nil))) (.tup (.cons (.cst (.non)) (.cons (.call 29 (.cons (.slot 4) .nil)) .nil))))) .nil))
/-- spot_along -/
def b31 : VI.S := .seq (.set 3 (.call 5 (.cons (.cst (.tup [.int 0, .int 1])) (.cons (.call 27 (.cons (.tup (.cons (.cst (.int 0)) (.cons (.idx (.slot 2) (.cst (.int 1))) .nil))) (.cons (.slot 1) .nil))) .nil)))) (.seq (.set 4 (.call 27 (.cons (.slot 2) (.cons (.slot 0) .nil)))) (.seq (.ifs (.call 8 (.cons (.slot 4) (.cons (.cst (.tup [.int 0, .int 1])) .nil))) (.seq (.ret (.slot 0)) .nil) .nil) (.seq (.set 5 (.call 7 (.cons (.call 4 (.cons (.slot 4) (.cons (.tup (.cons (.cst (.int 1)) (.cons (.cst (.int 1)) .nil))) .nil))) (.cons (.slot 3) .nil)))) (.seq (.ret (.comp [6, 7] (.izip (.slot 0) (.slot 1)) (.tp 2 (.cons (.nm 6) (.cons (.nm 7) .nil))) (.cst (.bl true)) (.call 4 (.cons (.slot 6) (.cons (.call 6 (.cons (.slot 5) (.cons (.slot 7) .nil))) .nil))))) .nil))))
/-- quick_times -/
def b32 : VI.S := .seq (.ifs (.and (.blt 5 (.cons (.comp [4] (.iseq (.idx (.slot 1) (.cst (.int 1)))) (.nm 4) (.cst (.bl true)) (.cmp .eq (.slot 4) (.cst (.int 0)))) .nil)) (.cmp .ge (.idx (.slot 1) (.cst (.int 0))) (.cst (.int 0)))) (.seq (.ret (.tup (.cons (.cst (.int 1)) (.cons (.bin .mul (.tup (.cons (.cst (.int 0)) .nil)) (.blt 0 (.cons (.slot 0) .nil))) .nil)))) .nil) .nil) (.seq (.fr (.tp 2 (.cons (.nm 2) (.cons (.nm 3) .nil))) (.ienum (.slot 0)) (.seq (.ifs (.and (.cmp .eq (.idx (.slot 3) (.cst (.int 1))) (.idx (.slot 1) (.cst (.int 1)))) (.cmp .le (.idx (.slot 3) (.cst (.int 0))) (.idx (.slot 1) (.cst (.int 0))))) (.seq (.ret (.tup (.cons (.cst (.int 1)) (.cons (.blt 8 (.cons (.comp [5] (.irng (.cons (.blt 0 (.cons (.slot 0) .nil)) .nil)) (.nm 5) (.cst (.bl true)) (.blt 2 (.cons (.cmp .eq (.slot 5) (.slot 2)) .nil))) .nil)) .nil)))) .nil) .nil) .nil)) (.seq (.ret (.cst (.non))) .nil))
/-- told_following -/
def b33 : VI.S := .seq (.set 3 (.call 32 (.cons (.slot 1) (.cons (.slot 2) .nil)))) (.seq (.ifs (.cmp .isn (.slot 3) (.cst (.non))) (.seq (.ret (.tup (.cons (.cst (.str [116, 105, 109, 101, 115])) (.star (.slot 3) .nil)))) .nil) .nil) (.seq (.set 4 (.bin .add (.comp [11] (.iseq (.slot 1)) (.nm 11) (.cst (.bl true)) (.call 25 (.cons (.slot 11) .nil))) (.lst (.cons (.call 26 (.cons (.slot 0) .nil)) .nil)))) (.seq (.setT (.tp 2 (.cons (.nm 5) (.cons (.nm 6) .nil))) (.call 20 (.cons (.slot 4) (.cons (.call 25 (.cons (.slot 2) .nil)) .nil)))) (.seq (.ifs (.cmp .eq (.slot 5) (.cst (.str [112, 97, 114, 116, 115]))) (.seq (.ret (.tup (.cons (.cst (.str [116, 105, 109, 101, 115])) (.star (.call 24 (.cons (.slc false true (.slot 6) .nop (.neg (.cst (.int 1)))) .nil)) .nil)))) .nil) .nil) (.seq (.setT (.tp 2 (.cons (.nm 7) (.cons (.nm 8) .nil))) (.call 30 (.cons (.slot 0) (.cons (.slot 1) .nil)))) (.seq (.ifs (.cmp .isn (.slot 7) (.cst (.non))) (.seq (.ret (.tup (.cons (.cst (.str [110, 101, 118, 101, 114])) (.cons (.idx (.call 24 (.cons (.slot 7) .nil)) (.cst (.int 1))) .nil)))) .nil) .nil) (.seq (.setT (.tp 2 (.cons (.nm 9) (.cons (.nm 10) .nil))) (.call 28 (.cons (.slot 6) .nil))) (.seq (.ifs (.call 8 (.cons (.cst (.tup [.int 0, .int 1])) (.cons (.slot 10) .nil))) (.seq (.ret (.tup (.cons (.cst (.str [115, 112, 111, 116])) (.cons (.blt 8 (.cons (.comp [11] (.iseq (.slot 9)) (.nm 11) (.cst (.bl true)) (.call 7 (.cons (.slot 11) (.cons (.slot 10) .nil)))) .nil)) .nil)))) .nil) .nil) (.seq (.ret (.tup (.cons (.cst (.str [115, 112, 111, 116])) (.cons (.blt 8 (.cons (.call 31 (.cons (.slot 8) (.cons (.slot 9) (.cons (.slot 2) .nil)))) .nil)) .nil)))) .nil)))))))))
/-- follows -/
def b34 : VI.S := .seq (.exp (.call 23 (.cons (.slot 0) (.cons (.slot 1) (.cons (.slot 2) .nil))))) (.seq (.ret (.call 33 (.cons (.slot 0) (.cons (.slot 1) (.cons (.slot 2) .nil))))) .nil)
/-- holds_somewhere -/
def b35 : VI.S := .seq (.exp (.call 22 (.cons (.slot 0) (.cons (.slot 1) .nil)))) (.seq (.setT (.tp 2 (.cons (.nm 2) (.cons (.nm 3) .nil))) (.call 30 (.cons (.slot 0) (.cons (.slot 1) .nil)))) (.seq (.ret (.ite (.cmp .is (.slot 3) (.cst (.non))) (.cst (.non)) (.blt 8 (.cons (.slot 3) .nil)))) .nil))
/-- _law_pot -/
def b36 : VI.S := .seq (.set 2 (.ite (.cmp .lt (.slot 1) (.blt 0 (.cons (.slot 0) .nil))) (.idx (.slot 0) (.slot 1)) (.bin .add (.bin .add (.bin .mod (.blt 7 (.cons (.slc false true (.slot 0) .nop (.cst (.int 1))) .nil)) (.cst (.int 1000003))) (.bin .mul (.cst (.int 38657)) (.slot 1))) (.cst (.int 11351))))) (.seq (.set 3 (.bin .mul (.bin .mod (.blt 2 (.cons (.blt 1 (.cons (.slot 2) .nil)) .nil)) (.bin .pow (.bin .pow (.cst (.int 10)) (.cst (.int 60))) (.cst (.int 5)))) (.blt 2 (.cons (.cmp .ge (.blt 1 (.cons (.slot 2) .nil)) (.bin .pow (.cst (.int 10)) (.cst (.int 18)))) .nil)))) (.seq (.set 4 (.bin .mod (.blt 2 (.cons (.slot 2) .nil)) (.cst (.int 2305843009213693951)))) (.seq (.ret (.lst (.cons (.slot 3) (.cons (.bin .mod (.blt 2 (.cons (.bin .add (.bin .add (.bin .mul (.slot 4) (.cst (.int 129347))) (.bin .mul (.bin .mul (.cst (.int 28703)) (.slot 1)) (.slot 1))) (.cst (.int 14163))) .nil)) (.cst (.int 2305843009213693921))) (.cons (.cst (.int 0)) .nil))))) .nil)))
/-- _law_take -/
def b37 : VI.S := .seq (.ifs (.cmp .gt (.idx (.slot 0) (.cst (.int 0))) (.cst (.int 0))) (.seq (.set 2 (.bin .mod (.blt 2 (.cons (.idx (.slot 0) (.cst (.int 0))) .nil)) (.slot 1))) (.seq (.setI (.slot 0) (.cst (.int 0)) (.bin .fdiv (.idx (.slot 0) (.cst (.int 0))) (.slot 1))) (.seq (.ret (.slot 2)) .nil))) .nil) (.seq (.setI (.slot 0) (.cst (.int 2)) (.bin .add (.idx (.slot 0) (.cst (.int 2))) (.cst (.int 1)))) (.seq (.set 3 (.idx (.lst (.cons (.cst (.int 2147483647)) (.cons (.cst (.int 2147483629)) (.cons (.cst (.int 2147483587)) (.cons (.cst (.int 2147483579)) (.cons (.cst (.int 2147483563)) .nil)))))) (.bin .mod (.blt 2 (.cons (.idx (.slot 0) (.cst (.int 2))) .nil)) (.cst (.int 5))))) (.seq (.set 4 (.bin .mod (.blt 2 (.cons (.bin .pow (.blt 2 (.cons (.bin .add (.bin .add (.idx (.slot 0) (.cst (.int 1))) (.bin .mul (.bin .mul (.cst (.int 126827)) (.idx (.slot 0) (.cst (.int 2)))) (.idx (.slot 0) (.cst (.int 2))))) (.cst (.int 7329))) .nil)) (.cst (.int 3))) .nil)) (.slot 3))) (.seq (.set 4 (.bin .mod (.blt 2 (.cons (.bin .mul (.slot 4) (.bin .add (.bin .mod (.blt 2 (.cons (.slot 4) .nil)) (.cst (.int 34201))) (.bin .mul (.cst (.int 4125)) (.idx (.slot 0) (.cst (.int 2)))))) .nil)) (.cst (.int 2305843009213693907)))) (.seq (.ret (.bin .mod (.blt 2 (.cons (.bin .fdiv (.slot 4) (.cst (.int 10951))) .nil)) (.slot 1))) .nil)))))
/-- _law_cells -/
def b38 : VI.S := .seq (.ret (.lrg (.cons (.blt 3 (.cons (.cst (.int 1)) (.cons (.blt 4 (.cons (.slot 1) (.cons (.blt 0 (.cons (.slot 0) .nil)) .nil))) .nil))) .nil))) .nil
/-- _law_row -/
def b39 : VI.S := .seq (.ret (.tup (.cons (.blt 2 (.cons (.bin .sub (.call 37 (.cons (.slot 0) (.cons (.cst (.int 9)) .nil))) (.cst (.int 4))) .nil)) (.cons (.blt 8 (.cons (.comp [2] (.irng (.cons (.slot 1) .nil)) (.nm 2) (.cst (.bl true)) (.blt 2 (.cons (.bin .sub (.call 37 (.cons (.slot 0) (.cons (.cst (.int 5)) .nil))) (.cst (.int 2))) .nil))) .nil)) .nil)))) .nil
/-- _law_together -/
def b40 : VI.S := .seq (.set 3 (.bin .add (.lst (.cons (.blt 2 (.cons (.call 37 (.cons (.slot 0) (.cons (.cst (.int 3)) .nil))) .nil)) .nil)) (.bin .mul (.lst (.cons (.cst (.int 0)) .nil)) (.slot 2)))) (.seq (.fr (.nm 4) (.iseq (.slot 1)) (.seq (.set 5 (.blt 2 (.cons (.call 37 (.cons (.slot 0) (.cons (.cst (.int 3)) .nil))) .nil))) (.seq (.set 3 (.comp [6, 7] (.izip (.slot 3) (.bin .add (.lst (.cons (.idx (.slot 4) (.cst (.int 0))) .nil)) (.blt 9 (.cons (.idx (.slot 4) (.cst (.int 1))) .nil)))) (.tp 2 (.cons (.nm 6) (.cons (.nm 7) .nil))) (.cst (.bl true)) (.bin .add (.slot 6) (.bin .mul (.slot 5) (.slot 7))))) .nil))) (.seq (.ret (.tup (.cons (.idx (.slot 3) (.cst (.int 0))) (.cons (.blt 8 (.cons (.slc true false (.slot 3) (.cst (.int 1)) .nop) .nil)) .nil)))) .nil))
/-- _law_at -/
def b41 : VI.S := .seq (.set 2 (.cst (.int 1))) (.seq (.fr (.tp 2 (.cons (.nm 3) (.cons (.nm 4) .nil))) (.iseq (.slot 1)) (.seq (.set 2 (.bin .mul (.slot 2) (.slot 4))) .nil)) (.seq (.ret (.cmp .ge (.bin .add (.bin .mul (.idx (.slot 0) (.cst (.int 0))) (.slot 2)) (.blt 7 (.cons (.comp [5, 3, 4] (.izip (.idx (.slot 0) (.cst (.int 1))) (.slot 1)) (.tp 2 (.cons (.nm 5) (.cons (.tp 2 (.cons (.nm 3) (.cons (.nm 4) .nil))) .nil))) (.cst (.bl true)) (.bin .mul (.bin .mul (.slot 5) (.slot 3)) (.bin .fdiv (.slot 2) (.slot 4)))) .nil))) (.cst (.int 0)))) .nil))
/-- _law_right -/
def b42 : VI.S := .seq (.set 1 (.blt 2 (.cons (.bin .add (.cst (.int 1)) (.call 37 (.cons (.slot 0) (.cons (.cst (.int 4)) .nil)))) .nil))) (.seq (.set 2 (.blt 8 (.cons (.comp [8] (.irng (.cons (.bin .add (.cst (.int 1)) (.call 37 (.cons (.slot 0) (.cons (.cst (.int 4)) .nil)))) .nil)) (.nm 8) (.cst (.bl true)) (.call 39 (.cons (.slot 0) (.cons (.slot 1) .nil)))) .nil))) (.seq (.set 3 (.call 40 (.cons (.slot 0) (.cons (.slot 2) (.cons (.slot 1) .nil))))) (.seq (.set 4 (.call 40 (.cons (.slot 0) (.cons (.bin .add (.slot 2) (.tup (.cons (.slot 3) .nil))) (.cons (.slot 1) .nil))))) (.seq (.ifs (.or (.cmp .eq (.idx (.call 34 (.cons (.slot 1) (.cons (.slot 2) (.cons (.slot 3) .nil)))) (.cst (.int 0))) (.cst (.str [115, 112, 111, 116]))) (.cmp .eq (.idx (.call 34 (.cons (.slot 1) (.cons (.slot 2) (.cons (.slot 4) .nil)))) (.cst (.int 0))) (.cst (.str [115, 112, 111, 116])))) (.seq (.ret (.cst (.bl false))) .nil) .nil) (.seq (.setT (.tp 2 (.cons (.nm 5) (.cons (.nm 6) .nil))) (.tup (.cons (.call 35 (.cons (.slot 1) (.cons (.slot 2) .nil))) (.cons (.call 39 (.cons (.slot 0) (.cons (.slot 1) .nil))) .nil)))) (.seq (.ifs (.and (.cmp .isn (.slot 5) (.cst (.non))) (.not (.blt 5 (.cons (.comp [9] (.iseq (.bin .add (.tup (.cons (.slot 3) (.cons (.slot 4) .nil))) (.slot 2))) (.nm 9) (.cst (.bl true)) (.call 41 (.cons (.slot 9) (.cons (.slot 5) .nil)))) .nil)))) (.seq (.ret (.cst (.bl false))) .nil) .nil) (.seq (.set 7 (.call 34 (.cons (.slot 1) (.cons (.slot 2) (.cons (.slot 6) .nil))))) (.seq (.ifs (.cmp .eq (.idx (.slot 7) (.cst (.int 0))) (.cst (.str [115, 112, 111, 116]))) (.seq (.ifs (.or (.not (.blt 5 (.cons (.comp [9] (.iseq (.bin .add (.slot 2) (.tup (.cons (.slot 3) (.cons (.slot 4) .nil))))) (.nm 9) (.cst (.bl true)) (.call 41 (.cons (.slot 9) (.cons (.idx (.slot 7) (.cst (.int 1))) .nil)))) .nil))) (.call 41 (.cons (.slot 6) (.cons (.idx (.slot 7) (.cst (.int 1))) .nil)))) (.seq (.ret (.cst (.bl false))) .nil) .nil) (.seq (.ret (.cmp .eq (.idx (.call 34 (.cons (.slot 1) (.cons (.bin .add (.slot 2) (.tup (.cons (.slot 3) (.cons (.slot 4) .nil)))) (.cons (.slot 6) .nil)))) (.cst (.int 0))) (.cst (.str [115, 112, 111, 116])))) .nil)) .nil) (.seq (.ret (.cmp .ne (.idx (.call 34 (.cons (.slot 1) (.cons (.bin .add (.rev (.slot 2)) (.tup (.cons (.slot 4) .nil))) (.cons (.slot 6) .nil)))) (.cst (.int 0))) (.cst (.str [115, 112, 111, 116])))) .nil)))))))))
/-- law -/
def b43 : VI.S := .seq (.fr (.nm 1) (.iseq (.call 38 (.cons (.slot 0) (.cons (.cst (.int 2)) .nil)))) (.seq (.set 2 (.call 36 (.cons (.slot 0) (.cons (.slot 1) .nil)))) (.seq (.ifs (.not (.blt 5 (.cons (.comp [3] (.irng (.cons (.cst (.int 8)) .nil)) (.nm 3) (.cst (.bl true)) (.call 42 (.cons (.slot 2) .nil))) .nil))) (.seq (.ret (.cst (.bl false))) .nil) .nil) .nil))) (.seq (.ret (.cst (.bl true))) .nil)
def fiL : List FI := [⟨1, 1, b0⟩, ⟨3, 3, b1⟩, ⟨2, 2, b2⟩, ⟨2, 3, b3⟩, ⟨2, 2, b4⟩, ⟨2, 2, b5⟩, ⟨2, 2, b6⟩, ⟨2, 2, b7⟩, ⟨2, 2, b8⟩, ⟨3, 6, b9⟩, ⟨4, 8, b10⟩, ⟨2, 4, b11⟩, ⟨1, 2, b12⟩, ⟨1, 2, b13⟩, ⟨2, 6, b14⟩, ⟨3, 6, b15⟩, ⟨1, 1, b16⟩, ⟨1, 4, b17⟩, ⟨1, 5, b18⟩, ⟨3, 6, b19⟩, ⟨2, 3, b20⟩, ⟨2, 3, b21⟩, ⟨2, 3, b22⟩, ⟨3, 3, b23⟩, ⟨1, 4, b24⟩, ⟨1, 1, b25⟩, ⟨1, 1, b26⟩, ⟨2, 5, b27⟩, ⟨1, 3, b28⟩, ⟨1, 4, b29⟩, ⟨2, 6, b30⟩, ⟨3, 8, b31⟩, ⟨2, 6, b32⟩, ⟨3, 12, b33⟩, ⟨3, 3, b34⟩, ⟨2, 4, b35⟩, ⟨2, 5, b36⟩, ⟨2, 5, b37⟩, ⟨2, 2, b38⟩, ⟨2, 3, b39⟩, ⟨3, 8, b40⟩, ⟨2, 6, b41⟩, ⟨1, 10, b42⟩, ⟨1, 4, b43⟩]
/- fields and methods: 0 solve, 1 own_many, 2 own_high, 3 first_cost, 4 own_cost, 5 own_basis, 6 first_row, 7 own_rows, 8 own_signs, 9 entering, 10 turn, 11 leaving, 12 is_solved, 13 parts, 14 prices -/
def clL : List CI := [⟨[(6, 10), (3, 11), (0, 12), (9, 13), (11, 14), (10, 15), (12, 16), (13, 17), (14, 18)], [1, 2, 8, 7, 5, 4], some 9⟩]
def gg : G := ⟨clL, fiL⟩
end L57

/-! MA: finite sums of rationals. Plain Lean. -/
set_option linter.all false
namespace M57
def sm : Nat → (Nat → Rat) → Rat
  | 0, _ => 0
  | n + 1, f => sm n f + f n
theorem sm_congr {n : Nat} {f g : Nat → Rat} (h : ∀ i, i < n → f i = g i) : sm n f = sm n g := by
  induction n with
  | zero => rfl
  | succ n ih =>
    show sm n f + f n = sm n g + g n
    rw [ih (fun i hi => h i (Nat.lt_succ_of_lt hi)), h n (Nat.lt_succ_self n)]
theorem sm_add (n : Nat) (f g : Nat → Rat) : sm n (fun i => f i + g i) = sm n f + sm n g := by
  induction n with
  | zero => simp only [sm]; grind
  | succ n ih => simp only [sm, ih]; grind
theorem sm_sub (n : Nat) (f g : Nat → Rat) : sm n (fun i => f i - g i) = sm n f - sm n g := by
  induction n with
  | zero => simp [sm]; grind
  | succ n ih => simp only [sm, ih]; grind
theorem sm_mul (n : Nat) (c : Rat) (f : Nat → Rat) : sm n (fun i => c * f i) = c * sm n f := by
  induction n with
  | zero => simp [sm]
  | succ n ih => simp only [sm, ih]; grind
theorem sm_mulR (n : Nat) (c : Rat) (f : Nat → Rat) : sm n (fun i => f i * c) = sm n f * c := by
  induction n with
  | zero => simp [sm]
  | succ n ih => simp only [sm, ih]; grind
theorem sm_zero (n : Nat) : sm n (fun _ => 0) = 0 := by
  induction n with
  | zero => rfl
  | succ n ih => simp only [sm, ih]; grind
theorem sm_zero' {n : Nat} {f : Nat → Rat} (h : ∀ i, i < n → f i = 0) : sm n f = 0 := by
  rw [sm_congr h, sm_zero]
theorem sm_swap (n m : Nat) (f : Nat → Nat → Rat) : sm n (fun i => sm m (fun j => f i j)) = sm m (fun j => sm n (fun i => f i j)) := by
  induction n with
  | zero => simp only [sm]; rw [sm_zero]
  | succ n ih => simp only [sm, ih, ← sm_add]
theorem sm_nonneg {n : Nat} {f : Nat → Rat} (h : ∀ i, i < n → 0 ≤ f i) : 0 ≤ sm n f := by
  induction n with
  | zero => simp [sm]
  | succ n ih =>
    have a := ih fun i hi => h i (Nat.lt_succ_of_lt hi)
    have b := h n (Nat.lt_succ_self n)
    simp only [sm]; grind
theorem sm_pos {n : Nat} {f : Nat → Rat} (h : ∀ i, i < n → 0 ≤ f i) {k : Nat} (hk : k < n) (hp : 0 < f k) : 0 < sm n f := by
  induction n with
  | zero => omega
  | succ n ih =>
    have a := sm_nonneg fun i (hi : i < n) => h i (Nat.lt_succ_of_lt hi)
    have b := h n (Nat.lt_succ_self n)
    simp only [sm]
    by_cases e : k = n
    · subst e; grind
    · have := ih (fun i hi => h i (Nat.lt_succ_of_lt hi)) (by omega); grind
theorem sm_each {n : Nat} {f : Nat → Rat} (h : ∀ i, i < n → 0 ≤ f i) (z : sm n f = 0) : ∀ i, i < n → f i = 0 := by
  intro i hi
  have a := h i hi
  by_cases e : 0 < f i
  · have := sm_pos h hi e; grind
  · grind
/-- the sum with one place picked -/
theorem sm_one {n k : Nat} (hk : k < n) (f : Nat → Rat) : sm n (fun i => if i = k then f i else 0) = f k := by
  induction n with
  | zero => omega
  | succ n ih =>
    simp only [sm]
    by_cases e : k = n
    · subst e
      rw [sm_zero' (fun i hi => by rw [if_neg (by omega)]), if_pos rfl]; grind
    · rw [ih (by omega), if_neg (fun z => e z.symm)]; grind
theorem sm_pick {n k : Nat} (hk : k < n) (f : Nat → Rat) : sm n f = f k + sm n (fun i => if i = k then 0 else f i) := by
  have : sm n f = sm n (fun i => (if i = k then f i else 0) + (if i = k then 0 else f i)) := sm_congr fun i _ => by by_cases e : i = k <;> simp [e] <;> grind
  rw [this, sm_add, sm_one hk]
/-- first item apart -/
theorem sm_first (n : Nat) (f : Nat → Rat) : sm (n + 1) f = f 0 + sm n (fun i => f (i + 1)) := by
  induction n with
  | zero => simp only [sm]; grind
  | succ n ih =>
    show sm (n + 1) f + f (n + 1) = f 0 + (sm n (fun i => f (i + 1)) + f (n + 1))
    rw [ih]; grind
/-- two places changed over -/
def tw (k : Nat) (i : Nat) : Nat := if i = 0 then k else if i = k then 0 else i
theorem tw_tw (k i : Nat) : tw k (tw k i) = i := by
  unfold tw; split <;> (try split) <;> (try split) <;> omega
theorem tw_lt {k i n : Nat} (hk : k < n) (hi : i < n) : tw k i < n := by
  unfold tw; split <;> (try split) <;> omega
theorem sm_tw {n k : Nat} (hk : k < n) (f : Nat → Rat) : sm n (fun i => f (tw k i)) = sm n f := by
  by_cases e : k = 0
  · subst e; exact sm_congr fun i _ => by unfold tw; split <;> (try split) <;> simp_all
  · cases n with
    | zero => omega
    | succ n =>
      rw [sm_first, sm_first]
      have h0 : tw k 0 = k := by simp [tw]
      rw [h0, sm_pick (k := k - 1) (by omega) (fun i => f (tw k (i + 1))), sm_pick (k := k - 1) (by omega) (fun i => f (i + 1))]
      have h1 : tw k (k - 1 + 1) = 0 := by unfold tw; split <;> (try split) <;> omega
      have h2 : k - 1 + 1 = k := by omega
      have h3 : sm n (fun i => if i = k - 1 then 0 else f (tw k (i + 1))) = sm n (fun i => if i = k - 1 then 0 else f (i + 1)) := sm_congr fun i _ => by
        by_cases e2 : i = k - 1
        · rw [if_pos e2, if_pos e2]
        · rw [if_neg e2, if_neg e2]
          have : tw k (i + 1) = i + 1 := by unfold tw; split <;> (try split) <;> omega
          rw [this]
      rw [h1, h2, h3]; grind
end M57

set_option linter.all false
/-! MB: how great the entries of an inverse are. -/
namespace M57
/-- x is a whole number over d, at most b by amount -/
def Ov (d b : Int) (x : Rat) : Prop := ∃ n : Int, (d : Rat) * x = n ∧ -b ≤ n ∧ n ≤ b
def dl (i j : Nat) : Rat := if i = j then 1 else 0
/-- the bound: of d, of d times each entry -/
def bd : Nat → Int → Int
  | 0, _ => 1
  | r + 1, A => 64 * A * A * bd r (2 * A * A)
theorem bd_pos : ∀ (r : Nat) {A : Int}, 1 ≤ A → 1 ≤ bd r A
  | 0, _, _ => by simp [bd]
  | r + 1, A, h => by
    have h2 : 1 ≤ A * A := by
      have := Int.mul_le_mul h h (by omega) (by omega)
      omega
    have h3 := bd_pos r (A := 2 * A * A) (by rw [Int.mul_assoc]; omega)
    have h4 : 1 ≤ A * A * bd r (2 * A * A) := by
      have := Int.mul_le_mul h2 h3 (by omega) (by omega)
      omega
    have e : bd (r + 1) A = 64 * (A * A * bd r (2 * A * A)) := by simp only [bd]; grind
    omega
theorem sm_int {r : Nat} {f : Nat → Rat} {d b : Int} (h : ∀ i, i < r → Ov d b (f i)) : ∃ n : Int, (d : Rat) * sm r f = n ∧ -(r * b) ≤ n ∧ n ≤ r * b := by
  induction r with
  | zero => exact ⟨0, by simp [sm], by simp, by simp⟩
  | succ r ih =>
    obtain ⟨n, e, h1, h2⟩ := ih fun i hi => h i (Nat.lt_succ_of_lt hi)
    obtain ⟨m, e2, h3, h4⟩ := h r (Nat.lt_succ_self r)
    refine ⟨n + m, ?_, ?_, ?_⟩
    · simp only [sm, Rat.intCast_add]; grind
    · have : ((r + 1 : Nat) : Int) * b = r * b + b := by rw [Int.natCast_add, Int.add_mul]; simp
      omega
    · have : ((r + 1 : Nat) : Int) * b = r * b + b := by rw [Int.natCast_add, Int.add_mul]; simp
      omega
theorem Ov.mulI {d b c A : Int} {x : Rat} (h : Ov d b x) (hc : -A ≤ c) (hc2 : c ≤ A) (hb : 0 ≤ b) : Ov d (A * b) ((c : Rat) * x) := by
  obtain ⟨n, e, h1, h2⟩ := h
  refine ⟨c * n, by rw [Rat.intCast_mul]; grind, ?_, ?_⟩
  · have hA : 0 ≤ A := by omega
    rcases Int.le_total 0 c with q | q
    · have := Int.mul_le_mul_of_nonneg_left h1 q
      have := Int.mul_le_mul_of_nonneg_right hc2 hb
      grind
    · have := Int.mul_le_mul_of_nonneg_left h2 (show 0 ≤ -c by omega)
      have := Int.mul_le_mul_of_nonneg_right (show -c ≤ A by omega) hb
      grind
  · have hA : 0 ≤ A := by omega
    rcases Int.le_total 0 c with q | q
    · have := Int.mul_le_mul_of_nonneg_left h2 q
      have := Int.mul_le_mul_of_nonneg_right hc2 hb
      grind
    · have := Int.mul_le_mul_of_nonneg_left h1 (show 0 ≤ -c by omega)
      have := Int.mul_le_mul_of_nonneg_right (show -c ≤ A by omega) hb
      grind
end M57

set_option linter.all false
/-! MC: the inverse of a matrix of whole numbers. -/
namespace M57
theorem Ov.up {d b p A : Int} {x : Rat} (h : Ov d b x) (h1 : -A ≤ p) (h2 : p ≤ A) (hb : 0 ≤ b) : Ov (d * p) (A * b) x := by
  obtain ⟨n, e, n1, n2⟩ := Ov.mulI h h1 h2 hb
  exact ⟨n, by rw [Rat.intCast_mul]; grind, n1, n2⟩
theorem Ov.le {d b c : Int} {x : Rat} (h : Ov d b x) (hc : b ≤ c) : Ov d c x := by
  obtain ⟨n, e, h1, h2⟩ := h
  exact ⟨n, e, by omega, by omega⟩
theorem Ov.neg {d b : Int} {x : Rat} (h : Ov d b x) : Ov d b (-x) := by
  obtain ⟨n, e, h1, h2⟩ := h
  exact ⟨-n, by rw [Rat.intCast_neg]; grind, by omega, by omega⟩
def I0 (r : Nat) (B : Nat → Nat → Int) (Q : Nat → Nat → Rat) : Prop :=
  (∀ i k, i < r → k < r → sm r (fun j => Q i j * B j k) = dl i k) ∧ (∀ j k, j < r → k < r → sm r (fun i => B j i * Q i k) = dl j k)
theorem ov_sm {r : Nat} {f : Nat → Rat} {d b : Int} (h : ∀ i, i < r → Ov d b (f i)) : Ov d (r * b) (sm r f) := by
  obtain ⟨n, e, h1, h2⟩ := sm_int h
  exact ⟨n, e, h1, h2⟩
theorem inv_piv {r : Nat} (hr : r ≤ 7) {A : Int} (hA : 1 ≤ A)
    (ih : ∀ (B : Nat → Nat → Int) (Q : Nat → Nat → Rat), (∀ i j, i < r → j < r → -(2 * A * A) ≤ B i j ∧ B i j ≤ 2 * A * A) → I0 r B Q → ∃ d : Int, d ≠ 0 ∧ -(bd r (2 * A * A)) ≤ d ∧ d ≤ bd r (2 * A * A) ∧ ∀ i j, i < r → j < r → Ov d (bd r (2 * A * A)) (Q i j))
    (B : Nat → Nat → Int) (Q : Nat → Nat → Rat) (hB : ∀ i j, i < r + 1 → j < r + 1 → -A ≤ B i j ∧ B i j ≤ A) (h : I0 (r + 1) B Q) (p0 : B 0 0 ≠ 0) :
    ∃ d : Int, d ≠ 0 ∧ -(bd (r + 1) A) ≤ d ∧ d ≤ bd (r + 1) A ∧ ∀ i j, i < r + 1 → j < r + 1 → Ov d (bd (r + 1) A) (Q i j) := by
  obtain ⟨h1, h2⟩ := h
  have hp : (B 0 0 : Rat) ≠ 0 := by
    intro z
    exact p0 (by exact_mod_cast z)
  have pq : (B 0 0 : Rat) * (B 0 0 : Rat)⁻¹ = 1 := Rat.mul_inv_cancel _ hp
  -- the equations apart
  have e1 : ∀ i k, i < r → k < r → Q (i + 1) 0 * B 0 (k + 1) + sm r (fun j => Q (i + 1) (j + 1) * B (j + 1) (k + 1)) = dl i k := fun i k hi hk => by
    rw [← sm_first r (fun j => Q (i + 1) j * B j (k + 1)), h1 (i + 1) (k + 1) (by omega) (by omega)]
    simp [dl]
  have e2 : ∀ i, i < r → Q (i + 1) 0 * B 0 0 + sm r (fun j => Q (i + 1) (j + 1) * B (j + 1) 0) = 0 := fun i hi => by
    rw [← sm_first r (fun j => Q (i + 1) j * B j 0), h1 (i + 1) 0 (by omega) (by omega)]
    simp [dl]
  have e3 : ∀ j k, j < r → k < r → (B (j + 1) 0 : Rat) * Q 0 (k + 1) + sm r (fun i => (B (j + 1) (i + 1) : Rat) * Q (i + 1) (k + 1)) = dl j k := fun j k hj hk => by
    rw [← sm_first r (fun i => (B (j + 1) i : Rat) * Q i (k + 1)), h2 (j + 1) (k + 1) (by omega) (by omega)]
    simp [dl]
  have e4 : ∀ k, k < r → (B 0 0 : Rat) * Q 0 (k + 1) + sm r (fun i => (B 0 (i + 1) : Rat) * Q (i + 1) (k + 1)) = 0 := fun k hk => by
    rw [← sm_first r (fun i => (B 0 i : Rat) * Q i (k + 1)), h2 0 (k + 1) (by omega) (by omega)]
    simp [dl]
  have e5 : (B 0 0 : Rat) * Q 0 0 + sm r (fun i => (B 0 (i + 1) : Rat) * Q (i + 1) 0) = 1 := by
    rw [← sm_first r (fun i => (B 0 i : Rat) * Q i 0), h2 0 0 (by omega) (by omega)]
    simp [dl]
  have AA : 1 ≤ A * A := by
    have := Int.mul_le_mul hA hA (by omega) (by omega)
    omega
  have ab : ∀ x y : Int, -A ≤ x → x ≤ A → -A ≤ y → y ≤ A → -(A * A) ≤ x * y ∧ x * y ≤ A * A := fun x y x1 x2 y1 y2 => by
    have n1 : x.natAbs ≤ A.natAbs := by omega
    have n2 : y.natAbs ≤ A.natAbs := by omega
    have n3 : (x * y).natAbs ≤ (A * A).natAbs := by rw [Int.natAbs_mul, Int.natAbs_mul]; exact Nat.mul_le_mul n1 n2
    omega
  obtain ⟨d, d0, d1, d2, hd⟩ := ih (fun j k => B 0 0 * B (j + 1) (k + 1) - B (j + 1) 0 * B 0 (k + 1)) (fun i j => Q (i + 1) (j + 1) * (B 0 0 : Rat)⁻¹) (fun i j hi hj => by
      obtain ⟨a1, a2⟩ := hB 0 0 (by omega) (by omega)
      obtain ⟨a3, a4⟩ := hB (i + 1) (j + 1) (by omega) (by omega)
      obtain ⟨a5, a6⟩ := hB (i + 1) 0 (by omega) (by omega)
      obtain ⟨a7, a8⟩ := hB 0 (j + 1) (by omega) (by omega)
      have b1 := ab _ _ a1 a2 a3 a4
      have b2 := ab _ _ a5 a6 a7 a8
      have : 2 * A * A = A * A + A * A := by grind
      omega) (by
    refine ⟨fun i k hi hk => ?_, fun j k hj hk => ?_⟩
    · have : sm r (fun j => Q (i + 1) (j + 1) * (B 0 0 : Rat)⁻¹ * ((B 0 0 * B (j + 1) (k + 1) - B (j + 1) 0 * B 0 (k + 1) : Int) : Rat)) = sm r (fun j => Q (i + 1) (j + 1) * B (j + 1) (k + 1)) - ((B 0 0 : Rat)⁻¹ * B 0 (k + 1)) * sm r (fun j => Q (i + 1) (j + 1) * B (j + 1) 0) := by
        rw [← sm_mul, ← sm_sub]
        refine sm_congr fun j _ => ?_
        rw [Rat.intCast_sub, Rat.intCast_mul, Rat.intCast_mul]
        grind
      rw [this]
      have q1 := e1 i k hi hk
      have q2 := e2 i hi
      grind
    · have : sm r (fun i => ((B 0 0 * B (j + 1) (i + 1) - B (j + 1) 0 * B 0 (i + 1) : Int) : Rat) * (Q (i + 1) (k + 1) * (B 0 0 : Rat)⁻¹)) = sm r (fun i => (B (j + 1) (i + 1) : Rat) * Q (i + 1) (k + 1)) - ((B 0 0 : Rat)⁻¹ * B (j + 1) 0) * sm r (fun i => (B 0 (i + 1) : Rat) * Q (i + 1) (k + 1)) := by
        rw [← sm_mul, ← sm_sub]
        refine sm_congr fun i _ => ?_
        rw [Rat.intCast_sub, Rat.intCast_mul, Rat.intCast_mul]
        grind
      rw [this]
      have q1 := e3 j k hj hk
      have q2 := e4 k hk
      grind)
  have bp := bd_pos r (A := 2 * A * A) (by have : 2 * A * A = A * A + A * A := by grind
                                           omega)
  have eb : bd (r + 1) A = 64 * A * A * bd r (2 * A * A) := rfl
  rw [eb]
  generalize bd r (2 * A * A) = b at *
  obtain ⟨a1, a2⟩ := hB 0 0 (by omega) (by omega)
  have b0 : 0 ≤ b := by omega
  have hr0 : (0 : Int) ≤ r := Int.natCast_nonneg r
  have hr7 : (r : Int) ≤ 7 := by omega
  have Ab : 0 ≤ A * b := Int.mul_nonneg (by omega) b0
  have Ab1 : b ≤ A * b := by
    have := Int.mul_le_mul_of_nonneg_right hA b0
    omega
  have AAb : A * b ≤ A * (A * b) := by
    have := Int.mul_le_mul_of_nonneg_right hA Ab
    omega
  have rAb : (r : Int) * (A * b) ≤ 7 * (A * b) := Int.mul_le_mul_of_nonneg_right hr7 Ab
  have e64 : 64 * A * A * b = 64 * (A * (A * b)) := by grind
  have rAb0 : 0 ≤ (r : Int) * (A * b) := Int.mul_nonneg hr0 Ab
  have c1 : A * ((r : Int) * (A * b)) ≤ 7 * (A * (A * b)) := by
    have := Int.mul_le_mul_of_nonneg_left rAb (show 0 ≤ A by omega)
    grind
  have c2 : 0 ≤ A * (A * b) := Int.mul_nonneg (by omega) Ab
  have c3 : (r : Int) * (A * ((r : Int) * (A * b))) ≤ 49 * (A * (A * b)) := by
    have := Int.mul_le_mul_of_nonneg_left c1 hr0
    have := Int.mul_le_mul_of_nonneg_right hr7 (show 0 ≤ 7 * (A * (A * b)) by omega)
    omega
  have q1 : ∀ i, i < r → Ov d ((r : Int) * (A * b)) (Q (i + 1) 0) := fun i hi => by
    have : Q (i + 1) 0 = -(sm r (fun j => (B (j + 1) 0 : Rat) * (Q (i + 1) (j + 1) * (B 0 0 : Rat)⁻¹))) := by
      have z := e2 i hi
      have : sm r (fun j => (B (j + 1) 0 : Rat) * (Q (i + 1) (j + 1) * (B 0 0 : Rat)⁻¹)) = sm r (fun j => Q (i + 1) (j + 1) * B (j + 1) 0) * (B 0 0 : Rat)⁻¹ := by
        rw [← sm_mulR]
        exact sm_congr fun j _ => by grind
      rw [this]
      grind
    rw [this]
    exact (ov_sm fun j hj => Ov.mulI (hd i j hi hj) (hB (j + 1) 0 (by omega) (by omega)).1 (hB (j + 1) 0 (by omega) (by omega)).2 b0).neg
  have q2 : ∀ k, k < r → Ov d ((r : Int) * (A * b)) (Q 0 (k + 1)) := fun k hk => by
    have : Q 0 (k + 1) = -(sm r (fun i => (B 0 (i + 1) : Rat) * (Q (i + 1) (k + 1) * (B 0 0 : Rat)⁻¹))) := by
      have z := e4 k hk
      have : sm r (fun i => (B 0 (i + 1) : Rat) * (Q (i + 1) (k + 1) * (B 0 0 : Rat)⁻¹)) = sm r (fun i => (B 0 (i + 1) : Rat) * Q (i + 1) (k + 1)) * (B 0 0 : Rat)⁻¹ := by
        rw [← sm_mulR]
        exact sm_congr fun j _ => by grind
      rw [this]
      grind
    rw [this]
    exact (ov_sm fun i hi => Ov.mulI (hd i k hi hk) (hB 0 (i + 1) (by omega) (by omega)).1 (hB 0 (i + 1) (by omega) (by omega)).2 b0).neg
  refine ⟨d * B 0 0, Int.mul_ne_zero d0 p0, ?_, ?_, fun i j hi hj => ?_⟩
  · have := Int.natAbs_mul d (B 0 0)
    have n1 : d.natAbs ≤ b.natAbs := by omega
    have n2 : (B 0 0).natAbs ≤ A.natAbs := by omega
    have n3 : (d * B 0 0).natAbs ≤ (b * A).natAbs := by rw [Int.natAbs_mul, Int.natAbs_mul]; exact Nat.mul_le_mul n1 n2
    have : b * A = A * b := Int.mul_comm _ _
    omega
  · have n1 : d.natAbs ≤ b.natAbs := by omega
    have n2 : (B 0 0).natAbs ≤ A.natAbs := by omega
    have n3 : (d * B 0 0).natAbs ≤ (b * A).natAbs := by rw [Int.natAbs_mul, Int.natAbs_mul]; exact Nat.mul_le_mul n1 n2
    have : b * A = A * b := Int.mul_comm _ _
    omega
  · cases i with
    | zero =>
      cases j with
      | zero =>
        -- d p Q00 = d - sum
        obtain ⟨n, en, n1, n2⟩ := ov_sm (r := r) (f := fun i => (B 0 (i + 1) : Rat) * Q (i + 1) 0) (d := d) (b := A * ((r : Int) * (A * b))) fun i hi => Ov.mulI (q1 i hi) (hB 0 (i + 1) (by omega) (by omega)).1 (hB 0 (i + 1) (by omega) (by omega)).2 rAb0
        refine ⟨d - n, ?_, by omega, by omega⟩
        rw [Rat.intCast_mul, Rat.intCast_sub]
        grind
      | succ j => exact ((q2 j (by omega)).up a1 a2 rAb0).le (by omega)
    | succ i =>
      cases j with
      | zero => exact ((q1 i (by omega)).up a1 a2 rAb0).le (by omega)
      | succ j =>
        have z := hd i j (by omega) (by omega)
        have : Q (i + 1) (j + 1) = (B 0 0 : Rat) * (Q (i + 1) (j + 1) * (B 0 0 : Rat)⁻¹) := by grind
        rw [this]
        exact ((z.mulI a1 a2 b0).up a1 a2 Ab).le (by omega)
theorem dl_tw (k i j : Nat) : dl (tw k i) (tw k j) = dl i j := by
  unfold dl
  by_cases e : i = j
  · subst e; simp
  · have : tw k i ≠ tw k j := fun z => e (by rw [← tw_tw k i, z, tw_tw])
    simp [e, this]
theorem inv_bd : ∀ (r : Nat), r ≤ 8 → ∀ {A : Int}, 1 ≤ A → ∀ (B : Nat → Nat → Int) (Q : Nat → Nat → Rat), (∀ i j, i < r → j < r → -A ≤ B i j ∧ B i j ≤ A) → I0 r B Q →
    ∃ d : Int, d ≠ 0 ∧ -(bd r A) ≤ d ∧ d ≤ bd r A ∧ ∀ i j, i < r → j < r → Ov d (bd r A) (Q i j)
  | 0, _, _, _, _, _, _, _ => ⟨1, by decide, by simp [bd], by simp [bd], fun i j hi => by omega⟩
  | r + 1, hr, A, hA, B, Q, hB, h => by
    have AA : 1 ≤ 2 * A * A := by
      have := Int.mul_le_mul hA hA (by omega) (by omega)
      have : 2 * A * A = 2 * (A * A) := Int.mul_assoc _ _ _
      omega
    have : ∃ k, k < r + 1 ∧ B k 0 ≠ 0 := by
      refine Classical.byContradiction fun z => ?_
      have z : ∀ k, k < r + 1 → B k 0 = 0 := fun k hk => Classical.byContradiction fun w => z ⟨k, hk, w⟩
      have := h.1 0 0 (by omega) (by omega)
      rw [sm_zero' fun j hj => by rw [z j hj]; grind] at this
      simp [dl] at this
    obtain ⟨k, hk, pk⟩ := this
    obtain ⟨d, d0, d1, d2, hd⟩ := inv_piv (by omega) hA (inv_bd r (by omega) AA) (fun j c => B (tw k j) c) (fun i j => Q i (tw k j)) (fun i j hi hj => hB _ _ (tw_lt hk hi) hj) ⟨fun i c hi hc => by
      rw [sm_tw hk (fun j => Q i j * B j c)]
      exact h.1 i c hi hc, fun j c hj hc => by
      rw [h.2 _ _ (tw_lt hk hj) (tw_lt hk hc), dl_tw]⟩ (by simpa [tw] using pk)
    refine ⟨d, d0, d1, d2, fun i j hi hj => ?_⟩
    have := hd i (tw k j) hi (tw_lt hk hj)
    rwa [tw_tw] at this
end M57

set_option linter.all false
/-! MD: tableaus and their turns. -/
namespace M57
structure St where
  T : Nat → Nat → Rat
  b : Nat → Nat
  c : Nat → Rat
/-- many columns, r rows; the first rows: columns of their own behind, then the goal at m + r -/
structure Ini (m r : Nat) (A : Nat → Nat → Rat) : Prop where
  un : ∀ i k, i < r → k < r → A i (m + k) = dl i k
  nn : ∀ i, i < r → 0 ≤ A i (m + r)
def c0 (m r : Nat) (A : Nat → Nat → Rat) (j : Nat) : Rat := if m ≤ j ∧ j < m + r then 0 else -(sm r fun i => A i j)
structure Inv (m r : Nat) (A : Nat → Nat → Rat) (s : St) : Prop where
  R : ∀ i j, i < r → j ≤ m + r → s.T i j = sm r fun k => s.T i (m + k) * A k j
  R' : ∀ k j, k < r → j ≤ m + r → A k j = sm r fun i => A k (s.b i) * s.T i j
  U : ∀ i k, i < r → k < r → s.T i (s.b k) = dl i k
  B : ∀ i, i < r → s.b i < m + r
  N : ∀ i, i < r → 0 ≤ s.T i (m + r)
  C : ∀ j, j ≤ m + r → s.c j = c0 m r A j + sm r fun k => s.c (m + k) * A k j
  CB : ∀ i, i < r → s.c (s.b i) = 0
theorem sm_dl {r k : Nat} (hk : k < r) (f : Nat → Rat) : sm r (fun i => dl k i * f i) = f k := by
  rw [← sm_one hk f]
  refine sm_congr fun i _ => ?_
  unfold dl
  by_cases e : i = k
  · subst e; simp
  · have : ¬ k = i := fun z => e z.symm
    simp [e, this]
theorem sm_dl2 {r k : Nat} (hk : k < r) (f : Nat → Rat) : sm r (fun i => f i * dl k i) = f k := by
  rw [← sm_dl hk f]
  exact sm_congr fun i _ => by grind
def ini (m r : Nat) (A : Nat → Nat → Rat) : St := ⟨A, fun i => m + i, c0 m r A⟩
theorem Ini.inv {m r : Nat} {A : Nat → Nat → Rat} (h : Ini m r A) : Inv m r A (ini m r A) where
  R := fun i j hi hj => by
    show A i j = sm r fun k => A i (m + k) * A k j
    rw [sm_congr (g := fun k => dl i k * A k j) fun k hk => by rw [h.un i k hi hk], sm_dl hi]
  R' := fun k j hk hj => by
    show A k j = sm r fun i => A k (m + i) * A i j
    rw [sm_congr (g := fun i => dl k i * A i j) fun i hi => by rw [h.un k i hk hi], sm_dl hk]
  U := fun i k hi hk => h.un i k hi hk
  B := fun i hi => by show m + i < m + r; omega
  N := fun i hi => h.nn i hi
  C := fun j hj => by
    show c0 m r A j = c0 m r A j + sm r fun k => c0 m r A (m + k) * A k j
    rw [sm_zero' fun k hk => by unfold c0; rw [if_pos ⟨by omega, by omega⟩]; grind]
    grind
  CB := fun i hi => by
    show c0 m r A (m + i) = 0
    unfold c0
    rw [if_pos ⟨by omega, by omega⟩]
/-- the turn -/
def turn (s : St) (a p : Nat) : St where
  T := fun i j => if i = a then s.T a j / s.T a p else s.T i j - s.T i p * (s.T a j / s.T a p)
  b := fun i => if i = a then p else s.b i
  c := fun j => s.c j - s.c p * (s.T a j / s.T a p)
/-- row a may leave for p -/
structure Lv (m r : Nat) (s : St) (a p : Nat) : Prop where
  ha : a < r
  hp : p ≤ m + r
  pos : 0 < s.T a p
  least : ∀ i, i < r → 0 < s.T i p → s.T a (m + r) / s.T a p < s.T i (m + r) / s.T i p ∨ (s.T a (m + r) / s.T a p = s.T i (m + r) / s.T i p ∧ s.b a ≤ s.b i)
theorem dmul {a b : Rat} (h : 0 < b) : a / b * b = a := by
  rw [Rat.div_mul_cancel]
  intro z; rw [z] at h; exact absurd h (by simp)
theorem Inv.turn {m r : Nat} {A : Nat → Nat → Rat} {s : St} (h : Inv m r A s) {a p : Nat} (l : Lv m r s a p) (hp : p < m + r) : Inv m r A (turn s a p) := by
  have ha := l.ha
  have hd : ∀ j, s.T a j / s.T a p * s.T a p = s.T a j := fun j => dmul l.pos
  have one : s.T a p / s.T a p = 1 := by have := hd p; have := l.pos; grind
  have rowR : ∀ j, j ≤ m + r → s.T a j / s.T a p = sm r fun k => s.T a (m + k) / s.T a p * A k j := fun j hj => by
    have e1 := h.R a j ha hj
    have e2 : sm r (fun k => s.T a (m + k) / s.T a p * A k j) = sm r (fun k => s.T a (m + k) * A k j) * (s.T a p)⁻¹ := by
      rw [← sm_mulR]
      exact sm_congr fun k _ => by rw [Rat.div_def]; grind
    rw [e2, ← e1, Rat.div_def]
  refine ⟨fun i j hi hj => ?_, fun k j hk hj => ?_, fun i k hi hk => ?_, fun i hi => ?_, fun i hi => ?_, fun j hj => ?_, fun i hi => ?_⟩
  · show (if i = a then _ else _) = sm r fun k => (if i = a then _ else _) * A k j
    by_cases e : i = a
    · simp only [if_pos e]
      exact rowR j hj
    · simp only [if_neg e]
      have e1 := h.R i j hi hj
      have e2 := rowR j hj
      have e3 : sm r (fun k => (s.T i (m + k) - s.T i p * (s.T a (m + k) / s.T a p)) * A k j) = sm r (fun k => s.T i (m + k) * A k j) - s.T i p * sm r (fun k => s.T a (m + k) / s.T a p * A k j) := by
        rw [← sm_mul, ← sm_sub]
        exact sm_congr fun k _ => by grind
      rw [e3, ← e1, ← e2]
  · show A k j = sm r fun i => A k (if i = a then p else s.b i) * (if i = a then _ else _)
    have e1 := h.R' k j hk hj
    have e2 := h.R' k p hk (by omega)
    rw [sm_pick ha] at e1 e2 ⊢
    simp only [if_true]
    have e3 : sm r (fun i => if i = a then 0 else A k (if i = a then p else s.b i) * (if i = a then s.T a j / s.T a p else s.T i j - s.T i p * (s.T a j / s.T a p))) = sm r (fun i => if i = a then 0 else A k (s.b i) * s.T i j) - (s.T a j / s.T a p) * sm r (fun i => if i = a then 0 else A k (s.b i) * s.T i p) := by
      rw [← sm_mul, ← sm_sub]
      refine sm_congr fun i _ => ?_
      by_cases e : i = a
      · simp only [if_pos e]; grind
      · simp only [if_neg e]; grind
    rw [e3]
    have := hd j
    grind
  · show (if i = a then s.T a (if k = a then p else s.b k) / s.T a p else s.T i (if k = a then p else s.b k) - s.T i p * (s.T a (if k = a then p else s.b k) / s.T a p)) = dl i k
    by_cases e2 : k = a
    · subst e2
      simp only [if_true]
      by_cases e : i = k
      · rw [if_pos e, one]; simp [dl, e]
      · rw [if_neg e, one]; simp [dl, e]; grind
    · simp only [if_neg e2]
      have z : s.T a (s.b k) = 0 := by rw [h.U a k ha hk]; unfold dl; rw [if_neg (Ne.symm e2)]
      have z2 : s.T a (s.b k) / s.T a p = 0 := by rw [z, Rat.div_def]; grind
      rw [z2]
      by_cases e : i = a
      · rw [if_pos e]; unfold dl; rw [if_neg (by omega)]
      · rw [if_neg e, h.U i k hi hk]; grind
  · show (if i = a then p else s.b i) < m + r
    by_cases e : i = a
    · rw [if_pos e]; exact hp
    · rw [if_neg e]; exact h.B i hi
  · show 0 ≤ (if i = a then s.T a (m + r) / s.T a p else s.T i (m + r) - s.T i p * (s.T a (m + r) / s.T a p))
    have n1 := h.N a ha
    have th : 0 ≤ s.T a (m + r) / s.T a p := by
      have := hd (m + r)
      have := l.pos
      refine Classical.byContradiction fun z => ?_
      have z : s.T a (m + r) / s.T a p < 0 := by grind
      have := Rat.mul_lt_mul_of_pos_right z l.pos
      grind
    by_cases e : i = a
    · rw [if_pos e]; exact th
    · rw [if_neg e]
      have n2 := h.N i hi
      by_cases q : 0 < s.T i p
      · have l2 := l.least i hi q
        have e3 : s.T i (m + r) / s.T i p * s.T i p = s.T i (m + r) := dmul q
        have le : s.T a (m + r) / s.T a p ≤ s.T i (m + r) / s.T i p := by grind
        have := Rat.mul_le_mul_of_nonneg_right le (show 0 ≤ s.T i p by grind)
        grind
      · have q : s.T i p ≤ 0 := by grind
        have := Rat.mul_le_mul_of_nonneg_right q th
        grind
  · show s.c j - s.c p * (s.T a j / s.T a p) = c0 m r A j + sm r fun k => (s.c (m + k) - s.c p * (s.T a (m + k) / s.T a p)) * A k j
    have e1 := h.C j hj
    have e2 := rowR j hj
    have e3 : sm r (fun k => (s.c (m + k) - s.c p * (s.T a (m + k) / s.T a p)) * A k j) = sm r (fun k => s.c (m + k) * A k j) - s.c p * sm r (fun k => s.T a (m + k) / s.T a p * A k j) := by
      rw [← sm_mul, ← sm_sub]
      exact sm_congr fun k _ => by grind
    rw [e3, ← e2]
    grind
  · show s.c (if i = a then p else s.b i) - s.c p * (s.T a (if i = a then p else s.b i) / s.T a p) = 0
    by_cases e : i = a
    · rw [if_pos e, one]; grind
    · rw [if_neg e, h.CB i hi]
      have z : s.T a (s.b i) = 0 := by rw [h.U a i ha hi]; unfold dl; rw [if_neg (Ne.symm e)]
      rw [z, Rat.div_def]; grind
end M57

set_option linter.all false
/-! ME: tableaus of one basis are one; Bland's rule ends. -/
namespace M57
section
variable {m r : Nat} {A : Nat → Nat → Rat}
/-- a row of one in rows of another -/
theorem Inv.rowIn {s s' : St} (h : Inv m r A s) (h' : Inv m r A s') {i j : Nat} (hi : i < r) (hj : j ≤ m + r) : s.T i j = sm r fun k => s.T i (s'.b k) * s'.T k j := by
  rw [h.R i j hi hj, sm_congr (g := fun k => sm r fun u => s.T i (m + k) * (A k (s'.b u) * s'.T u j)) fun k hk => by rw [sm_mul, ← h'.R' k j hk hj], sm_swap]
  refine sm_congr fun u hu => ?_
  have := h.R i (s'.b u) hi (by have := h'.B u hu; omega)
  rw [this, ← sm_mulR]
  exact sm_congr fun k _ => by grind
theorem Inv.costIn {s s' : St} (h : Inv m r A s) (h' : Inv m r A s') {j : Nat} (hj : j ≤ m + r) : s.c j = s'.c j + sm r fun k => s.c (s'.b k) * s'.T k j := by
  have e : ∀ j, j ≤ m + r → s.c j - s'.c j = sm r fun k => (s.c (m + k) - s'.c (m + k)) * A k j := fun j hj => by
    rw [h.C j hj, h'.C j hj]
    have : sm r (fun k => (s.c (m + k) - s'.c (m + k)) * A k j) = sm r (fun k => s.c (m + k) * A k j) - sm r (fun k => s'.c (m + k) * A k j) := by
      rw [← sm_sub]
      exact sm_congr fun k _ => by grind
    rw [this]; grind
  have e2 : s.c j - s'.c j = sm r fun u => (s.c (s'.b u) - s'.c (s'.b u)) * s'.T u j := by
    rw [e j hj, sm_congr (g := fun k => sm r fun u => (s.c (m + k) - s'.c (m + k)) * (A k (s'.b u) * s'.T u j)) fun k hk => by rw [sm_mul, ← h'.R' k j hk hj], sm_swap]
    refine sm_congr fun u hu => ?_
    rw [e (s'.b u) (by have := h'.B u hu; omega), ← sm_mulR]
    exact sm_congr fun k _ => by grind
  have e3 : sm r (fun u => (s.c (s'.b u) - s'.c (s'.b u)) * s'.T u j) = sm r fun u => s.c (s'.b u) * s'.T u j := sm_congr fun u hu => by rw [h'.CB u hu]; grind
  rw [e3] at e2
  grind
theorem Inv.same {s s' : St} (h : Inv m r A s) (h' : Inv m r A s') (e : ∀ i, i < r → s.b i = s'.b i) : (∀ i j, i < r → j ≤ m + r → s.T i j = s'.T i j) ∧ ∀ j, j ≤ m + r → s.c j = s'.c j := by
  refine ⟨fun i j hi hj => ?_, fun j hj => ?_⟩
  · rw [h.rowIn h' hi hj, sm_congr (g := fun k => dl i k * s'.T k j) fun k hk => by rw [← e k hk, h.U i k hi hk], sm_dl hi]
  · rw [h.costIn h' hj, sm_zero' fun k hk => by rw [← e k hk, h.CB k hk]; grind]; grind
/-- a turn by Bland's rule -/
structure Bl (m r : Nat) (s s' : St) (a p : Nat) : Prop where
  lv : Lv m r s a p
  ep : p < m
  neg : s.c p < 0
  first : ∀ j, j < p → 0 ≤ s.c j
  to : s' = turn s a p
/-- a way by Bland's rule -/
structure Way (m r : Nat) (A : Nat → Nat → Rat) (N : Nat) (S : Nat → St) (a p : Nat → Nat) : Prop where
  inv : ∀ t, t ≤ N → Inv m r A (S t)
  st : ∀ t, t < N → Bl m r (S t) (S (t + 1)) (a t) (p t)
theorem flip {P : Nat → Prop} {u v : Nat} (huv : u ≤ v) (h : P u) (h' : ¬ P v) : ∃ t, u ≤ t ∧ t < v ∧ P t ∧ ¬ P (t + 1) := by
  induction v with
  | zero => have : u = 0 := by omega
            subst this; exact absurd h h'
  | succ v ih =>
    by_cases q : P v
    · by_cases e : u ≤ v
      · exact ⟨v, e, Nat.lt_succ_self v, q, h'⟩
      · have : u = v + 1 := by omega
        subst this; exact absurd h h'
    · by_cases e : u ≤ v
      · obtain ⟨t, a, b, c, d⟩ := ih e q
        exact ⟨t, a, by omega, c, d⟩
      · have : u = v + 1 := by omega
        subst this; exact absurd h h'
section
variable {N : Nat} {S : Nat → St} {a p : Nat → Nat} (W : Way m r A N S a p)
include W
theorem Way.b_succ {t : Nat} (ht : t < N) (i : Nat) : (S (t + 1)).b i = if i = a t then p t else (S t).b i := by rw [(W.st t ht).to]; rfl
theorem Way.c_succ {t : Nat} (ht : t < N) (j : Nat) : (S (t + 1)).c j = (S t).c j - (S t).c (p t) * ((S t).T (a t) j / (S t).T (a t) (p t)) := by rw [(W.st t ht).to]; rfl
theorem Way.T_succ {t : Nat} (ht : t < N) (i j : Nat) : (S (t + 1)).T i j = if i = a t then (S t).T (a t) j / (S t).T (a t) (p t) else (S t).T i j - (S t).T i (p t) * ((S t).T (a t) j / (S t).T (a t) (p t)) := by rw [(W.st t ht).to]; rfl
theorem Way.th {t : Nat} (ht : t < N) : 0 ≤ (S t).T (a t) (m + r) / (S t).T (a t) (p t) := by
  have l := (W.st t ht).lv
  have n := (W.inv t (by omega)).N (a t) l.ha
  have d := dmul (a := (S t).T (a t) (m + r)) l.pos
  refine Classical.byContradiction fun z => ?_
  have z : (S t).T (a t) (m + r) / (S t).T (a t) (p t) < 0 := by grind
  have := Rat.mul_lt_mul_of_pos_right z l.pos
  grind
theorem Way.obj {t u : Nat} (h : t ≤ u) (hu : u ≤ N) : (S t).c (m + r) ≤ (S u).c (m + r) := by
  induction u with
  | zero => have : t = 0 := by omega
            subst this; exact Rat.le_refl
  | succ u ih =>
    by_cases e : t ≤ u
    · have h1 := ih e (by omega)
      have h2 := W.c_succ (show u < N by omega) (m + r)
      have h3 := W.th (show u < N by omega)
      have h4 := (W.st u (by omega)).neg
      have := Rat.mul_le_mul_of_nonneg_right (show (S u).c (p u) ≤ 0 by grind) h3
      grind
    · have : t = u + 1 := by omega
      subst this; exact Rat.le_refl
/-- between two of one basis no value changes -/
theorem Way.still {i0 j0 : Nat} (hj : j0 ≤ N) (e : ∀ i, i < r → (S i0).b i = (S j0).b i) {t : Nat} (h0 : i0 ≤ t) (h1 : t < j0) : (S t).T (a t) (m + r) / (S t).T (a t) (p t) = 0 := by
  have c1 := ((W.inv i0 (by omega)).same (W.inv j0 hj) e).2 (m + r) (Nat.le_refl _)
  have c2 := W.obj h0 (by omega)
  have c3 := W.obj (show t + 1 ≤ j0 by omega) hj
  have c4 := W.obj (show t ≤ t + 1 by omega) (by omega)
  have c5 := W.c_succ (show t < N by omega) (m + r)
  have c6 := (W.st t (by omega)).neg
  have c7 := W.th (show t < N by omega)
  refine Classical.byContradiction fun z => ?_
  have z : 0 < (S t).T (a t) (m + r) / (S t).T (a t) (p t) := by grind
  have := Rat.mul_lt_mul_of_pos_right c6 z
  grind
theorem Way.rhs {i0 j0 : Nat} (hj : j0 ≤ N) (e : ∀ i, i < r → (S i0).b i = (S j0).b i) {t : Nat} (h0 : i0 ≤ t) (h1 : t < j0) (i : Nat) : (S (t + 1)).T i (m + r) = (S t).T i (m + r) ∧ (S t).T (a t) (m + r) = 0 := by
  have z := W.still hj e h0 h1
  have l := (W.st t (by omega)).lv
  have d := dmul (a := (S t).T (a t) (m + r)) l.pos
  have q : (S t).T (a t) (m + r) = 0 := by rw [z] at d; grind
  refine ⟨?_, q⟩
  rw [W.T_succ (by omega), z]
  by_cases w : i = a t
  · rw [if_pos w, w, q]
  · rw [if_neg w]; grind
theorem Way.rhsAll {i0 j0 : Nat} (hj : j0 ≤ N) (e : ∀ i, i < r → (S i0).b i = (S j0).b i) {t : Nat} (h0 : i0 ≤ t) (h1 : t ≤ j0) (i : Nat) : (S t).T i (m + r) = (S i0).T i (m + r) := by
  induction t with
  | zero => have : i0 = 0 := by omega
            subst this; rfl
  | succ t ih =>
    by_cases q : i0 ≤ t
    · rw [(W.rhs hj e q (by omega) i).1, ih q (by omega)]
    · have : i0 = t + 1 := by omega
      subst this; rfl
/-- what stands in row i at u and is not in the basis at e comes in, in that row -/
theorem Way.enters {i0 j0 : Nat} (hj : j0 ≤ N) (e : ∀ i, i < r → (S i0).b i = (S j0).b i) {u x i : Nat} (u0 : i0 ≤ u) (u1 : u < j0) (x0 : i0 ≤ x) (x1 : x < j0) (hi : i < r) (nx : (S x).b i ≠ (S u).b i) : ∃ t, i0 ≤ t ∧ t < j0 ∧ a t = i ∧ p t = (S u).b i := by
  have go : ∀ y z, i0 ≤ y → y ≤ z → z ≤ j0 → (S y).b i ≠ (S u).b i → (S z).b i = (S u).b i → ∃ t, i0 ≤ t ∧ t < j0 ∧ a t = i ∧ p t = (S u).b i := fun y z hy yz hz ny nz => by
    obtain ⟨t, h1, h2, h3, h4⟩ := flip (P := fun t => (S t).b i ≠ (S u).b i) yz ny (fun w => w nz)
    have h4 : (S (t + 1)).b i = (S u).b i := Classical.byContradiction h4
    rw [W.b_succ (by omega)] at h4
    by_cases w : i = a t
    · rw [if_pos w] at h4
      exact ⟨t, by omega, by omega, w.symm, h4⟩
    · rw [if_neg w] at h4
      exact absurd h4 h3
  by_cases q : (S i0).b i = (S u).b i
  · exact go x j0 x0 (by omega) (Nat.le_refl _) nx (by rw [← e i hi]; exact q)
  · exact go i0 u (Nat.le_refl _) u0 (by omega) q rfl
omit W in
/-- the greatest that enters -/
theorem most {i0 j0 : Nat} (f : Nat → Nat) (h : i0 < j0) : ∃ t, i0 ≤ t ∧ t < j0 ∧ ∀ u, i0 ≤ u → u < j0 → f u ≤ f t := by
  induction j0 with
  | zero => omega
  | succ j0 ih =>
    by_cases q : i0 < j0
    · obtain ⟨t, h1, h2, h3⟩ := ih q
      by_cases w : f t ≤ f j0
      · exact ⟨j0, by omega, by omega, fun u u1 u2 => by
          by_cases e : u = j0
          · rw [e]; exact Nat.le_refl _
          · exact Nat.le_trans (h3 u u1 (by omega)) w⟩
      · exact ⟨t, h1, by omega, fun u u1 u2 => by
          by_cases e : u = j0
          · rw [e]; omega
          · exact h3 u u1 (by omega)⟩
    · have : i0 = j0 := by omega
      subst this
      refine ⟨i0, Nat.le_refl _, by omega, fun u u1 u2 => ?_⟩
      have : u = i0 := by omega
      rw [this]
      exact Nat.le_refl _
/-- no basis comes twice -/
theorem Way.once {i0 j0 : Nat} (hij : i0 < j0) (hj : j0 ≤ N) (e : ∀ i, i < r → (S i0).b i = (S j0).b i) : False := by
  obtain ⟨x, x0, x1, mx⟩ := most (i0 := i0) (j0 := j0) p hij
  -- q enters at x
  have bx := W.st x (by omega)
  have nin : ∀ t, t < N → ∀ i, i < r → (S t).b i ≠ p t := fun t ht i hi z => by
    have := (W.inv t (by omega)).CB i hi
    rw [z] at this
    have := (W.st t ht).neg
    grind
  have inX : ∃ i, i < r ∧ (S (x + 1)).b i = p x := ⟨a x, bx.lv.ha, by rw [W.b_succ (by omega), if_pos rfl]⟩
  have ninX : ¬ ∃ i, i < r ∧ (S x).b i = p x := fun ⟨i, hi, z⟩ => nin x (by omega) i hi z
  -- q leaves at some time
  have lv : ∃ l, i0 ≤ l ∧ l < j0 ∧ (∃ i, i < r ∧ (S l).b i = p x) ∧ ¬ ∃ i, i < r ∧ (S (l + 1)).b i = p x := by
    by_cases q : ∃ i, i < r ∧ (S j0).b i = p x
    · have q0 : ∃ i, i < r ∧ (S i0).b i = p x := by
        obtain ⟨i, hi, z⟩ := q
        exact ⟨i, hi, by rw [e i hi]; exact z⟩
      obtain ⟨t, h1, h2, h3, h4⟩ := flip (P := fun t => ∃ i, i < r ∧ (S t).b i = p x) x0 q0 ninX
      exact ⟨t, h1, by omega, h3, h4⟩
    · obtain ⟨t, h1, h2, h3, h4⟩ := flip (P := fun t => ∃ i, i < r ∧ (S t).b i = p x) (show x + 1 ≤ j0 by omega) inX q
      exact ⟨t, by omega, h2, h3, h4⟩
  obtain ⟨l, l0, l1, ⟨i, hi, bi⟩, out⟩ := lv
  have al : a l = i := by
    refine Classical.byContradiction fun z => out ⟨i, hi, ?_⟩
    rw [W.b_succ (by omega), if_neg fun w => z w.symm]
    exact bi
  have bl := W.st l (by omega)
  have Il := W.inv l (by omega)
  have Ix := W.inv x (by omega)
  have sq : p l < p x := by
    have h1 := mx l l0 l1
    have h2 : p l ≠ p x := fun z => nin l (by omega) i hi (by rw [bi, z])
    omega
  have cs : 0 ≤ (S x).c (p l) := bx.first _ sq
  have id := Ix.costIn Il (j := p l) (by have := bl.lv.hp; omega)
  rw [sm_pick hi] at id
  have n1 : (S x).c ((S l).b i) * (S l).T i (p l) < 0 := by
    rw [bi]
    have h1 := bx.neg
    have h2 := bl.lv.pos
    rw [al] at h2
    have := Rat.mul_lt_mul_of_pos_right h1 h2
    grind
  have n2 : 0 ≤ sm r (fun k => -(if k = i then 0 else (S x).c ((S l).b k) * (S l).T k (p l))) := by
    refine sm_nonneg fun k hk => ?_
    by_cases ki : k = i
    · rw [if_pos ki]; grind
    · rw [if_neg ki]
      by_cases basic : ∃ u, u < r ∧ (S x).b u = (S l).b k
      · obtain ⟨u, hu, z⟩ := basic
        have := Ix.CB u hu
        rw [z] at this
        rw [this]; grind
      · obtain ⟨t, t0, t1, ta, tp⟩ := W.enters hj e l0 l1 x0 x1 hk fun z => basic ⟨k, hk, z⟩
        have lt : (S l).b k < p x := by
          have h1 := mx t t0 t1
          rw [tp] at h1
          have h2 : (S l).b k ≠ p x := fun z => by
            have u1 := Il.U k k hk hk
            have u2 := Il.U k i hk hi
            rw [z] at u1
            rw [bi] at u2
            rw [u1] at u2
            simp [dl, ki] at u2
          omega
        have cv : 0 ≤ (S x).c ((S l).b k) := bx.first _ lt
        have zero : (S l).T k (m + r) = 0 := by
          rw [W.rhsAll hj e l0 (by omega) k, ← W.rhsAll hj e t0 (by omega) k, ← ta]
          exact (W.rhs hj e t0 t1 k).2
        have np : (S l).T k (p l) ≤ 0 := by
          refine Classical.byContradiction fun z => ?_
          have z : 0 < (S l).T k (p l) := by grind
          have st := W.still hj e l0 l1
          have q0 : (S l).T k (m + r) / (S l).T k (p l) = 0 := by rw [zero, Rat.div_def]; grind
          rcases bl.lv.least k hk z with w | ⟨_, w⟩
          · rw [st, q0] at w; exact absurd w (by simp)
          · rw [al, bi] at w; omega
        have := Rat.mul_le_mul_of_nonneg_left np cv
        grind
  have n3 : sm r (fun k => -(if k = i then 0 else (S x).c ((S l).b k) * (S l).T k (p l))) = -(sm r (fun k => if k = i then 0 else (S x).c ((S l).b k) * (S l).T k (p l))) := by
    have : sm r (fun k => -(if k = i then 0 else (S x).c ((S l).b k) * (S l).T k (p l))) = sm r (fun k => (-1 : Rat) * (if k = i then 0 else (S x).c ((S l).b k) * (S l).T k (p l))) := sm_congr fun k _ => by grind
    rw [this, sm_mul]; grind
  have n4 := bl.neg
  grind
end
end
end M57

set_option linter.all false
/-! MF: how many turns; what the end tells; sizes. -/
namespace M57
theorem pigeon : ∀ (n : Nat) (f : Nat → Nat), (∀ i, i ≤ n → f i < n) → ∃ i j, i < j ∧ j ≤ n ∧ f i = f j
  | 0, f, h => absurd (h 0 (Nat.le_refl 0)) (by omega)
  | n + 1, f, h => by
    by_cases q : ∃ i, i ≤ n ∧ f i = f (n + 1)
    · obtain ⟨i, hi, e⟩ := q
      exact ⟨i, n + 1, by omega, Nat.le_refl _, e⟩
    · have q : ∀ i, i ≤ n → f i ≠ f (n + 1) := fun i hi e => q ⟨i, hi, e⟩
      obtain ⟨i, j, ij, jn, e⟩ := pigeon n (fun i => if f i = n then f (n + 1) else f i) fun i hi => by
        have h1 := h i (by omega)
        have h2 := h (n + 1) (Nat.le_refl _)
        have h3 := q i hi
        show (if f i = n then f (n + 1) else f i) < n
        split <;> omega
      refine ⟨i, j, ij, by omega, ?_⟩
      have q1 := q i (by omega)
      have q2 := q j (by omega)
      revert e
      show (if f i = n then f (n + 1) else f i) = (if f j = n then f (n + 1) else f j) → _
      split <;> split <;> intro e <;> omega
def enc (W : Nat) (b : Nat → Nat) : Nat → Nat
  | 0 => 0
  | r + 1 => enc W b r * W + b r
theorem enc_lt {W : Nat} {b : Nat → Nat} : ∀ r : Nat, (∀ i, i < r → b i < W) → enc W b r < W ^ r
  | 0, _ => by simp [enc]
  | r + 1, h => by
    have h1 := enc_lt r fun i hi => h i (by omega)
    have h2 := h r (by omega)
    have h3 : (enc W b r + 1) * W ≤ W ^ r * W := Nat.mul_le_mul_right W h1
    have h4 : (enc W b r + 1) * W = enc W b r * W + W := by rw [Nat.add_mul, Nat.one_mul]
    show enc W b r * W + b r < W ^ r * W
    omega
theorem enc_inj {W : Nat} {b b' : Nat → Nat} : ∀ r : Nat, (∀ i, i < r → b i < W) → (∀ i, i < r → b' i < W) → enc W b r = enc W b' r → ∀ i, i < r → b i = b' i
  | 0, _, _, _, i, hi => by omega
  | r + 1, h, h', e, i, hi => by
    have e : enc W b r * W + b r = enc W b' r * W + b' r := e
    have h1 := h r (by omega)
    have h2 := h' r (by omega)
    have hW : 0 < W := by omega
    have m1 : b r = b' r := by
      have := congrArg (· % W) e
      simp only [Nat.mul_add_mod_self_right, Nat.mod_eq_of_lt h1, Nat.mod_eq_of_lt h2] at this
      exact this
    have m2 : enc W b r = enc W b' r := by
      have : enc W b r * W = enc W b' r * W := by omega
      exact Nat.eq_of_mul_eq_mul_right hW this
    by_cases q : i = r
    · rw [q]; exact m1
    · exact enc_inj r (fun i hi => h i (by omega)) (fun i hi => h' i (by omega)) m2 i (by omega)
section
variable {m r : Nat} {A : Nat → Nat → Rat}
/-- there are fewer turns than bases -/
theorem Way.few {N : Nat} {S : Nat → St} {a p : Nat → Nat} (W : Way m r A N S a p) : N < (m + r) ^ r := by
  refine Classical.byContradiction fun z => ?_
  have z : (m + r) ^ r ≤ N := by omega
  obtain ⟨i, j, ij, jn, e⟩ := pigeon ((m + r) ^ r) (fun t => if t ≤ N then enc (m + r) (S t).b r else 0) fun t ht => by
    rw [if_pos (by omega)]
    exact enc_lt r (W.inv t (by omega)).B
  rw [if_pos (by omega), if_pos (by omega)] at e
  exact W.once ij (by omega) (enc_inj r (W.inv i (by omega)).B (W.inv j (by omega)).B e)
/-- a cost by the rows whose basis is behind the columns -/
theorem Inv.cost {s : St} (g : Ini m r A) (h : Inv m r A s) {j : Nat} (hj : j < m ∨ j = m + r) : s.c j = -(sm r fun i => if m ≤ s.b i then s.T i j else 0) := by
  have hj' : j ≤ m + r := by omega
  have q0 : c0 m r A j = -(sm r fun i => A i j) := by unfold c0; rw [if_neg (by omega)]
  have e1 : sm r (fun i => A i j) = sm r fun i => (sm r fun k => A k (s.b i)) * s.T i j := by
    rw [sm_congr (g := fun k => sm r fun i => A k (s.b i) * s.T i j) fun k hk => h.R' k j hk hj', sm_swap]
    exact sm_congr fun i _ => by rw [← sm_mulR]
  have e2 : sm r (fun k => s.c (m + k) * A k j) = sm r fun i => (s.c (s.b i) - c0 m r A (s.b i)) * s.T i j := by
    rw [sm_congr (g := fun k => sm r fun i => s.c (m + k) * (A k (s.b i) * s.T i j)) fun k hk => by rw [sm_mul, ← h.R' k j hk hj'], sm_swap]
    refine sm_congr fun i hi => ?_
    have := h.C (s.b i) (by have := h.B i hi; omega)
    have e3 : sm r (fun k => s.c (m + k) * (A k (s.b i) * s.T i j)) = sm r (fun k => s.c (m + k) * A k (s.b i)) * s.T i j := by
      rw [← sm_mulR]
      exact sm_congr fun k _ => by grind
    rw [e3]; grind
  rw [h.C j hj', q0, e1, e2]
  have e4 : sm r (fun i => if m ≤ s.b i then s.T i j else 0) = sm r (fun i => (sm r fun k => A k (s.b i)) * s.T i j) - sm r (fun i => (s.c (s.b i) - c0 m r A (s.b i)) * s.T i j) := by
    rw [← sm_sub]
    refine sm_congr fun i hi => ?_
    rw [h.CB i hi]
    by_cases q : m ≤ s.b i
    · rw [if_pos q]
      have hb := h.B i hi
      have z : c0 m r A (s.b i) = 0 := by unfold c0; rw [if_pos ⟨q, hb⟩]
      have z2 : sm r (fun k => A k (s.b i)) = 1 := by
        have e : s.b i = m + (s.b i - m) := by omega
        rw [e, sm_congr (g := fun k => dl (s.b i - m) k * 1) fun k hk => by rw [g.un k _ hk (by omega)]; unfold dl; by_cases w : k = s.b i - m <;> simp [w] <;> (try intro z; exact absurd z.symm w), sm_dl (by omega)]
      rw [z, z2]; grind
    · rw [if_neg q]
      have z : c0 m r A (s.b i) = -(sm r fun k => A k (s.b i)) := by unfold c0; rw [if_neg (by omega)]
      rw [z]; grind
  rw [e4]; grind
/-- some row may leave -/
theorem Inv.leaves {s : St} (g : Ini m r A) (h : Inv m r A s) {p : Nat} (hp : p < m) (hc : s.c p < 0) : ∃ i, i < r ∧ 0 < s.T i p := by
  refine Classical.byContradiction fun z => ?_
  have z : ∀ i, i < r → s.T i p ≤ 0 := fun i hi => by
    have : ¬ 0 < s.T i p := fun w => z ⟨i, hi, w⟩
    grind
  have e := h.cost g (.inl hp)
  have n : 0 ≤ sm r (fun i => -(if m ≤ s.b i then s.T i p else 0)) := sm_nonneg fun i hi => by
    have := z i hi
    split <;> grind
  have n2 : sm r (fun i => -(if m ≤ s.b i then s.T i p else 0)) = -(sm r fun i => if m ≤ s.b i then s.T i p else 0) := by
    have : sm r (fun i => -(if m ≤ s.b i then s.T i p else 0)) = sm r (fun i => (-1 : Rat) * (if m ≤ s.b i then s.T i p else 0)) := sm_congr fun i _ => by grind
    rw [this, sm_mul]; grind
  grind
/-- the cost of the goal -/
theorem Inv.goal {s : St} (g : Ini m r A) (h : Inv m r A s) : s.c (m + r) ≤ 0 ∧ (s.c (m + r) = 0 → ∀ i, i < r → m ≤ s.b i → s.T i (m + r) = 0) := by
  have e := h.cost g (j := m + r) (.inr rfl)
  have nn : ∀ i, i < r → 0 ≤ (if m ≤ s.b i then s.T i (m + r) else 0) := fun i hi => by
    have := h.N i hi
    split <;> grind
  have n := sm_nonneg nn
  refine ⟨by grind, fun z i hi hb => ?_⟩
  have := sm_each nn (by grind) i hi
  rw [if_pos hb] at this
  exact this
/-- the prices -/
theorem Inv.price {s : St} (h : Inv m r A s) {j : Nat} (hj : j < m ∨ j = m + r) : sm r (fun k => (1 - s.c (m + k)) * A k j) = -s.c j := by
  have e := h.C j (by omega)
  have q0 : c0 m r A j = -(sm r fun i => A i j) := by unfold c0; rw [if_neg (by omega)]
  have : sm r (fun k => (1 - s.c (m + k)) * A k j) = sm r (fun k => A k j) - sm r (fun k => s.c (m + k) * A k j) := by
    rw [← sm_sub]
    exact sm_congr fun k _ => by grind
  rw [this]; grind
end
end M57

set_option linter.all false
/-! MG: parts; sizes. -/
namespace M57
section
variable {m r : Nat} {A : Nat → Nat → Rat}
theorem mul_den (x : Rat) : x * ((x.den : Int) : Rat) = (x.num : Rat) := by
  have e := Rat.num_divInt_den x
  rw [Rat.divInt_eq_div] at e
  have dn : (((x.den : Int) : Int) : Rat) ≠ 0 := by
    intro z
    have : (x.den : Int) = 0 := by exact_mod_cast z
    have := x.den_nz
    omega
  have := Rat.div_mul_cancel (a := (x.num : Rat)) dn
  rw [e] at this
  exact this
theorem Inv.part {s : St} (g : Ini m r A) (h : Inv m r A s) (z : s.c (m + r) = 0) {k : Nat} (hk : k < r) : A k (m + r) = sm r fun i => if s.b i < m then A k (s.b i) * s.T i (m + r) else 0 := by
  rw [h.R' k (m + r) hk (Nat.le_refl _)]
  refine sm_congr fun i hi => ?_
  by_cases q : s.b i < m
  · rw [if_pos q]
  · rw [if_neg q, (h.goal g).2 z i hi (by omega)]; grind
/-- whole numbers, not too great -/
def Wh (m r : Nat) (A : Nat → Nat → Rat) (a : Int) : Prop := ∀ i j, i < r → j ≤ m + r → ∃ n : Int, A i j = n ∧ -a ≤ n ∧ n ≤ a
theorem Ov.of_int {d c : Int} (n : Int) (h1 : -c ≤ n) (h2 : n ≤ c) : Ov d (c * d.natAbs) (n : Rat) := by
  refine ⟨d * n, by rw [Rat.intCast_mul], ?_, ?_⟩
  · have n1 : n.natAbs ≤ c.natAbs := by omega
    have n3 : (d * n).natAbs ≤ c.natAbs * d.natAbs := by rw [Int.natAbs_mul, Nat.mul_comm]; exact Nat.mul_le_mul_right _ n1
    have : (c.natAbs * d.natAbs : Nat) = c * (d.natAbs : Int) := by rw [Int.natCast_mul]; congr 1; omega
    omega
  · have n1 : n.natAbs ≤ c.natAbs := by omega
    have n3 : (d * n).natAbs ≤ c.natAbs * d.natAbs := by rw [Int.natAbs_mul, Nat.mul_comm]; exact Nat.mul_le_mul_right _ n1
    have : (c.natAbs * d.natAbs : Nat) = c * (d.natAbs : Int) := by rw [Int.natCast_mul]; congr 1; omega
    omega
theorem Ov.add {d b c : Int} {x y : Rat} (h : Ov d b x) (h' : Ov d c y) : Ov d (b + c) (x + y) := by
  obtain ⟨n, e, h1, h2⟩ := h
  obtain ⟨n', e', h1', h2'⟩ := h'
  exact ⟨n + n', by rw [Rat.intCast_add]; grind, by omega, by omega⟩
/-- all entries over one number -/
theorem Inv.sizes {s : St} (g : Ini m r A) (h : Inv m r A s) (hr : r ≤ 8) {a : Int} (ha : 1 ≤ a) (w : Wh m r A a) : ∃ d : Int, d ≠ 0 ∧ -(bd r a) ≤ d ∧ d ≤ bd r a ∧
    (∀ i j, i < r → j ≤ m + r → Ov d (64 * a * a * a * bd r a) (s.T i j)) ∧ ∀ j, j ≤ m + r → Ov d (8192 * a * a * a * bd r a) (s.c j) := by
  have whB : ∀ i j, ∃ n : Int, i < r → j < r → A i (s.b j) = n ∧ -a ≤ n ∧ n ≤ a := fun i j => by
    by_cases q : i < r ∧ j < r
    · obtain ⟨n, e⟩ := w i (s.b j) q.1 (by have := h.B j q.2; omega)
      exact ⟨n, fun _ _ => e⟩
    · exact ⟨0, fun h1 h2 => absurd ⟨h1, h2⟩ q⟩
  obtain ⟨d, d0, d1, d2, hd⟩ := inv_bd r hr ha (fun i j => (whB i j).choose) (fun i k => s.T i (m + k)) (fun i j hi hj => ((whB i j).choose_spec hi hj).2) ⟨fun i k hi hk => by
      rw [sm_congr (g := fun j => s.T i (m + j) * A j (s.b k)) fun j hj => by rw [((whB j k).choose_spec hj hk).1], ← h.R i (s.b k) hi (by have := h.B k hk; omega)]
      exact h.U i k hi hk, fun j k hj hk => by
      rw [sm_congr (g := fun i => A j (s.b i) * s.T i (m + k)) fun i hi => by rw [((whB j i).choose_spec hj hi).1], ← h.R' j (m + k) hj (by omega)]
      exact g.un j k hj hk⟩
  have bp := bd_pos r ha
  generalize bd r a = b at *
  have r8 : (r : Int) ≤ 8 := by omega
  have r0 : (0 : Int) ≤ r := Int.natCast_nonneg r
  have b0 : 0 ≤ b := by omega
  have ab : 0 ≤ a * b := Int.mul_nonneg (by omega) b0
  have ab1 : b ≤ a * b := by have := Int.mul_le_mul_of_nonneg_right ha b0; omega
  have aab : a * b ≤ a * (a * b) := by have := Int.mul_le_mul_of_nonneg_right ha ab; omega
  have aab0 : 0 ≤ a * (a * b) := Int.mul_nonneg (by omega) ab
  have aaab : a * (a * b) ≤ a * (a * (a * b)) := by have := Int.mul_le_mul_of_nonneg_right ha aab0; omega
  have e1 : 64 * a * a * a * b = 64 * (a * (a * (a * b))) := by grind
  have e2 : 8192 * a * a * a * b = 8192 * (a * (a * (a * b))) := by grind
  rw [e1, e2]
  have up : ∀ x : Int, 0 ≤ x → (r : Int) * x ≤ 8 * x := fun x hx => Int.mul_le_mul_of_nonneg_right r8 hx
  -- a sum over the rows of whole numbers times numbers over d
  have sums : ∀ (f : Nat → Nat → Rat) (j : Nat) (c : Int), 0 ≤ c → (∀ k, k < r → Ov d c (f k j)) → j ≤ m + r → Ov d (8 * (a * c)) (sm r fun k => f k j * A k j) := fun f j c hc hf hj => by
    refine Ov.le (ov_sm (b := a * c) fun k hk => ?_) (up _ (Int.mul_nonneg (by omega) hc))
    obtain ⟨n, en, n1, n2⟩ := w k j hk hj
    rw [en]
    have := (hf k hk).mulI n1 n2 hc
    rwa [Rat.mul_comm]
  refine ⟨d, d0, d1, d2, fun i j hi hj => ?_, fun j hj => ?_⟩
  · rw [h.R i j hi hj]
    exact (sums (fun k _ => s.T i (m + k)) j b b0 (fun k hk => hd i k hi hk) hj).le (by omega)
  · have c0w : ∀ j, j ≤ m + r → ∃ n : Int, c0 m r A j = n ∧ -(8 * a) ≤ n ∧ n ≤ 8 * a := fun j hj => by
      unfold c0
      by_cases q : m ≤ j ∧ j < m + r
      · rw [if_pos q]; exact ⟨0, by simp, by omega, by omega⟩
      · rw [if_neg q]
        obtain ⟨n, en, n1, n2⟩ := sm_int (r := r) (f := fun i => A i j) (d := 1) (b := a) fun i hi => by
          obtain ⟨n, en, n1, n2⟩ := w i j hi hj
          exact ⟨n, by rw [en]; grind, n1, n2⟩
        have := up a (by omega)
        refine ⟨-n, ?_, by omega, by omega⟩
        rw [Rat.intCast_neg, ← en]; grind
    have lam : ∀ k, k < r → Ov d (8 * (8 * a * b)) (s.c (m + k)) := fun k hk => by
      have e3 : s.c (m + k) = sm r fun i => -(c0 m r A (s.b i)) * s.T i (m + k) := by
        have q1 : s.c (m + k) = sm r fun u => s.c (m + u) * A u (m + k) := by
          rw [sm_congr (g := fun u => dl k u * s.c (m + u)) fun u hu => by rw [g.un u k hu hk]; unfold dl; by_cases z : u = k; (subst z; simp); (rw [if_neg z, if_neg (Ne.symm z)]; grind), sm_dl hk]
        rw [q1, sm_congr (g := fun u => sm r fun i => s.c (m + u) * (A u (s.b i) * s.T i (m + k))) fun u hu => by rw [sm_mul, ← h.R' u (m + k) hu (by omega)], sm_swap]
        refine sm_congr fun i hi => ?_
        have q2 := h.C (s.b i) (by have := h.B i hi; omega)
        rw [h.CB i hi] at q2
        have q3 : sm r (fun u => s.c (m + u) * (A u (s.b i) * s.T i (m + k))) = sm r (fun u => s.c (m + u) * A u (s.b i)) * s.T i (m + k) := by
          rw [← sm_mulR]
          exact sm_congr fun u _ => by grind
        rw [q3]; grind
      rw [e3]
      refine Ov.le (ov_sm (b := 8 * a * b) fun i hi => ?_) (up _ (by rw [Int.mul_assoc]; omega))
      obtain ⟨n, en, n1, n2⟩ := c0w (s.b i) (by have := h.B i hi; omega)
      have := (hd i k hi hk).mulI (c := -n) (A := 8 * a) (by omega) (by omega) b0
      rw [Rat.intCast_neg] at this
      rwa [en]
    have e3 : 8 * a * b = 8 * (a * b) := Int.mul_assoc _ _ _
    rw [e3] at lam
    have q1 := sums (fun k _ => s.c (m + k)) j (8 * (8 * (a * b))) (by omega) (fun k hk => lam k hk) hj
    obtain ⟨n, en, n1, n2⟩ := c0w j hj
    have q2 := Ov.of_int (d := d) n n1 n2
    have q3 : 8 * a * (d.natAbs : Int) ≤ 8 * (a * b) := by
      have : (d.natAbs : Int) ≤ b := by omega
      have := Int.mul_le_mul_of_nonneg_left this (show 0 ≤ 8 * a by omega)
      have : 8 * a * b = 8 * (a * b) := Int.mul_assoc _ _ _
      omega
    rw [h.C j hj, en]
    refine ((q2.le q3).add q1).le ?_
    have q4 : a * (8 * (8 * (a * b))) = 64 * (a * (a * b)) := by grind
    omega
/-- what is over d has no great parts -/
theorem Ov.parts {d b : Int} {x : Rat} (h : Ov d b x) (hd : d ≠ 0) : x.num.natAbs ≤ b.natAbs ∧ x.den ≤ d.natAbs := by
  obtain ⟨n, e, h1, h2⟩ := h
  -- d * num = n * den
  have e2 : d * x.num = n * (x.den : Int) := by
    have q := mul_den x
    have : ((d * x.num : Int) : Rat) = ((n * (x.den : Int) : Int) : Rat) := by
      rw [Rat.intCast_mul, Rat.intCast_mul]
      show (d : Rat) * (x.num : Rat) = (n : Rat) * ((x.den : Int) : Rat)
      rw [← e, ← q]; grind
    exact_mod_cast this
  have cop := x.reduced
  have dd : x.den ∣ d.natAbs := by
    have : x.den ∣ d.natAbs * x.num.natAbs := by
      rw [← Int.natAbs_mul, e2, Int.natAbs_mul]
      exact ⟨n.natAbs, by simp [Nat.mul_comm]⟩
    exact Nat.Coprime.dvd_of_dvd_mul_right cop.symm this
  have dn : x.num.natAbs ∣ n.natAbs := by
    have : x.num.natAbs ∣ n.natAbs * x.den := by
      have e4 : (n * (x.den : Int)).natAbs = n.natAbs * x.den := by rw [Int.natAbs_mul]; simp
      rw [← e4, ← e2, Int.natAbs_mul]
      exact ⟨d.natAbs, Nat.mul_comm _ _⟩
    exact Nat.Coprime.dvd_of_dvd_mul_right cop this
  refine ⟨?_, Nat.le_of_dvd (by omega) dd⟩
  by_cases z : n = 0
  · subst z
    have : x.num = 0 := by
      have : d * x.num = 0 := by rw [e2]; simp
      rcases Int.mul_eq_zero.mp this with q | q
      · exact absurd q hd
      · exact q
    rw [this]; simp
  · have := Nat.le_of_dvd (by omega) dn
    omega
end
end M57

set_option linter.all false
set_option maxRecDepth 100000
/-! WA: the fractions' defs. -/
namespace W57
open VI M57 L57

/-! ### the interpreter's small steps -/
theorem ok_bd {α β : Type} (a : α) (h : Hp) (f : α → Hp → R β) : (R.ok a h).bd f = f a h := rfl
theorem b_add (i j : Int) (h : Hp) : bin2 .add (.int i) (.int j) h = .ok (.int (i + j)) h := rfl
theorem b_sub (i j : Int) (h : Hp) : bin2 .sub (.int i) (.int j) h = .ok (.int (i - j)) h := rfl
theorem b_mul (i j : Int) (h : Hp) (c : bits i + bits j < 1000000) : bin2 .mul (.int i) (.int j) h = .ok (.int (i * j)) h := by
  have : Nat.blt (bits i + bits j) 1000000 = true := by simpa [Nat.blt_eq] using c
  simp only [bin2, this, cond_true]
theorem b_fdiv (i j : Int) (h : Hp) (p : 0 < j) (c : j.natAbs.log2 < 9000) : bin2 .fdiv (.int i) (.int j) h = .ok (.int (i / j)) h := by
  cases j with
  | negSucc k => exact absurd p (by omega)
  | ofNat k =>
    cases k with
    | zero => exact absurd p (by decide)
    | succ k =>
      have c : (k + 1).log2 < 9000 := c
      have : Nat.blt (k + 1).log2 9000 = true := by simpa [Nat.blt_eq] using c
      simp only [bin2, this, cond_true]
theorem b_mod (i j : Int) (h : Hp) (p : 0 < j) : bin2 .mod (.int i) (.int j) h = .ok (.int (i % j)) h := by
  cases j with
  | negSucc k => exact absurd p (by omega)
  | ofNat k =>
    cases k with
    | zero => exact absurd p (by decide)
    | succ k => rfl
theorem bits_lt {i : Int} {n : Nat} (h : i.natAbs < 2 ^ n) (hn : 0 < n) : bits i < n := by
  unfold bits
  by_cases z : i.natAbs = 0
  · rw [z]; exact hn
  · exact (Nat.log2_lt z).mpr h

section
variable {lf : Nat} (hl : 300000 ≤ lf)
theorem run_succ (g : G) (lf k f : Nat) (ds : List D) (h : Hp) : run g lf (k + 1) f ds h = stepR g lf (run g lf k) (runAt g lf k) f ds h := rfl

/-! ### common -/
theorem to_int {y : Int} {n : Nat} (y0 : 0 ≤ y) (h : y.natAbs < 2 ^ n) : y < 2 ^ n := by
  have h1 : ((y.natAbs : Nat) : Int) < ((2 ^ n : Nat) : Int) := Int.ofNat_lt.mpr h
  rw [Int.natCast_pow] at h1
  have h2 : ((y.natAbs : Nat) : Int) = y := by omega
  rw [h2] at h1
  exact h1
theorem g_mod (x y : Int) : Int.gcd y (x % y) = Int.gcd x y := by
  rw [← Int.gcd_mul_left_add_right y (x % y) (x / y), Int.mul_ediv_add_emod, Int.gcd_comm]
theorem whl_t {c : Env → Hp → R D} {b : Env → Hp → R Fl} {f : Nat} {e e' : Env} {h h' : Hp} (hc : c e h = .ok (.bl true) h) (hb : b e h = .ok (.nx e') h') : whlGo c b (f + 1) e h = whlGo c b f e' h' := by
  simp only [whlGo]
  rw [hc]
  show (b e h).bd _ = _
  rw [hb]
theorem whl_f {c : Env → Hp → R D} {b : Env → Hp → R Fl} {f : Nat} {e : Env} {h : Hp} (hc : c e h = .ok (.bl false) h) : whlGo c b (f + 1) e h = .ok (.nx e) h := by
  simp only [whlGo]
  rw [hc]
  rfl

theorem common_go (c : Env → Hp → R D) (b : Env → Hp → R Fl) (hc : ∀ x y h, c [some (.int x), some (.int y)] h = .ok (.bl (!(y == 0))) h) (hb : ∀ x y h, 0 < y → b [some (.int x), some (.int y)] h = .ok (.nx [some (.int y), some (.int (x % y))]) h) :
    ∀ (n : Nat) (x y : Int) (f : Nat) (h : Hp), 0 ≤ y → y < 2 ^ n → 2 * n + 2 ≤ f → ∃ z : Int, whlGo c b f [some (.int x), some (.int y)] h = .ok (.nx [some (.int z), some (.int 0)]) h ∧ z.natAbs = Int.gcd x y := by
  have t : ∀ (x y : Int) (h : Hp) (f : Nat), 0 < y → whlGo c b (f + 1) [some (.int x), some (.int y)] h = whlGo c b f [some (.int y), some (.int (x % y))] h := fun x y h f yp =>
    whl_t (by rw [hc]; have : (!(y == 0)) = true := by simp; omega
              rw [this]) (hb x y h yp)
  have z : ∀ (x : Int) (h : Hp) (f : Nat), whlGo c b (f + 1) [some (.int x), some (.int 0)] h = .ok (.nx [some (.int x), some (.int 0)]) h := fun x h f => whl_f (by rw [hc]; rfl)
  intro n
  induction n with
  | zero =>
    intro x y f h y0 y1 hf
    have : y = 0 := by omega
    subst this
    cases f with
    | zero => omega
    | succ f => exact ⟨x, z x h f, by simp⟩
  | succ n ih =>
    intro x y f h y0 y1 hf
    cases f with
    | zero => omega
    | succ f =>
      by_cases e : y = 0
      · subst e
        exact ⟨x, z x h f, by simp⟩
      · have yp : 0 < y := by omega
        have m0 := Int.emod_nonneg x e
        have m1 := Int.emod_lt_of_pos x yp
        rw [t x y h f yp]
        cases f with
        | zero => omega
        | succ f =>
          by_cases e2 : x % y = 0
          · exact ⟨y, by rw [e2]; exact z y h f, by rw [← g_mod x y, e2]; simp⟩
          · have cp : 0 < x % y := by omega
            have k0 := Int.emod_nonneg y e2
            have k1 := Int.emod_lt_of_pos y cp
            rw [t y (x % y) h f cp]
            have half : y % (x % y) < 2 ^ n := by
              have q : y % (x % y) ≤ y - x % y := by
                have e5 := Int.mul_ediv_add_emod y (x % y)
                have d1 : 1 ≤ y / (x % y) := (Int.le_ediv_iff_mul_le cp).mpr (by omega)
                have := Int.mul_le_mul_of_nonneg_left d1 (show 0 ≤ x % y by omega)
                omega
              have : (2 : Int) ^ (n + 1) = 2 * 2 ^ n := by rw [Int.pow_succ]; omega
              omega
            obtain ⟨w, hw, gw⟩ := ih (x % y) (y % (x % y)) f h k0 half (by omega)
            exact ⟨w, hw, by rw [gw, g_mod, g_mod]⟩
include hl in
theorem r_common (k : Nat) (x y : Int) (h : Hp) (y0 : 0 ≤ y) (y1 : y.natAbs < 2 ^ 10000) : run gg lf (k + 1) 2 [.int x, .int y] h = .ok (.int (Int.gcd x y : Nat)) h := by
  rw [run_succ]
  have hc : ∀ x y h, ev gg (run gg lf k) (runAt gg lf k) lf (.cmp .ne (.slot 1) (.cst (.int 0))) [some (.int x), some (.int y)] h = .ok (.bl (!(y == 0))) h := fun x y h => rfl
  have hb : ∀ x y h, 0 < y → ex gg (run gg lf k) (runAt gg lf k) lf (.seq (.par 0 1 (.slot 1) (.bin .mod (.slot 0) (.slot 1))) .nil) [some (.int x), some (.int y)] h = .ok (.nx [some (.int y), some (.int (x % y))]) h := fun x y h yp => by
    simp only [ex, ev, getS, nth, ofO, R.bd, b_mod x y h yp, setS]
  obtain ⟨z, hz, gz⟩ := common_go _ _ hc hb 10000 x y lf h y0 (to_int y0 y1) (by omega)
  show (((whlGo _ _ lf [some (.int x), some (.int y)] h).bd _).bd _) = _
  rw [hz]
  show (R.ok (D.int (if z < 0 then -z else z)) h : R D) = _
  rw [← gz]
  congr 2
  split <;> omega
end
end W57

set_option linter.all false
set_option maxRecDepth 100000
/-! WB: reduced, added, difference, product, quotient, less. -/
namespace W57
open VI M57 L57
def fr (q : Rat) : D := .tup [.int q.num, .int (q.den : Int)]
/-- no great parts -/
def Sz (n : Nat) (q : Rat) : Prop := q.num.natAbs < 2 ^ n ∧ q.den < 2 ^ n
theorem Sz.le {n m : Nat} {q : Rat} (h : Sz n q) (hm : n ≤ m) : Sz m q :=
  ⟨Nat.lt_of_lt_of_le h.1 (Nat.pow_le_pow_right (by omega) hm), Nat.lt_of_lt_of_le h.2 (Nat.pow_le_pow_right (by omega) hm)⟩
theorem fr_div {t l : Int} (hl : 0 < l) : fr ((t : Rat) / (l : Rat)) = .tup [.int (t / (Int.gcd t l : Nat)), .int (l / (Int.gcd t l : Nat))] := by
  obtain ⟨d, rfl⟩ : ∃ d : Nat, l = d := ⟨l.toNat, by omega⟩
  have d0 : d ≠ 0 := by omega
  have e : (t : Rat) / ((d : Int) : Rat) = mkRat t d := by rw [Rat.mkRat_eq_div, Rat.intCast_natCast]
  have g : d.gcd t.natAbs = Int.gcd t d := by rw [Nat.gcd_comm]; rfl
  rw [e]
  unfold fr
  rw [Rat.num_mkRat, Rat.den_mkRat, if_neg d0, if_neg d0, g]
  rw [Int.natCast_ediv]
section
variable {lf : Nat} (hl : 300000 ≤ lf)
theorem call_of {k fi : Nat} {i : FI} {ds : List D} {h : Hp} (hf : nth gg.fns fi = some i) (hn : (ds.length == i.many) = true) : run gg lf (k + 1) fi ds h = (ex gg (run gg lf k) (runAt gg lf k) lf i.body (begin ds i.names) h).bd fun r h1 => match r with
    | .nx _ => .ok .non h1
    | .rt d => .ok d h1
    | _ => .bad := by
  rw [run_succ]
  unfold stepR
  rw [hf]
  (simp only [hn, cond_true]) <;> rfl
include hl in
theorem r_reduced (k : Nat) (t l : Int) (h : Hp) (l0 : 0 < l) (l1 : l.natAbs < 2 ^ 8999) : run gg lf (k + 2) 3 [.int t, .int l] h = .ok (fr ((t : Rat) / (l : Rat))) h := by
  rw [call_of (i := ⟨2, 3, b3⟩) rfl rfl, fr_div l0]
  have c := r_common hl k t l h (by omega) (Nat.lt_of_lt_of_le l1 (Nat.pow_le_pow_right (by omega) (by omega)))
  have gt : decide (0 < l) = true := decide_eq_true l0
  have gp : 0 < Int.gcd t l := Int.gcd_pos_of_ne_zero_right t (by omega)
  have gl : (Int.gcd t l : Int) ≤ l := Int.gcd_le_right t l0
  generalize Int.gcd t l = g at *
  have lg : ((g : Int)).natAbs.log2 < 9000 := by
    rw [Nat.log2_lt (by omega)]
    have : ((g : Int)).natAbs = g := by omega
    rw [this]
    exact Nat.lt_of_lt_of_le (Nat.lt_of_le_of_lt (by omega) l1) (Nat.pow_le_pow_right (n := 2) (by omega) (show 8999 ≤ 9000 by omega))
  have e1 := fun h => b_fdiv t g h (by omega) lg
  have e2 := fun h => b_fdiv l g h (by omega) lg
  have bg : begin [D.int t, D.int l] 3 = [some (.int t), some (.int l), none] := rfl
  simp only [b3, bg, ex, ev, getS, nth, ofO, R.bd, setS, cmp2, truth, gt, c, e1, e2]
  rfl

theorem den_ne (q : Rat) : ((q.den : Int) : Rat) ≠ 0 := by
  intro z
  have : (q.den : Int) = 0 := by exact_mod_cast z
  have := q.den_nz
  omega
theorem den_pos (q : Rat) : 0 < (q.den : Int) := by
  have := q.den_nz
  omega
theorem idx0 (q : Rat) (h : Hp) : idx2 (fr q) (.int 0) h = some (.int q.num) := rfl
theorem idx1 (q : Rat) (h : Hp) : idx2 (fr q) (.int 1) h = some (.int q.den) := rfl
theorem lt_mul {a b n m : Nat} (h1 : a < 2 ^ n) (h2 : b < 2 ^ m) : a * b < 2 ^ (n + m) := by
  rw [Nat.pow_add]
  exact Nat.mul_lt_mul'' h1 h2
theorem mul_int {i j : Int} {n m : Nat} (h : Hp) (h1 : i.natAbs < 2 ^ n) (h2 : j.natAbs < 2 ^ m) (hn : 0 < n) (hm : 0 < m) (hnm : n + m ≤ 1000000) : bin2 .mul (.int i) (.int j) h = .ok (.int (i * j)) h := by
  refine b_mul i j h ?_
  have a := bits_lt h1 hn
  have b := bits_lt h2 hm
  omega
include hl in
theorem r_added (k : Nat) (p q : Rat) (h : Hp) (hp : Sz 4000 p) (hq : Sz 4000 q) : run gg lf (k + 3) 4 [fr p, fr q] h = .ok (fr (p + q)) h := by
  rw [call_of (i := ⟨2, 2, b4⟩) rfl rfl]
  have e1 := fun h => mul_int (i := p.num) (j := q.den) h hp.1 (by simpa using hq.2) (by omega) (by omega) (by omega)
  have e2 := fun h => mul_int (i := q.num) (j := p.den) h hq.1 (by simpa using hp.2) (by omega) (by omega) (by omega)
  have e3 := fun h => mul_int (i := p.den) (j := q.den) h (by simpa using hp.2) (by simpa using hq.2) (by omega) (by omega) (by omega)
  have dp : 0 < (p.den : Int) * q.den := Int.mul_pos (den_pos p) (den_pos q)
  have c := fun h => r_reduced hl k (p.num * q.den + q.num * p.den) (p.den * q.den) h dp (by
    rw [Int.natAbs_mul]
    exact Nat.lt_of_lt_of_le (lt_mul (n := 4000) (m := 4000) (by simpa using hp.2) (by simpa using hq.2)) (Nat.pow_le_pow_right (by omega) (by omega)))
  have bg : begin [fr p, fr q] 2 = [some (fr p), some (fr q)] := rfl
  simp only [b4, bg, ex, ev, getS, nth, ofO, R.bd, idx0, idx1, e1, e2, e3, b_add, c]
  have d1 := den_ne p
  have d2 := den_ne q
  have e : ((p.num * q.den + q.num * p.den : Int) : Rat) / ((p.den * q.den : Int) : Rat) = p + q := by
    rw [Rat.intCast_add, Rat.intCast_mul, Rat.intCast_mul, Rat.intCast_mul, ← mul_den p, ← mul_den q]
    grind
  rw [e]
include hl in
theorem r_diff (k : Nat) (p q : Rat) (h : Hp) (hp : Sz 4000 p) (hq : Sz 4000 q) : run gg lf (k + 3) 5 [fr p, fr q] h = .ok (fr (p - q)) h := by
  rw [call_of (i := ⟨2, 2, b5⟩) rfl rfl]
  have e1 := fun h => mul_int (i := p.num) (j := q.den) h hp.1 (by simpa using hq.2) (by omega) (by omega) (by omega)
  have e2 := fun h => mul_int (i := q.num) (j := p.den) h hq.1 (by simpa using hp.2) (by omega) (by omega) (by omega)
  have e3 := fun h => mul_int (i := p.den) (j := q.den) h (by simpa using hp.2) (by simpa using hq.2) (by omega) (by omega) (by omega)
  have dp : 0 < (p.den : Int) * q.den := Int.mul_pos (den_pos p) (den_pos q)
  have c := fun h => r_reduced hl k (p.num * q.den - q.num * p.den) (p.den * q.den) h dp (by
    rw [Int.natAbs_mul]
    exact Nat.lt_of_lt_of_le (lt_mul (n := 4000) (m := 4000) (by simpa using hp.2) (by simpa using hq.2)) (Nat.pow_le_pow_right (by omega) (by omega)))
  have bg : begin [fr p, fr q] 2 = [some (fr p), some (fr q)] := rfl
  simp only [b5, bg, ex, ev, getS, nth, ofO, R.bd, idx0, idx1, e1, e2, e3, b_sub, c]
  have d1 := den_ne p
  have d2 := den_ne q
  have e : ((p.num * q.den - q.num * p.den : Int) : Rat) / ((p.den * q.den : Int) : Rat) = p - q := by
    rw [Rat.intCast_sub, Rat.intCast_mul, Rat.intCast_mul, Rat.intCast_mul, ← mul_den p, ← mul_den q]
    grind
  rw [e]
include hl in
theorem r_prod (k : Nat) (p q : Rat) (h : Hp) (hp : Sz 4000 p) (hq : Sz 4000 q) : run gg lf (k + 3) 6 [fr p, fr q] h = .ok (fr (p * q)) h := by
  rw [call_of (i := ⟨2, 2, b6⟩) rfl rfl]
  have e1 := fun h => mul_int (i := p.num) (j := q.num) h hp.1 hq.1 (by omega) (by omega) (by omega)
  have e3 := fun h => mul_int (i := p.den) (j := q.den) h (by simpa using hp.2) (by simpa using hq.2) (by omega) (by omega) (by omega)
  have dp : 0 < (p.den : Int) * q.den := Int.mul_pos (den_pos p) (den_pos q)
  have c := fun h => r_reduced hl k (p.num * q.num) (p.den * q.den) h dp (by
    rw [Int.natAbs_mul]
    exact Nat.lt_of_lt_of_le (lt_mul (n := 4000) (m := 4000) (by simpa using hp.2) (by simpa using hq.2)) (Nat.pow_le_pow_right (by omega) (by omega)))
  have bg : begin [fr p, fr q] 2 = [some (fr p), some (fr q)] := rfl
  simp only [b6, bg, ex, ev, getS, nth, ofO, R.bd, idx0, idx1, e1, e3, c]
  have d1 := den_ne p
  have d2 := den_ne q
  have e : ((p.num * q.num : Int) : Rat) / ((p.den * q.den : Int) : Rat) = p * q := by
    rw [Rat.intCast_mul, Rat.intCast_mul, ← mul_den p, ← mul_den q]
    grind
  rw [e]
include hl in
theorem r_quot (k : Nat) (p q : Rat) (h : Hp) (hp : Sz 4000 p) (hq : Sz 4000 q) (q0 : 0 < q) : run gg lf (k + 3) 7 [fr p, fr q] h = .ok (fr (p / q)) h := by
  rw [call_of (i := ⟨2, 2, b7⟩) rfl rfl]
  have qn : 0 < q.num := by simpa using (Rat.lt_iff 0 q).mp q0
  have e1 := fun h => mul_int (i := p.num) (j := q.den) h hp.1 (by simpa using hq.2) (by omega) (by omega) (by omega)
  have e3 := fun h => mul_int (i := p.den) (j := q.num) h (by simpa using hp.2) hq.1 (by omega) (by omega) (by omega)
  have dp : 0 < (p.den : Int) * q.num := Int.mul_pos (den_pos p) qn
  have c := fun h => r_reduced hl k (p.num * q.den) (p.den * q.num) h dp (by
    rw [Int.natAbs_mul]
    exact Nat.lt_of_lt_of_le (lt_mul (n := 4000) (m := 4000) (by simpa using hp.2) hq.1) (Nat.pow_le_pow_right (by omega) (by omega)))
  have bg : begin [fr p, fr q] 2 = [some (fr p), some (fr q)] := rfl
  simp only [b7, bg, ex, ev, getS, nth, ofO, R.bd, idx0, idx1, e1, e3, c]
  have d1 := den_ne p
  have d2 := den_ne q
  have d3 : q ≠ 0 := by intro z; rw [z] at q0; exact absurd q0 (by simp)
  have e : ((p.num * q.den : Int) : Rat) / ((p.den * q.num : Int) : Rat) = p / q := by
    rw [Rat.intCast_mul, Rat.intCast_mul, ← mul_den p, ← mul_den q]
    grind
  rw [e]
theorem r_less (k : Nat) (p q : Rat) (h : Hp) (hp : Sz 4000 p) (hq : Sz 4000 q) : run gg lf (k + 1) 8 [fr p, fr q] h = .ok (.bl (decide (p < q))) h := by
  rw [call_of (i := ⟨2, 2, b8⟩) rfl rfl]
  have e1 := fun h => mul_int (i := p.num) (j := q.den) h hp.1 (by simpa using hq.2) (by omega) (by omega) (by omega)
  have e2 := fun h => mul_int (i := q.num) (j := p.den) h hq.1 (by simpa using hp.2) (by omega) (by omega) (by omega)
  have bg : begin [fr p, fr q] 2 = [some (fr p), some (fr q)] := rfl
  simp only [b8, bg, ex, ev, getS, nth, ofO, R.bd, idx0, idx1, e1, e2, cmp2]
  rw [decide_eq_decide.mpr (Rat.lt_iff p q)]
end
end W57

set_option linter.all false
set_option maxRecDepth 100000
/-! WC: heaps that grow; comprehensions and loops over known items. -/
namespace W57
open VI M57 L57
/-- what stood stands -/
structure Gr (h h' : Hp) : Prop where
  le : h.next ≤ h'.next
  eq : ∀ n, n < h.next → h'.get n = h.get n
theorem Gr.refl (h : Hp) : Gr h h := ⟨Nat.le_refl _, fun _ _ => rfl⟩
theorem Gr.trans {a b c : Hp} (x : Gr a b) (y : Gr b c) : Gr a c := ⟨Nat.le_trans x.le y.le, fun n hn => (y.eq n (Nat.lt_of_lt_of_le hn x.le)).trans (x.eq n hn)⟩
theorem next_push (h : Hp) (o : O) : (h.push o).next = h.next + 1 := rfl
theorem next_set (h : Hp) (n : Nat) (o : O) : (h.set n o).next = h.next := rfl
theorem Gr.push (h : Hp) (o : O) : Gr h (h.push o) := ⟨by rw [next_push]; omega, fun n hn => by rw [Hp.get_push, if_neg (by omega)]⟩
theorem Gr.get {h h' : Hp} (x : Gr h h') {n : Nat} {o : O} (e : h.get n = some o) : h'.get n = some o := by rw [x.eq n (Hp.lt_of_get e)]; exact e
theorem get_top (h : Hp) (o : O) : (h.push o).get h.next = some o := by rw [Hp.get_push, if_pos rfl]
/-- a change to what was made since -/
theorem Gr.set {h h' : Hp} (x : Gr h h') {n : Nat} (hn : h.next ≤ n) (hn2 : n < h'.next) (o : O) : Gr h (h'.set n o) :=
  ⟨x.le, fun m hm => by rw [Hp.get_set _ _ _ _ hn2, if_neg (by omega)]; exact x.eq m hm⟩
theorem seq_of {h : Hp} {n : Nat} {xs : List D} (e : h.get n = some (.lst xs)) : seqOf h n = some xs := by unfold seqOf; rw [e]
theorem seq_frz {h : Hp} {n : Nat} {xs : List D} (e : h.get n = some (.frz xs)) : seqOf h n = some xs := by unfold seqOf; rw [e]
theorem nth_some {α : Type} {xs : List α} {i : Nat} (h : i < xs.length) : nth xs i = some xs[i] := by rw [nth_eq, List.getElem?_eq_getElem h]
theorem nth_none {α : Type} {xs : List α} {i : Nat} (h : xs.length ≤ i) : nth xs i = none := by rw [nth_eq, List.getElem?_eq_none h]

/-- what an iterator has in a heap: these items -/
def Has (it : D) (xs : List D) (h : Hp) : Prop := (∀ i (hi : i < xs.length), nxt it i h = some (some xs[i])) ∧ nxt it xs.length h = some none
theorem has_lst {n : Nat} {xs : List D} {h : Hp} (e : h.get n = some (.lst xs)) : Has (.tup [.int 0, .ref n]) xs h := by
  have s := seq_of e
  refine ⟨fun i hi => ?_, ?_⟩
  · show (match seqOf h n with | some xs => bif Nat.ble i xs.length then some (nth xs i) else none | none => none) = _
    rw [s]
    show (bif Nat.ble i xs.length then some (nth xs i) else none) = _
    rw [Nat.ble_eq_true_of_le (Nat.le_of_lt hi), nth_some hi]; rfl
  · show (match seqOf h n with | some ys => bif Nat.ble xs.length ys.length then some (nth ys xs.length) else none | none => none) = _
    rw [s]
    show (bif Nat.ble xs.length xs.length then some (nth xs xs.length) else none) = _
    rw [Nat.ble_eq_true_of_le (Nat.le_refl _), nth_none (Nat.le_refl _)]; rfl
theorem has_tup {xs : List D} {h : Hp} : Has (.tup [.int 0, .tup xs]) xs h := by
  refine ⟨fun i hi => ?_, ?_⟩
  · show (bif Nat.ble i xs.length then some (nth xs i) else none) = _
    rw [Nat.ble_eq_true_of_le (Nat.le_of_lt hi), nth_some hi]; rfl
  · show (bif Nat.ble xs.length xs.length then some (nth xs xs.length) else none) = _
    rw [Nat.ble_eq_true_of_le (Nat.le_refl _), nth_none (Nat.le_refl _)]; rfl
def rngL (lo : Int) (n : Nat) : List D := (List.range n).map fun i => .int (lo + (i : Nat))
theorem has_rng {lo : Int} {n : Nat} {h : Hp} : Has (.tup [.int 1, .int lo, .int (.ofNat n)]) (rngL lo n) h := by
  have ln : (rngL lo n).length = n := by simp [rngL]
  refine ⟨fun i hi => ?_, ?_⟩
  · show some (bif Nat.blt i n then some (D.int (lo + i)) else none) = _
    have : Nat.blt i n = true := by rw [ln] at hi; simpa [Nat.blt_eq] using hi
    rw [this]
    simp [rngL]
  · show some (bif Nat.blt (rngL lo n).length n then _ else none) = _
    have : Nat.blt (rngL lo n).length n = false := by
      rw [ln]
      cases c : Nat.blt n n with
      | false => rfl
      | true =>
        have : n < n := by simpa [Nat.blt_eq] using c
        omega
    rw [this]; rfl
/-- the turns of a comprehension over known items -/
theorem comp_go {it : D} {n : Nat} {turn : D → Hp → R (Option D)} {xs : List D} (J : Nat → List D → Hp → Prop) (hx : xs.length < 1000000)
    (step : ∀ i (hi : i < xs.length) acc h, J i acc h → h.get n = some (.lst acc) → nxt it i h = some (some xs[i]) ∧ ∃ y h1, turn xs[i] h = .ok (some y) h1 ∧ h1.get n = some (.lst acc) ∧ J (i + 1) (acc ++ [y]) (h1.set n (.lst (acc ++ [y]))))
    (fin : ∀ acc h, J xs.length acc h → h.get n = some (.lst acc) → nxt it xs.length h = some none) {h : Hp} (h0 : J 0 [] h) (g0 : h.get n = some (.lst [])) {f : Nat} (hf : xs.length < f) :
    ∃ acc h', compGo it n turn f 0 h = .ok () h' ∧ J xs.length acc h' ∧ h'.get n = some (.lst acc) ∧ acc.length = xs.length := by
  have go : ∀ (d i : Nat) (f : Nat) (acc : List D) (h : Hp), i + d = xs.length → d < f → acc.length = i → J i acc h → h.get n = some (.lst acc) → ∃ acc h', compGo it n turn f i h = .ok () h' ∧ J xs.length acc h' ∧ h'.get n = some (.lst acc) ∧ acc.length = xs.length := by
    intro d
    induction d with
    | zero =>
      intro i f acc h e hf ha j g
      have : i = xs.length := by omega
      subst this
      cases f with
      | zero => omega
      | succ f =>
        refine ⟨acc, h, ?_, j, g, ha⟩
        simp only [compGo, fin acc h j g]
    | succ d ih =>
      intro i f acc h e hf ha j g
      cases f with
      | zero => omega
      | succ f =>
        have hi : i < xs.length := by omega
        obtain ⟨nx, y, h1, tn, g1, j1⟩ := step i hi acc h j g
        have lt : n < h1.next := Hp.lt_of_get g1
        have g2 : (h1.set n (.lst (acc ++ [y]))).get n = some (.lst (acc ++ [y])) := by rw [Hp.get_set _ _ _ _ lt, if_pos rfl]
        obtain ⟨acc', h', r1, r2, r3, r4⟩ := ih (i + 1) f (acc ++ [y]) _ (by omega) (by omega) (by simp [ha]) j1 g2
        refine ⟨acc', h', ?_, r2, r3, r4⟩
        have bl : Nat.blt acc.length line = true := by
          have : acc.length < line := by rw [ha]; unfold line; omega
          simpa [Nat.blt_eq] using this
        simp only [compGo, nx, tn, R.bd, g1, bl, cond_true]
        exact r1
  exact go xs.length 0 f [] h (by omega) hf rfl h0 g0
end W57

set_option linter.all false
set_option maxRecDepth 100000
/-! WD: comprehensions and loops, as wholes. -/
namespace W57
open VI M57 L57
section
variable {g : G} {cf ci : Nat → List D → Hp → R D} {lf : Nat}
/-- a comprehension whose items may make objects -/
theorem c_all {vs : List Nat} {it e : E} {t : TG} {env : Env} {h : Hp} {i0 : D} {xs : List D} {σ : D → Env} (Q : Nat → D → Hp → Prop)
    (hit : ev g cf ci lf it env h = .ok i0 h) (hs : ∀ h', Gr h h' → Has i0 xs h') (ha : ∀ x ∈ xs, asg t x (wipeL env vs) = some (σ x))
    (q1 : ∀ i y h1 h2, Gr h1 h2 → Q i y h1 → Q i y h2) (q2 : ∀ i y h1 o, h.next < h1.next → Q i y h1 → Q i y (h1.set h.next o))
    (he : ∀ i (hi : i < xs.length) h', Gr h h' → h.next < h'.next → ∃ y h1, ev g cf ci lf e (σ xs[i]) h' = .ok y h1 ∧ Gr h' h1 ∧ Q i y h1) (hx : xs.length < lf) (hx2 : xs.length < 1000000) :
    ∃ ys h', ev g cf ci lf (.comp vs it t (.cst (.bl true)) e) env h = .ok (.ref h.next) h' ∧ Gr h h' ∧ h'.get h.next = some (.lst ys) ∧ ys.length = xs.length ∧ ∀ i (hi : i < ys.length), Q i ys[i] h' := by
  obtain ⟨acc, h', r, ⟨jg, jl, jq⟩, ga, la⟩ := comp_go (it := i0) (n := h.next) (turn := fun x h2 => match asg t x (wipeL env vs) with
      | none => .bad
      | some σ' => (ev g cf ci lf (.cst (.bl true)) σ' h2).bd fun b h3 => match b with
        | .bl true => (ev g cf ci lf e σ' h3).bd fun y h4 => .ok (some y) h4
        | .bl false => .ok none h3
        | _ => .bad) (xs := xs) (fun i acc h1 => Gr h h1 ∧ acc.length = i ∧ ∀ j (hj : j < acc.length), Q j acc[j] h1) hx2
    (fun i hi acc h1 ⟨j1, j2, j3⟩ g1 => by
      have lt : h.next < h1.next := Hp.lt_of_get g1
      obtain ⟨y, h2, ey, gy, qy⟩ := he i hi h1 j1 lt
      refine ⟨(hs h1 j1).1 i hi, y, h2, ?_, gy.get g1, ?_, ?_, ?_⟩
      · show (match asg t xs[i] (wipeL env vs) with
          | none => R.bad
          | some σ' => (ev g cf ci lf (.cst (.bl true)) σ' h1).bd fun b h3 => match b with
            | .bl true => (ev g cf ci lf e σ' h3).bd fun y h4 => .ok (some y) h4
            | .bl false => .ok none h3
            | _ => .bad) = _
        rw [ha _ (List.getElem_mem hi)]
        show ((ev g cf ci lf e (σ xs[i]) h1).bd _) = _
        rw [ey]
      · exact (j1.trans gy).set (Nat.le_refl _) (Nat.lt_of_lt_of_le lt gy.le) _
      · simp [j2]
      · intro j hj
        have l2 : h.next < h2.next := Nat.lt_of_lt_of_le lt gy.le
        by_cases q : j < acc.length
        · rw [List.getElem_append_left q]
          exact q2 _ _ _ _ l2 (q1 _ _ _ _ gy (j3 j q))
        · have e : j = acc.length := by simp at hj; omega
          subst e
          rw [List.getElem_append_right (Nat.le_refl _)]
          simp only [Nat.sub_self, List.getElem_cons_zero]
          rw [j2]
          exact q2 _ _ _ _ l2 qy)
    (fun acc h1 ⟨j1, _, _⟩ _ => (hs h1 j1).2) (h := h.push (.lst [])) ⟨Gr.push h _, rfl, fun j hj => by cases hj⟩ (get_top h _) hx
  refine ⟨acc, h', ?_, jg, ga, by rw [la], jq⟩
  refine (show ev g cf ci lf (.comp vs it t (.cst (.bl true)) e) env h = ((ev g cf ci lf it env h).bd fun i h1 => (compGo i h1.next (fun x h2 => match asg t x (wipeL env vs) with
      | none => .bad
      | some σ' => (ev g cf ci lf (.cst (.bl true)) σ' h2).bd fun b h3 => match b with
        | .bl true => (ev g cf ci lf e σ' h3).bd fun y h4 => .ok (some y) h4
        | .bl false => .ok none h3
        | _ => .bad) lf 0 (h1.push (.lst []))).bd fun _ h2 => R.ok (D.ref h1.next) h2) from rfl).trans ?_
  rw [hit]
  exact congrArg (fun z : R Unit => z.bd fun _ h2 => R.ok (D.ref h.next) h2) r
/-- a comprehension that makes nothing else -/
theorem c_pure {vs : List Nat} {it e : E} {t : TG} {env : Env} {h : Hp} {i0 : D} {xs : List D} {σ : D → Env} {f : D → D}
    (hit : ev g cf ci lf it env h = .ok i0 h) (hs : ∀ h', Gr h h' → Has i0 xs h') (ha : ∀ x ∈ xs, asg t x (wipeL env vs) = some (σ x))
    (he : ∀ x ∈ xs, ∀ h', Gr h h' → ev g cf ci lf e (σ x) h' = .ok (f x) h') (hx : xs.length < lf) (hx2 : xs.length < 1000000) :
    ∃ h', ev g cf ci lf (.comp vs it t (.cst (.bl true)) e) env h = .ok (.ref h.next) h' ∧ Gr h h' ∧ h'.get h.next = some (.lst (xs.map f)) := by
  obtain ⟨ys, h', r, gr, gy, ly, q⟩ := c_all (fun i y _ => ∃ hi : i < xs.length, y = f xs[i]) hit hs ha (fun _ _ _ _ _ z => z) (fun _ _ _ _ _ z => z)
    (fun i hi h' gr _ => ⟨f xs[i], h', he _ (List.getElem_mem hi) h' gr, Gr.refl _, hi, rfl⟩) hx hx2
  refine ⟨h', r, gr, ?_⟩
  have : ys = xs.map f := by
    refine List.ext_getElem (by simp [ly]) fun i h1 h2 => ?_
    obtain ⟨hi, e⟩ := q i h1
    rw [e, List.getElem_map]
  rw [← this]
  exact gy
/-- a loop over known items -/
theorem for_go {it : D} {t : TG} {b : Env → Hp → R Fl} {xs : List D} (J : Nat → Env → Hp → Prop) (Rt : Fl → Hp → Prop)
    (step : ∀ i (hi : i < xs.length) σ h, J i σ h → nxt it i h = some (some xs[i]) ∧ ∃ σ1, asg t xs[i] σ = some σ1 ∧ ∃ r h1, b σ1 h = .ok r h1 ∧ (match r with
      | .nx σ' => J (i + 1) σ' h1
      | .ct σ' => J (i + 1) σ' h1
      | .bk σ' => Rt (.nx σ') h1
      | .rt d => Rt (.rt d) h1))
    (fin : ∀ σ h, J xs.length σ h → nxt it xs.length h = some none ∧ Rt (.nx σ) h) {σ : Env} {h : Hp} (h0 : J 0 σ h) {f : Nat} (hf : xs.length < f) :
    ∃ r h', forGo it t b f 0 σ h = .ok r h' ∧ Rt r h' := by
  have go : ∀ (d i : Nat) (f : Nat) (σ : Env) (h : Hp), i + d = xs.length → d < f → J i σ h → ∃ r h', forGo it t b f i σ h = .ok r h' ∧ Rt r h' := by
    intro d
    induction d with
    | zero =>
      intro i f σ h e hf j
      have : i = xs.length := by omega
      subst this
      cases f with
      | zero => omega
      | succ f =>
        obtain ⟨n, rt⟩ := fin σ h j
        refine ⟨.nx σ, h, ?_, rt⟩
        simp only [forGo, n]
    | succ d ih =>
      intro i f σ h e hf j
      cases f with
      | zero => omega
      | succ f =>
        obtain ⟨n, σ1, a, r, h1, eb, q⟩ := step i (by omega) σ h j
        cases r with
        | nx σ' =>
          obtain ⟨r, h', e1, e2⟩ := ih (i + 1) f σ' h1 (by omega) (by omega) q
          refine ⟨r, h', ?_, e2⟩
          simp only [forGo, n, a, eb, R.bd]
          exact e1
        | ct σ' =>
          obtain ⟨r, h', e1, e2⟩ := ih (i + 1) f σ' h1 (by omega) (by omega) q
          refine ⟨r, h', ?_, e2⟩
          simp only [forGo, n, a, eb, R.bd]
          exact e1
        | bk σ' => exact ⟨.nx σ', h1, by simp only [forGo, n, a, eb, R.bd], q⟩
        | rt d => exact ⟨.rt d, h1, by simp only [forGo, n, a, eb, R.bd], q⟩
  exact go xs.length 0 f σ h (by omega) hf h0
end
end W57

set_option linter.all false
set_option maxRecDepth 100000
/-! WE: a tableau in the heap; entering, is_solved. -/
namespace W57
open VI M57 L57
/-! ### steps -/
section
variable {g : G} {cf ci : Nat → List D → Hp → R D} {lf : Nat} {σ : Env} {h h1 h2 h3 : Hp} {x y z : D} {a b c : E}
theorem v_slot {i : Nat} (e : getS σ i = some x) : ev g cf ci lf (.slot i) σ h = .ok x h := by simp only [ev, e, ofO]
theorem v_cst : ev g cf ci lf (.cst x) σ h = .ok x h := rfl
theorem v_idx (e1 : ev g cf ci lf a σ h = .ok x h1) (e2 : ev g cf ci lf b σ h1 = .ok y h2) (e3 : idx2 x y h2 = some z) : ev g cf ci lf (.idx a b) σ h = .ok z h2 := by simp only [ev, e1, e2, e3, R.bd, ofO]
theorem v_bin {o : Op2} (e1 : ev g cf ci lf a σ h = .ok x h1) (e2 : ev g cf ci lf b σ h1 = .ok y h2) (e3 : bin2 o x y h2 = .ok z h3) : ev g cf ci lf (.bin o a b) σ h = .ok z h3 := by simp only [ev, e1, e2, e3, R.bd]
theorem v_cmp {o : Cp} {r : Bool} (e1 : ev g cf ci lf a σ h = .ok x h1) (e2 : ev g cf ci lf b σ h1 = .ok y h2) (e3 : cmp2 o x y h2 = some r) : ev g cf ci lf (.cmp o a b) σ h = .ok (.bl r) h2 := by simp only [ev, e1, e2, e3, R.bd]
theorem v_neg {i : Int} (e1 : ev g cf ci lf a σ h = .ok (.int i) h1) : ev g cf ci lf (.neg a) σ h = .ok (.int (-i)) h1 := by simp only [ev, e1, R.bd]
theorem v_nil : ev g cf ci lf .nil σ h = .ok (.tup []) h := rfl
theorem v_cons {xs : List D} (e1 : ev g cf ci lf a σ h = .ok x h1) (e2 : ev g cf ci lf b σ h1 = .ok (.tup xs) h2) : ev g cf ci lf (.cons a b) σ h = .ok (.tup (x :: xs)) h2 := by simp only [ev, e1, e2, R.bd]
theorem v_tup {xs : List D} (e1 : ev g cf ci lf a σ h = .ok (.tup xs) h1) (hx : xs.length ≤ 1000) : ev g cf ci lf (.tup a) σ h = .ok (.tup xs) h1 := by
  have : Nat.ble xs.length line = true := Nat.ble_eq_true_of_le (Nat.le_trans hx (by decide))
  simp only [ev, e1, R.bd, this, cond_true]
theorem v_lst {xs : List D} (e1 : ev g cf ci lf a σ h = .ok (.tup xs) h1) (hx : xs.length ≤ 1000) : ev g cf ci lf (.lst a) σ h = .ok (.ref h1.next) (h1.push (.lst xs)) := by
  have : Nat.ble xs.length line = true := Nat.ble_eq_true_of_le (Nat.le_trans hx (by decide))
  simp only [ev, e1, R.bd, this, cond_true]
theorem v_call {f : Nat} {xs : List D} (e1 : ev g cf ci lf a σ h = .ok (.tup xs) h1) (e2 : cf f xs h1 = .ok z h2) : ev g cf ci lf (.call f a) σ h = .ok z h2 := by simp only [ev, e1, e2, R.bd]
theorem v_blt {f : Nat} {xs : List D} (e1 : ev g cf ci lf a σ h = .ok (.tup xs) h1) (e2 : blt1 f xs h1 = .ok z h2) : ev g cf ci lf (.blt f a) σ h = .ok z h2 := by simp only [ev, e1, e2, R.bd]
theorem v_irng {xs : List D} (e1 : ev g cf ci lf a σ h = .ok (.tup xs) h1) (e2 : rng? xs = some z) : ev g cf ci lf (.irng a) σ h = .ok z h1 := by simp only [ev, e1, e2, R.bd, ofO]
theorem v_iteT (e1 : ev g cf ci lf c σ h = .ok (.bl true) h1) (e2 : ev g cf ci lf a σ h1 = .ok z h2) : ev g cf ci lf (.ite c a b) σ h = .ok z h2 := by simp only [ev, e1, e2, R.bd, truth]
theorem v_iteF (e1 : ev g cf ci lf c σ h = .ok (.bl false) h1) (e2 : ev g cf ci lf b σ h1 = .ok z h2) : ev g cf ci lf (.ite c a b) σ h = .ok z h2 := by simp only [ev, e1, e2, R.bd, truth]
variable {s t r : S} {fl : Fl} {σ' : Env}
theorem x_seq (e1 : ex g cf ci lf s σ h = .ok (.nx σ') h1) (e2 : ex g cf ci lf r σ' h1 = .ok fl h2) : ex g cf ci lf (.seq s r) σ h = .ok fl h2 := by simp only [ex, e1, e2, R.bd]
theorem x_seqR {d : D} (e1 : ex g cf ci lf s σ h = .ok (.rt d) h1) : ex g cf ci lf (.seq s r) σ h = .ok (.rt d) h1 := by simp only [ex, e1, R.bd]
theorem x_nil : ex g cf ci lf .nil σ h = .ok (.nx σ) h := rfl
theorem x_set {i : Nat} (e1 : ev g cf ci lf a σ h = .ok x h1) : ex g cf ci lf (.set i a) σ h = .ok (.nx (setS σ i x)) h1 := by simp only [ex, e1, R.bd]
theorem x_exp (e1 : ev g cf ci lf a σ h = .ok x h1) : ex g cf ci lf (.exp a) σ h = .ok (.nx σ) h1 := by simp only [ex, e1, R.bd]
theorem x_ret (e1 : ev g cf ci lf a σ h = .ok x h1) : ex g cf ci lf (.ret a) σ h = .ok (.rt x) h1 := by simp only [ex, e1, R.bd]
theorem x_ifT (e1 : ev g cf ci lf c σ h = .ok (.bl true) h1) (e2 : ex g cf ci lf s σ h1 = .ok fl h2) : ex g cf ci lf (.ifs c s t) σ h = .ok fl h2 := by simp only [ex, e1, e2, R.bd, truth]
theorem x_ifF (e1 : ev g cf ci lf c σ h = .ok (.bl false) h1) (e2 : ex g cf ci lf t σ h1 = .ok fl h2) : ex g cf ci lf (.ifs c s t) σ h = .ok fl h2 := by simp only [ex, e1, e2, R.bd, truth]
theorem x_fr {tg : TG} (e1 : ev g cf ci lf a σ h = .ok x h1) (e2 : forGo x tg (ex g cf ci lf s) lf 0 σ h1 = .ok fl h2) : ex g cf ci lf (.fr tg a s) σ h = .ok fl h2 := by simp only [ex, e1, e2, R.bd]
end

/-- numbers of a row -/
abbrev frs (xs : List Rat) : List D := xs.map fr
def intsL (ns : List Int) : List D := ns.map .int
def nats (ns : List Nat) : List D := ns.map fun (n : Nat) => D.int (n : Int)
def refs (ns : List Nat) : List D := ns.map .ref
/-- addresses of a tableau's parts -/
structure Ad where
  t : Nat
  S : Nat
  R : Nat
  B : Nat
  C : Nat
  rs : List Nat
def tObj (m r : Nat) (a : Ad) : O := .ins 0 [(1, .int m), (2, .int r), (8, .ref a.S), (7, .ref a.R), (5, .ref a.B), (4, .ref a.C)]
structure TabAt (h : Hp) (m r : Nat) (a : Ad) (sg : List Int) (rows : List (List Rat)) (bs : List Nat) (cs : List Rat) : Prop where
  t : h.get a.t = some (tObj m r a)
  S : h.get a.S = some (.lst (intsL sg))
  R : h.get a.R = some (.lst (refs a.rs))
  B : h.get a.B = some (.lst (nats bs))
  C : h.get a.C = some (.lst (frs cs))
  rl : a.rs.length = rows.length
  row : ∀ i (h1 : i < a.rs.length) (h2 : i < rows.length), h.get a.rs[i] = some (.lst (frs rows[i]))
  neR : a.R ≠ a.t ∧ a.R ≠ a.S ∧ a.R ≠ a.B ∧ a.R ≠ a.C ∧ ∀ x ∈ a.rs, a.R ≠ x
  neB : a.B ≠ a.t ∧ a.B ≠ a.S ∧ a.B ≠ a.C ∧ ∀ x ∈ a.rs, a.B ≠ x
  sl : sg.length = r
  rr : rows.length = r
  bl : bs.length = r
  cl : cs.length = m + r + 1
  wl : ∀ x ∈ rows, x.length = m + r + 1
/-- the tableau goes on in a heap where its parts stand -/
theorem TabAt.mono {h h' : Hp} {m r : Nat} {a : Ad} {sg : List Int} {rows : List (List Rat)} {bs : List Nat} {cs : List Rat} (x : TabAt h m r a sg rows bs cs) (g : Gr h h') : TabAt h' m r a sg rows bs cs :=
  { x with t := g.get x.t, S := g.get x.S, R := g.get x.R, B := g.get x.B, C := g.get x.C, row := fun i h1 h2 => g.get (x.row i h1 h2) }
/-- the first place of a negative cost -/
def entF (m : Nat) (cs : List Rat) : Option Nat := (List.range m).find? fun j => decide (cs.getD j 0 < 0)
def entD : Option Nat → D
  | none => .non
  | some p => .int (p : Int)
theorem fld_t {h : Hp} {m r : Nat} {a : Ad} (e : h.get a.t = some (tObj m r a)) {g : G} {cf ci : Nat → List D → Hp → R D} {lf : Nat} {env : Env} (he : getS env 0 = some (.ref a.t)) {f : Nat} {d : D} (hf : lookN [(1, D.int m), (2, .int r), (8, .ref a.S), (7, .ref a.R), (5, .ref a.B), (4, .ref a.C)] f = some d) : ev g cf ci lf (.fld (.slot 0) f) env h = .ok d h := by
  simp only [ev, he, ofO, R.bd, e, tObj, hf]
theorem idx_lst {h : Hp} {n : Nat} {xs : List D} (e : h.get n = some (.lst xs)) {i : Nat} (hi : i < xs.length) : idx2 (.ref n) (.int (i : Int)) h = some xs[i] := by
  show (match seqOf h n with
    | some xs => match place xs.length (i : Int) with
      | some k => nth xs k
      | none => none
    | none => none) = _
  rw [seq_of e]
  show (match (bif Nat.blt i xs.length then some i else none) with
      | some k => nth xs k
      | none => none) = _
  have : Nat.blt i xs.length = true := by simpa [Nat.blt_eq] using hi
  rw [this]
  exact nth_some hi
theorem lt_fr {q : Rat} : decide (q.num < 0) = decide (q < 0) := by
  rw [decide_eq_decide, Rat.lt_iff]
  simp
section
variable {lf : Nat} (hl : 300000 ≤ lf)
theorem rng_lt (n : Nat) (hn : n < 100000) : rng? [D.int (n : Int)] = some (.tup [.int 1, .int 0, .int (.ofNat n)]) := by
  have sm : small (n : Int) = true := by
    unfold small
    rw [Bool.and_eq_true]
    exact ⟨decide_eq_true (by omega), decide_eq_true (by omega)⟩
  show (bif small (n : Int) then some (D.tup [.int 1, .int 0, .int (.ofNat (n : Int).toNat)]) else none) = _
  rw [sm]
  rfl
theorem rngL_len (lo : Int) (n : Nat) : (rngL lo n).length = n := by simp [rngL]
theorem rngL_get {lo : Int} {n i : Nat} (h : i < (rngL lo n).length) : (rngL lo n)[i] = .int (lo + (i : Nat)) := by simp [rngL]
include hl in
theorem r_entering (k : Nat) {h : Hp} {m r : Nat} {a : Ad} {sg : List Int} {rows : List (List Rat)} {bs : List Nat} {cs : List Rat} (x : TabAt h m r a sg rows bs cs) (hm : m < 100000) : run gg lf (k + 1) 13 [.ref a.t] h = .ok (entD (entF m cs)) h := by
  rw [call_of (i := ⟨1, 2, b13⟩) rfl rfl]
  have bg : begin [D.ref a.t] 2 = [some (.ref a.t), none] := rfl
  have fld : ∀ (o : Option D) (f : Nat) (d : D), lookN [(1, D.int m), (2, .int r), (8, .ref a.S), (7, .ref a.R), (5, .ref a.B), (4, .ref a.C)] f = some d → ev gg (run gg lf k) (runAt gg lf k) lf (.fld (.slot 0) f) [some (.ref a.t), o] h = .ok d h := fun o f d e => fld_t x.t rfl e
  have hit : ev gg (run gg lf k) (runAt gg lf k) lf (.irng (.cons (.fld (.slot 0) 1) .nil)) [some (.ref a.t), none] h = .ok (.tup [.int 1, .int 0, .int (.ofNat m)]) h := by
    exact v_irng (v_cons (fld none 1 (.int m) rfl) v_nil) (rng_lt m hm)
  obtain ⟨r', h', e1, rfl, e2⟩ := for_go (it := .tup [.int 1, .int 0, .int (.ofNat m)]) (t := .nm 1) (xs := rngL 0 m) (f := lf)
    (b := ex gg (run gg lf k) (runAt gg lf k) lf (.seq (.ifs (.cmp .lt (.idx (.idx (.fld (.slot 0) 4) (.slot 1)) (.cst (.int 0))) (.cst (.int 0))) (.seq (.ret (.slot 1)) .nil) .nil) .nil))
    (fun i σ h1 => h1 = h ∧ (∃ o, σ = [some (.ref a.t), o]) ∧ ∀ j, j < i → ¬ cs.getD j 0 < 0)
    (fun fl h1 => h1 = h ∧ ((∃ σ, fl = .nx σ ∧ entF m cs = none) ∨ ∃ p : Nat, fl = .rt (.int (p : Int)) ∧ entF m cs = some p))
    (fun i hi σ h1 ⟨j1, ⟨o, j2⟩, j3⟩ => by
      subst j1 j2
      have im : i < m := by rw [rngL_len] at hi; exact hi
      refine ⟨has_rng.1 i hi, [some (.ref a.t), some (.int (i : Int))], ?_, ?_⟩
      · show some (setS _ 1 (rngL 0 m)[i]) = _
        rw [rngL_get hi, Int.zero_add]
        rfl
      · have ic : i < cs.length := by have := x.cl; omega
        have e3 : idx2 (.ref a.C) (.int (i : Int)) h1 = some (fr cs[i]) := by
          rw [idx_lst x.C (by simpa using ic)]
          simp
        have gd : cs.getD i 0 = cs[i] := by simp [List.getD, ic]
        have ec : ev gg (run gg lf k) (runAt gg lf k) lf (.cmp .lt (.idx (.idx (.fld (.slot 0) 4) (.slot 1)) (.cst (.int 0))) (.cst (.int 0))) [some (.ref a.t), some (.int (i : Int))] h1 = .ok (.bl (decide (cs[i] < 0))) h1 := by
          rw [← lt_fr]
          exact v_cmp (v_idx (v_idx (fld _ 4 (.ref a.C) rfl) (v_slot rfl) e3) v_cst (idx0 _ _)) v_cst rfl
        by_cases q : cs[i] < 0
        · rw [decide_eq_true q] at ec
          refine ⟨.rt (.int (i : Int)), h1, x_seqR (x_ifT ec (x_seqR (x_ret (v_slot rfl)))), rfl, .inr ⟨i, rfl, ?_⟩⟩
          unfold entF
          rw [List.find?_eq_some_iff_getElem]
          refine ⟨by rw [gd]; exact decide_eq_true q, i, by simpa using im, by simp, fun j hj => ?_⟩
          simpa using j3 j hj
        · rw [decide_eq_false q] at ec
          refine ⟨.nx [some (.ref a.t), some (.int (i : Int))], h1, x_seq (x_ifF ec x_nil) x_nil, rfl, ⟨_, rfl⟩, fun j hj => ?_⟩
          by_cases e : j = i
          · subst e; rw [gd]; exact q
          · exact j3 j (by omega))
    (fun σ h1 ⟨j1, j2, j3⟩ => by
      rw [rngL_len] at j3
      refine ⟨has_rng.2, j1, .inl ⟨σ, rfl, ?_⟩⟩
      unfold entF
      rw [List.find?_eq_none]
      intro j hj
      have := j3 j (List.mem_range.mp hj)
      simpa using this) (σ := [some (.ref a.t), none]) (h := h) ⟨rfl, ⟨none, rfl⟩, fun j hj => by omega⟩ (by rw [rngL_len]; omega)
  rw [bg]
  rcases e2 with ⟨σ, rfl, e2⟩ | ⟨p, rfl, e2⟩
  · have := x_seq (r := .seq (.ret (.cst .non)) .nil) (x_fr hit e1) (x_seqR (x_ret v_cst))
    simp only [b13, this, R.bd, e2, entD]
  · have := x_seqR (r := .seq (.ret (.cst .non)) .nil) (x_fr hit e1)
    simp only [b13, this, R.bd, e2, entD]
end
end W57

set_option linter.all false
set_option maxRecDepth 100000
/-! WF: is_solved, less_by. -/
namespace W57
open VI M57 L57
theorem idx_last {h : Hp} {n : Nat} {xs : List D} (e : h.get n = some (.lst xs)) (hx : 0 < xs.length) : idx2 (.ref n) (.int (-1)) h = some (xs[xs.length - 1]'(by omega)) := by
  show (match seqOf h n with
    | some xs => match place xs.length (-1) with
      | some k => nth xs k
      | none => none
    | none => none) = _
  rw [seq_of e]
  have p : place xs.length (-1) = some (xs.length - 1) := by
    show (bif Nat.blt 0 xs.length then some (xs.length - 1 - 0) else none) = _
    have : Nat.blt 0 xs.length = true := by simpa [Nat.blt_eq] using hx
    rw [this]
    rfl
  show (match place xs.length (-1) with
      | some k => nth xs k
      | none => none) = _
  rw [p]
  exact nth_some (by omega)
theorem a1_at {h : Hp} {n : Nat} {xs : List D} (e : seqOf h n = some xs) : atS (.ref n) 0 h = some (nth xs 0) := by
  show (match seqOf h n with | some xs => bif Nat.ble 0 xs.length then some (nth xs 0) else none | none => none) = _
  rw [e]
  show (bif Nat.ble 0 xs.length then some (nth xs 0) else none) = _
  rw [Nat.ble_eq_true_of_le (Nat.zero_le _)]; rfl
theorem num_zero (q : Rat) : (q.num == 0) = decide (q = 0) := by
  by_cases e : q = 0
  · subst e; simp
  · have : q.num ≠ 0 := fun z => e (Rat.num_eq_zero.mp z)
    rw [decide_eq_false e, beq_eq_false_iff_ne.mpr this]
section
variable {lf : Nat} (hl : 300000 ≤ lf)
theorem r_solved (k : Nat) {h : Hp} {m r : Nat} {a : Ad} {sg : List Int} {rows : List (List Rat)} {bs : List Nat} {cs : List Rat} (x : TabAt h m r a sg rows bs cs) : run gg lf (k + 1) 16 [.ref a.t] h = .ok (.bl (decide (cs.getD (m + r) 0 = 0))) h := by
  rw [call_of (i := ⟨1, 1, b16⟩) rfl rfl]
  have bg : begin [D.ref a.t] 1 = [some (.ref a.t)] := rfl
  have cl := x.cl
  have e1 : idx2 (.ref a.C) (.int (-1)) h = some (fr (cs.getD (m + r) 0)) := by
    rw [idx_last x.C (by simp; omega)]
    have : cs.length - 1 = m + r := by omega
    simp [this, List.getD, cl]
  have e2 := v_cmp (g := gg) (cf := run gg lf k) (ci := runAt gg lf k) (lf := lf) (σ := [some (.ref a.t)]) (o := .eq) (v_idx (v_idx (fld_t x.t (f := 4) (d := .ref a.C) rfl rfl) (v_neg (v_cst (x := .int 1))) e1) (v_cst (x := .int 0)) (idx0 _ _)) (v_cst (x := .int 0)) (r := decide (cs.getD (m + r) 0 = 0)) (by
    show some ((cs.getD (m + r) 0).num == 0) = _
    rw [num_zero])
  rw [bg]
  have := x_seqR (r := .nil) (x_ret e2)
  simp only [b16, this, R.bd]
/-- x less a row's multiple -/
def subF (q : Rat) (x y : List Rat) : List Rat := x.zipWith (fun u v => u - q * v) y
theorem Sz.mul {a b : Nat} {p q : Rat} (hp : Sz a p) (hq : Sz b q) : Sz (a + b) (p * q) := by
  have o : Ov ((p.den : Int) * q.den) ((p.num.natAbs * q.num.natAbs : Nat) : Int) (p * q) := by
    refine ⟨p.num * q.num, ?_, ?_, ?_⟩
    · rw [Rat.intCast_mul, Rat.intCast_mul, ← mul_den p, ← mul_den q]; grind
    · have : (p.num * q.num).natAbs = p.num.natAbs * q.num.natAbs := Int.natAbs_mul _ _
      omega
    · have : (p.num * q.num).natAbs = p.num.natAbs * q.num.natAbs := Int.natAbs_mul _ _
      omega
  have dp := Int.mul_pos (den_pos p) (den_pos q)
  obtain ⟨o1, o2⟩ := o.parts (by omega)
  have e1 : (((p.num.natAbs * q.num.natAbs : Nat) : Int)).natAbs = p.num.natAbs * q.num.natAbs := by omega
  have e2 : ((p.den : Int) * q.den).natAbs = p.den * q.den := by rw [Int.natAbs_mul]; simp
  rw [e1] at o1
  rw [e2] at o2
  exact ⟨Nat.lt_of_le_of_lt o1 (lt_mul hp.1 hq.1), Nat.lt_of_le_of_lt o2 (lt_mul hp.2 hq.2)⟩
theorem has_zip {n m : Nat} {xs ys : List D} {h : Hp} (e1 : h.get n = some (.lst xs)) (e2 : h.get m = some (.lst ys)) (hl : xs.length = ys.length) : Has (.tup [.int 3, .ref n, .ref m]) ((xs.zip ys).map fun p => .tup [p.1, p.2]) h := by
  have a1 : ∀ i, i ≤ xs.length → atS (.ref n) i h = some (nth xs i) := fun i hi => by
    show (match seqOf h n with | some xs => bif Nat.ble i xs.length then some (nth xs i) else none | none => none) = _
    rw [seq_of e1]
    show (bif Nat.ble i xs.length then some (nth xs i) else none) = _
    rw [Nat.ble_eq_true_of_le hi]; rfl
  have a2 : ∀ i, i ≤ ys.length → atS (.ref m) i h = some (nth ys i) := fun i hi => by
    show (match seqOf h m with | some xs => bif Nat.ble i xs.length then some (nth xs i) else none | none => none) = _
    rw [seq_of e2]
    show (bif Nat.ble i ys.length then some (nth ys i) else none) = _
    rw [Nat.ble_eq_true_of_le hi]; rfl
  have ln : ((xs.zip ys).map fun p : D × D => D.tup [p.1, p.2]).length = xs.length := by simp [hl]
  refine ⟨fun i hi => ?_, ?_⟩
  · have hi' : i < xs.length := by rw [ln] at hi; exact hi
    show (match atS (.ref n) i h, atS (.ref m) i h with | some (some x), some (some y) => some (some (D.tup [x, y])) | some none, some _ => some none | some _, some none => some none | _, _ => none) = _
    rw [a1 i (by omega), a2 i (by omega), nth_some hi', nth_some (by omega : i < ys.length)]
    simp
  · rw [ln]
    show (match atS (.ref n) xs.length h, atS (.ref m) xs.length h with | some (some x), some (some y) => some (some (D.tup [x, y])) | some none, some _ => some none | some _, some none => some none | _, _ => none) = _
    rw [a1 _ (Nat.le_refl _), a2 _ (by omega), nth_none (Nat.le_refl _), nth_none (by omega : ys.length ≤ xs.length)]
def sgE (e0 : Env) : D → Env
  | .tup [u, v] => setS (setS e0 4 u) 5 v
  | _ => e0
include hl in
theorem r_less_by (k : Nat) {h : Hp} {n m p : Nat} {x y : List Rat} (e1 : h.get n = some (.lst (frs x))) (e2 : h.get m = some (.lst (frs y))) (hxy : x.length = y.length) (hp : p < x.length) (hx : x.length < 1000) (sx : ∀ q ∈ x, Sz 1900 q) (sy : ∀ q ∈ y, Sz 1900 q) :
    ∃ j h', run gg lf (k + 4) 19 [.ref n, .ref m, .int (p : Int)] h = .ok (.ref j) h' ∧ Gr h h' ∧ h'.get j = some (.lst (frs (subF (x[p]) x y))) ∧ (j = n ∨ h.next ≤ j) := by
  have bg : begin [D.ref n, D.ref m, D.int (p : Int)] 6 = [some (.ref n), some (.ref m), some (.int (p : Int)), none, none, none] := rfl
  have ip : idx2 (.ref n) (.int (p : Int)) h = some (fr x[p]) := by
    rw [idx_lst e1 (by simpa using hp)]
    simp
  have st1 : ex gg (run gg lf (k + 3)) (runAt gg lf (k + 3)) lf (.set 3 (.idx (.slot 0) (.slot 2))) [some (.ref n), some (.ref m), some (.int (p : Int)), none, none, none] h = .ok (.nx [some (.ref n), some (.ref m), some (.int (p : Int)), some (fr x[p]), none, none]) h := x_set (v_idx (v_slot rfl) (v_slot rfl) ip)
  have ct : ev gg (run gg lf (k + 3)) (runAt gg lf (k + 3)) lf (.cmp .eq (.idx (.slot 3) (.cst (.int 0))) (.cst (.int 0))) [some (.ref n), some (.ref m), some (.int (p : Int)), some (fr x[p]), none, none] h = .ok (.bl (decide (x[p] = 0))) h := v_cmp (v_idx (v_slot rfl) v_cst (idx0 _ _)) v_cst (by
    show some ((x[p]).num == 0) = _
    rw [num_zero])
  rw [call_of (i := ⟨3, 6, b19⟩) rfl rfl]
  by_cases z : x[p] = 0
  · rw [decide_eq_true z] at ct
    refine ⟨n, h, ?_, Gr.refl h, ?_, .inl rfl⟩
    · rw [bg]
      have := x_seq (r := .seq (.ifs (.cmp .eq (.idx (.slot 3) (.cst (.int 0))) (.cst (.int 0))) (.seq (.ret (.slot 0)) .nil) .nil) (.seq (.ret (.comp [4, 5] (.izip (.slot 0) (.slot 1)) (.tp 2 (.cons (.nm 4) (.cons (.nm 5) .nil))) (.cst (.bl true)) (.ite (.cmp .ne (.idx (.slot 5) (.cst (.int 0))) (.cst (.int 0))) (.call 5 (.cons (.slot 4) (.cons (.call 6 (.cons (.slot 3) (.cons (.slot 5) .nil))) .nil))) (.slot 4)))) .nil)) st1 (x_seqR (x_ifT ct (x_seqR (x_ret (v_slot rfl)))))
      simp only [b19, this, R.bd]
    · rw [e1, z]
      have : subF 0 x y = x := by
        unfold subF
        refine List.ext_getElem (by simp [hxy]) fun i h1 h2 => ?_
        simp
        grind
      rw [this]
  · rw [decide_eq_false z] at ct
    obtain ⟨ys, h', ec, gr, gy, ly, q⟩ := c_all (g := gg) (cf := run gg lf (k + 3)) (ci := runAt gg lf (k + 3)) (lf := lf) (vs := [4, 5]) (it := .izip (.slot 0) (.slot 1)) (e := .ite (.cmp .ne (.idx (.slot 5) (.cst (.int 0))) (.cst (.int 0))) (.call 5 (.cons (.slot 4) (.cons (.call 6 (.cons (.slot 3) (.cons (.slot 5) .nil))) .nil))) (.slot 4))
      (t := .tp 2 (.cons (.nm 4) (.cons (.nm 5) .nil))) (env := [some (.ref n), some (.ref m), some (.int (p : Int)), some (fr x[p]), none, none]) (h := h) (i0 := .tup [.int 3, .ref n, .ref m]) (xs := ((frs x).zip (frs y)).map fun p => .tup [p.1, p.2])
      (σ := sgE [some (.ref n), some (.ref m), some (.int (p : Int)), some (fr x[p]), none, none])
      (fun i d _ => ∃ (h1 : i < x.length) (h2 : i < y.length), d = fr (x[i] - x[p] * y[i])) (by
        have q1 := a1_at (seq_of e1)
        have q2 := a1_at (seq_of e2)
        simp only [ev, getS, nth, ofO, R.bd, q1, q2])
      (fun h' g => has_zip (g.get e1) (g.get e2) (by simp [hxy])) (fun d hd => by
        obtain ⟨pr, _, rfl⟩ := List.mem_map.mp hd
        rfl) (fun _ _ _ _ _ z => z) (fun _ _ _ _ _ z => z) (fun i hi h1 g1 _ => by
        have ix : i < x.length := by simp [hxy] at hi; omega
        have iy : i < y.length := by omega
        have ei : (((frs x).zip (frs y)).map fun p : D × D => D.tup [p.1, p.2])[i] = .tup [fr x[i], fr y[i]] := by simp
        rw [ei]
        show ∃ d h2, ev _ _ _ _ _ [some (.ref n), some (.ref m), some (.int (p : Int)), some (fr x[p]), some (fr x[i]), some (fr y[i])] h1 = .ok d h2 ∧ _
        have s1 := sx x[p] (List.getElem_mem hp)
        have s2 := sx x[i] (List.getElem_mem ix)
        have s3 := sy y[i] (List.getElem_mem iy)
        have cn : ev gg (run gg lf (k + 3)) (runAt gg lf (k + 3)) lf (.cmp .ne (.idx (.slot 5) (.cst (.int 0))) (.cst (.int 0))) [some (.ref n), some (.ref m), some (.int (p : Int)), some (fr x[p]), some (fr x[i]), some (fr y[i])] h1 = .ok (.bl (!(decide (y[i] = 0)))) h1 := v_cmp (v_idx (v_slot rfl) v_cst (idx0 _ _)) v_cst (by
          show some (!((y[i]).num == 0)) = _
          rw [num_zero])
        by_cases w : y[i] = 0
        · rw [decide_eq_true w] at cn
          refine ⟨fr x[i], h1, v_iteF cn (v_slot rfl), Gr.refl h1, ix, iy, ?_⟩
          rw [w]
          congr 1
          grind
        · rw [decide_eq_false w] at cn
          refine ⟨_, h1, v_iteT cn (v_call (v_cons (v_slot rfl) (v_cons (v_call (v_cons (v_slot rfl) (v_cons (v_slot rfl) v_nil)) (r_prod hl k _ _ h1 (s1.le (by omega)) (s3.le (by omega)))) v_nil)) (r_diff hl k _ _ h1 (s2.le (by omega)) ((s1.mul s3).le (by omega)))), Gr.refl h1, ix, iy, rfl⟩) (by simp; omega) (by simp; omega)
    refine ⟨h.next, h', ?_, gr, ?_, .inr (Nat.le_refl _)⟩
    · rw [bg]
      have := x_seq (r := .seq (.ifs (.cmp .eq (.idx (.slot 3) (.cst (.int 0))) (.cst (.int 0))) (.seq (.ret (.slot 0)) .nil) .nil) (.seq (.ret (.comp [4, 5] (.izip (.slot 0) (.slot 1)) (.tp 2 (.cons (.nm 4) (.cons (.nm 5) .nil))) (.cst (.bl true)) (.ite (.cmp .ne (.idx (.slot 5) (.cst (.int 0))) (.cst (.int 0))) (.call 5 (.cons (.slot 4) (.cons (.call 6 (.cons (.slot 3) (.cons (.slot 5) .nil))) .nil))) (.slot 4)))) .nil)) st1 (x_seq (x_ifF ct x_nil) (x_seqR (x_ret ec)))
      simp only [b19, this, R.bd]
    · rw [gy]
      congr 2
      refine List.ext_getElem (by simp [ly, subF, hxy]) fun i h1 h2 => ?_
      obtain ⟨ix, iy, e⟩ := q i h1
      rw [e]
      simp [subF]
end
end W57

set_option linter.all false
set_option maxRecDepth 100000
/-! WG: leaving. -/
namespace W57
open VI M57 L57
def tabSt (rows : List (List Rat)) (bs : List Nat) (cs : List Rat) : St := ⟨fun i j => (rows.getD i []).getD j 0, fun i => bs.getD i 0, fun j => cs.getD j 0⟩
theorem getD_at {α : Type} {l : List α} {i : Nat} {d : α} (h : i < l.length) : l.getD i d = l[i] := by simp [List.getD, h]
section
variable {g : G} {cf ci : Nat → List D → Hp → R D} {lf : Nat} {σ : Env} {h h1 h2 : Hp} {x y z : D} {a b : E}
theorem v_orT (e1 : ev g cf ci lf a σ h = .ok (.bl true) h1) : ev g cf ci lf (.or a b) σ h = .ok (.bl true) h1 := by simp only [ev, e1, R.bd]
theorem v_orF (e1 : ev g cf ci lf a σ h = .ok (.bl false) h1) (e2 : ev g cf ci lf b σ h1 = .ok x h2) : ev g cf ci lf (.or a b) σ h = .ok x h2 := by simp only [ev, e1, e2, R.bd]
theorem v_andT (e1 : ev g cf ci lf a σ h = .ok (.bl true) h1) (e2 : ev g cf ci lf b σ h1 = .ok x h2) : ev g cf ci lf (.and a b) σ h = .ok x h2 := by simp only [ev, e1, e2, R.bd]
theorem v_andF (e1 : ev g cf ci lf a σ h = .ok (.bl false) h1) : ev g cf ci lf (.and a b) σ h = .ok (.bl false) h1 := by simp only [ev, e1, R.bd]
theorem v_ienum {o : Option D} (e1 : ev g cf ci lf a σ h = .ok x h1) (e2 : atS x 0 h1 = some o) : ev g cf ci lf (.ienum a) σ h = .ok (.tup [.int 2, x]) h1 := by simp only [ev, e1, e2, R.bd]
end
theorem deq_fr (p q : Rat) : deq 64 (fr p) (fr q) = some (decide (p = q)) := by
  show some ((p.num == q.num) && (((p.den : Int) == (q.den : Int)) && true)) = _
  congr 1
  by_cases e : p = q
  · subst e; simp
  · rw [decide_eq_false e]
    by_cases e2 : p.num = q.num
    · have : p.den ≠ q.den := fun z => e (Rat.ext e2 z)
      have : (p.den : Int) ≠ (q.den : Int) := by omega
      rw [beq_eq_false_iff_ne.mpr this]; simp
    · rw [beq_eq_false_iff_ne.mpr e2]; simp
def enumL (xs : List D) : List D := (List.range xs.length).map fun i => .tup [.int (i : Nat), xs.getD i .non]
theorem has_enum {n : Nat} {xs : List D} {h : Hp} (e : h.get n = some (.lst xs)) : Has (.tup [.int 2, .ref n]) (enumL xs) h := by
  have a1 : ∀ i, i ≤ xs.length → atS (.ref n) i h = some (nth xs i) := fun i hi => by
    show (match seqOf h n with | some xs => bif Nat.ble i xs.length then some (nth xs i) else none | none => none) = _
    rw [seq_of e]
    show (bif Nat.ble i xs.length then some (nth xs i) else none) = _
    rw [Nat.ble_eq_true_of_le hi]; rfl
  have ln : (enumL xs).length = xs.length := by simp [enumL]
  refine ⟨fun i hi => ?_, ?_⟩
  · have hi' : i < xs.length := by rw [ln] at hi; exact hi
    show (match atS (.ref n) i h with | some (some x) => some (some (D.tup [.int i, x])) | r => r) = _
    rw [a1 i (by omega), nth_some hi']
    simp [enumL, List.getD, hi']
  · rw [ln]
    show (match atS (.ref n) xs.length h with | some (some x) => some (some (D.tup [.int (xs.length : Nat), x])) | r => r) = _
    rw [a1 _ (Nat.le_refl _), nth_none (Nat.le_refl _)]
theorem gt_fr {q : Rat} : decide (0 < q.num) = decide (0 < q) := by
  rw [decide_eq_decide, Rat.lt_iff]
  simp
theorem Sz.div {a b : Nat} {p q : Rat} (hp : Sz a p) (hq : Sz b q) (q0 : 0 < q) : Sz (a + b) (p / q) := by
  have qn : 0 < q.num := by simpa using (Rat.lt_iff 0 q).mp q0
  have d3 : q ≠ 0 := by intro z; rw [z] at q0; exact absurd q0 (by simp)
  have o : Ov ((p.den : Int) * q.num) ((p.num.natAbs * q.den : Nat) : Int) (p / q) := by
    have e3 : (p.num * (q.den : Int)).natAbs = p.num.natAbs * q.den := by rw [Int.natAbs_mul]; simp
    refine ⟨p.num * q.den, ?_, by omega, by omega⟩
    have d1 := den_ne p
    have d2 := den_ne q
    rw [Rat.intCast_mul, Rat.intCast_mul, ← mul_den p, ← mul_den q]
    grind
  have dp := Int.mul_pos (den_pos p) qn
  obtain ⟨o1, o2⟩ := o.parts (by omega)
  have e1 : (((p.num.natAbs * q.den : Nat) : Int)).natAbs = p.num.natAbs * q.den := by omega
  have e2 : ((p.den : Int) * q.num).natAbs = p.den * q.num.natAbs := by rw [Int.natAbs_mul]; simp
  rw [e1] at o1
  rw [e2] at o2
  exact ⟨Nat.lt_of_le_of_lt o1 (lt_mul hp.1 hq.2), Nat.lt_of_le_of_lt o2 (lt_mul hp.2 hq.1)⟩
section
variable {lf : Nat} (hl : 300000 ≤ lf)
/-- the best row among the first i -/
def Best (r p : Nat) (s : St) (m : Nat) (i : Nat) (a : Nat) : Prop := a < i ∧ 0 < s.T a p ∧ ∀ j, j < i → 0 < s.T j p → s.T a (m + r) / s.T a p < s.T j (m + r) / s.T j p ∨ (s.T a (m + r) / s.T a p = s.T j (m + r) / s.T j p ∧ s.b a ≤ s.b j)
def ownD (r p m : Nat) (s : St) (a : Nat) : D := .tup [fr (s.T a (m + r) / s.T a p), .int (s.b a : Nat), .int (a : Nat)]
include hl in
theorem r_leaving (k : Nat) {h : Hp} {m r p : Nat} {a : Ad} {sg : List Int} {rows : List (List Rat)} {bs : List Nat} {cs : List Rat} (x : TabAt h m r a sg rows bs cs) (hp : p < m + r) (hr : r < 1000) (sz : ∀ w ∈ rows, ∀ q ∈ w, Sz 1900 q)
    (hx : ∃ i, i < r ∧ 0 < (tabSt rows bs cs).T i p) : ∃ q, run gg lf (k + 4) 14 [.ref a.t, .int (p : Int)] h = .ok (.int (q : Nat)) h ∧ Lv m r (tabSt rows bs cs) q p := by
  have bg : begin [D.ref a.t, D.int (p : Int)] 6 = [some (.ref a.t), some (.int (p : Int)), none, none, none, none] := rfl
  rw [call_of (i := ⟨2, 6, b14⟩) rfl rfl, bg]
  have rl := x.rl
  have rr := x.rr
  have hit : ev gg (run gg lf (k + 3)) (runAt gg lf (k + 3)) lf (.ienum (.fld (.slot 0) 7)) [some (.ref a.t), some (.int (p : Int)), some .non, none, none, none] h = .ok (.tup [.int 2, .ref a.R]) h := v_ienum (fld_t x.t rfl rfl) (a1_at (seq_of x.R))
  obtain ⟨r', h', e1, eh, e2⟩ := for_go (it := .tup [.int 2, .ref a.R]) (t := .tp 2 (.cons (.nm 3) (.cons (.nm 4) .nil))) (xs := enumL (refs a.rs)) (f := lf)
    (b := ex gg (run gg lf (k + 3)) (runAt gg lf (k + 3)) lf (.seq (.ifs (.cmp .gt (.idx (.idx (.slot 4) (.slot 1)) (.cst (.int 0))) (.cst (.int 0))) (.seq (.set 5 (.tup (.cons (.call 7 (.cons (.idx (.slot 4) (.neg (.cst (.int 1)))) (.cons (.idx (.slot 4) (.slot 1)) .nil))) (.cons (.idx (.fld (.slot 0) 5) (.slot 3)) (.cons (.slot 3) .nil))))) (.seq (.ifs (.or (.cmp .is (.slot 2) (.cst (.non))) (.or (.call 8 (.cons (.idx (.slot 5) (.cst (.int 0))) (.cons (.idx (.slot 2) (.cst (.int 0))) .nil))) (.and (.cmp .eq (.idx (.slot 5) (.cst (.int 0))) (.idx (.slot 2) (.cst (.int 0)))) (.cmp .lt (.idx (.slot 5) (.cst (.int 1))) (.idx (.slot 2) (.cst (.int 1))))))) (.seq (.set 2 (.slot 5)) .nil) .nil) .nil)) .nil) .nil))
    (fun i σ h1 => h1 = h ∧ ∃ o3 o4 o5, (σ = [some (.ref a.t), some (.int (p : Int)), some .non, o3, o4, o5] ∧ ∀ j, j < i → ¬ 0 < (tabSt rows bs cs).T j p) ∨ ∃ q, σ = [some (.ref a.t), some (.int (p : Int)), some (ownD r p m (tabSt rows bs cs) q), o3, o4, o5] ∧ Best r p (tabSt rows bs cs) m i q)
    (fun fl h1 => h1 = h ∧ ∃ q o3 o4 o5, fl = .nx [some (.ref a.t), some (.int (p : Int)), some (ownD r p m (tabSt rows bs cs) q), o3, o4, o5] ∧ Best r p (tabSt rows bs cs) m r q)
    (fun i hi σ h1 ⟨j1, o3, o4, o5, j2⟩ => by
      subst j1
      have ir : i < a.rs.length := by simp [enumL, refs] at hi; exact hi
      have iw : i < rows.length := by omega
      have ei : (enumL (refs a.rs))[i] = .tup [.int (i : Nat), .ref a.rs[i]] := by simp [enumL, refs, List.getD, ir]
      have wl := x.wl rows[i] (List.getElem_mem iw)
      have row := x.row i ir iw
      have Tp : (tabSt rows bs cs).T i p = (rows[i])[p]'(by omega) := by
        show (rows.getD i []).getD p 0 = _
        rw [getD_at iw, getD_at]
      have Tl : (tabSt rows bs cs).T i (m + r) = (rows[i])[m + r]'(by omega) := by
        show (rows.getD i []).getD (m + r) 0 = _
        rw [getD_at iw, getD_at]
      have ip : idx2 (.ref a.rs[i]) (.int (p : Int)) h1 = some (fr ((tabSt rows bs cs).T i p)) := by
        rw [idx_lst row (by simp; omega), Tp]
        simp
      have il : idx2 (.ref a.rs[i]) (.int (-1)) h1 = some (fr ((tabSt rows bs cs).T i (m + r))) := by
        rw [idx_last row (by simp; omega), Tl]
        have : (rows[i]).length - 1 = m + r := by omega
        simp [this]
      have ib : idx2 (.ref a.B) (.int (i : Int)) h1 = some (.int ((tabSt rows bs cs).b i : Nat)) := by
        have bl := x.bl
        rw [idx_lst x.B (by simp [nats]; omega)]
        show some _ = some (D.int ((bs.getD i 0 : Nat) : Int))
        rw [getD_at (by omega)]
        simp [nats]
      have sp : Sz 1900 ((tabSt rows bs cs).T i p) := by rw [Tp]; exact sz _ (List.getElem_mem iw) _ (List.getElem_mem _)
      have sl : Sz 1900 ((tabSt rows bs cs).T i (m + r)) := by rw [Tl]; exact sz _ (List.getElem_mem iw) _ (List.getElem_mem _)
      refine ⟨(has_enum x.R).1 i hi, ?_⟩
      rw [ei]
      have cg : ∀ (bD : D) (o5 : Option D), ev gg (run gg lf (k + 3)) (runAt gg lf (k + 3)) lf (.cmp .gt (.idx (.idx (.slot 4) (.slot 1)) (.cst (.int 0))) (.cst (.int 0))) [some (.ref a.t), some (.int (p : Int)), some bD, some (.int (i : Nat)), some (.ref a.rs[i]), o5] h1 = .ok (.bl (decide (0 < (tabSt rows bs cs).T i p))) h1 := fun bD o5 => by
        rw [← gt_fr]
        exact v_cmp (v_idx (v_idx (v_slot rfl) (v_slot rfl) ip) v_cst (idx0 _ _)) v_cst rfl
      by_cases q0 : 0 < (tabSt rows bs cs).T i p
      · have own : ∀ (bD : D) (o5 : Option D), ex gg (run gg lf (k + 3)) (runAt gg lf (k + 3)) lf (.set 5 (.tup (.cons (.call 7 (.cons (.idx (.slot 4) (.neg (.cst (.int 1)))) (.cons (.idx (.slot 4) (.slot 1)) .nil))) (.cons (.idx (.fld (.slot 0) 5) (.slot 3)) (.cons (.slot 3) .nil))))) [some (.ref a.t), some (.int (p : Int)), some bD, some (.int (i : Nat)), some (.ref a.rs[i]), o5] h1 = .ok (.nx [some (.ref a.t), some (.int (p : Int)), some bD, some (.int (i : Nat)), some (.ref a.rs[i]), some (ownD r p m (tabSt rows bs cs) i)]) h1 := fun bD o5 =>
          x_set (v_tup (v_cons (v_call (v_cons (v_idx (v_slot rfl) (v_neg (v_cst (x := .int 1))) il) (v_cons (v_idx (v_slot rfl) (v_slot rfl) ip) v_nil)) (r_quot hl k _ _ h1 (sl.le (by omega)) (sp.le (by omega)) q0)) (v_cons (v_idx (fld_t x.t rfl (f := 5) (d := .ref a.B) rfl) (v_slot rfl) ib) (v_cons (v_slot rfl) v_nil))) (by simp))
        have si : Sz 4000 ((tabSt rows bs cs).T i (m + r) / (tabSt rows bs cs).T i p) := (sl.div sp q0).le (by omega)
        rcases j2 with ⟨e, n⟩ | ⟨q, e, b⟩
        · subst e
          refine ⟨_, rfl, .nx [some (.ref a.t), some (.int (p : Int)), some (ownD r p m (tabSt rows bs cs) i), some (.int (i : Nat)), some (.ref a.rs[i]), some (ownD r p m (tabSt rows bs cs) i)], h1, ?_, rfl, _, _, _, .inr ⟨i, rfl, by omega, q0, fun j hj pj => ?_⟩⟩
          · have c := cg .non o5
            rw [decide_eq_true q0] at c
            refine x_seq (x_ifT c (x_seq (own .non o5) (x_seq (x_ifT (v_orT (v_cmp (x := .non) (v_slot rfl) v_cst rfl)) (x_seq (x_set (i := 2) (v_slot rfl)) x_nil)) x_nil))) x_nil
          · by_cases ji : j = i
            · subst ji; exact .inr ⟨rfl, Nat.le_refl _⟩
            · exact absurd pj (n j (by omega))
        · subst e
          have c := cg (ownD r p m (tabSt rows bs cs) q) o5
          rw [decide_eq_true q0] at c
          have qi : q < i := b.1
          have qw : q < rows.length := by omega
          have wq := x.wl rows[q] (List.getElem_mem qw)
          have sq1 : Sz 1900 ((tabSt rows bs cs).T q p) := by
            show Sz 1900 ((rows.getD q []).getD p 0)
            rw [getD_at qw, getD_at (by omega)]; exact sz _ (List.getElem_mem qw) _ (List.getElem_mem _)
          have sq2 : Sz 1900 ((tabSt rows bs cs).T q (m + r)) := by
            show Sz 1900 ((rows.getD q []).getD (m + r) 0)
            rw [getD_at qw, getD_at (by omega)]; exact sz _ (List.getElem_mem qw) _ (List.getElem_mem _)
          have sq : Sz 4000 ((tabSt rows bs cs).T q (m + r) / (tabSt rows bs cs).T q p) := (sq2.div sq1 b.2.1).le (by omega)
          have f5 : ev gg (run gg lf (k + 3)) (runAt gg lf (k + 3)) lf (.idx (.slot 5) (.cst (.int 0))) [some (.ref a.t), some (.int (p : Int)), some (ownD r p m (tabSt rows bs cs) q), some (.int (i : Nat)), some (.ref a.rs[i]), some (ownD r p m (tabSt rows bs cs) i)] h1 = .ok (fr ((tabSt rows bs cs).T i (m + r) / (tabSt rows bs cs).T i p)) h1 := v_idx (x := ownD r p m (tabSt rows bs cs) i) (v_slot rfl) (v_cst (x := .int 0)) rfl
          have f2 : ev gg (run gg lf (k + 3)) (runAt gg lf (k + 3)) lf (.idx (.slot 2) (.cst (.int 0))) [some (.ref a.t), some (.int (p : Int)), some (ownD r p m (tabSt rows bs cs) q), some (.int (i : Nat)), some (.ref a.rs[i]), some (ownD r p m (tabSt rows bs cs) i)] h1 = .ok (fr ((tabSt rows bs cs).T q (m + r) / (tabSt rows bs cs).T q p)) h1 := v_idx (x := ownD r p m (tabSt rows bs cs) q) (v_slot rfl) (v_cst (x := .int 0)) rfl
          have g5 : ev gg (run gg lf (k + 3)) (runAt gg lf (k + 3)) lf (.idx (.slot 5) (.cst (.int 1))) [some (.ref a.t), some (.int (p : Int)), some (ownD r p m (tabSt rows bs cs) q), some (.int (i : Nat)), some (.ref a.rs[i]), some (ownD r p m (tabSt rows bs cs) i)] h1 = .ok (.int ((tabSt rows bs cs).b i : Nat)) h1 := v_idx (x := ownD r p m (tabSt rows bs cs) i) (v_slot rfl) (v_cst (x := .int 1)) rfl
          have g2 : ev gg (run gg lf (k + 3)) (runAt gg lf (k + 3)) lf (.idx (.slot 2) (.cst (.int 1))) [some (.ref a.t), some (.int (p : Int)), some (ownD r p m (tabSt rows bs cs) q), some (.int (i : Nat)), some (.ref a.rs[i]), some (ownD r p m (tabSt rows bs cs) i)] h1 = .ok (.int ((tabSt rows bs cs).b q : Nat)) h1 := v_idx (x := ownD r p m (tabSt rows bs cs) q) (v_slot rfl) (v_cst (x := .int 1)) rfl
          have isE := v_cmp (g := gg) (cf := run gg lf (k + 3)) (ci := runAt gg lf (k + 3)) (lf := lf) (h := h1) (o := .is) (x := ownD r p m (tabSt rows bs cs) q) (y := .non) (r := false) (v_slot (i := 2) (σ := [some (.ref a.t), some (.int (p : Int)), some (ownD r p m (tabSt rows bs cs) q), some (.int (i : Nat)), some (.ref a.rs[i]), some (ownD r p m (tabSt rows bs cs) i)]) rfl) v_cst rfl
          have ltE := v_call (f := 8) (v_cons f5 (v_cons f2 v_nil)) (r_less (lf := lf) (k + 2) _ _ h1 si sq)
          have eqE := v_cmp (o := .eq) f5 f2 (deq_fr _ _)
          have bE := v_cmp (o := .lt) g5 g2 (r := decide (((tabSt rows bs cs).b i : Int) < ((tabSt rows bs cs).b q : Int))) rfl
          generalize ht : (tabSt rows bs cs).T i (m + r) / (tabSt rows bs cs).T i p = ti at *
          generalize hq : (tabSt rows bs cs).T q (m + r) / (tabSt rows bs cs).T q p = tq at *
          have keep : ∀ (hor : ∀ j, j = i → tq < ti ∨ (tq = ti ∧ (tabSt rows bs cs).b q ≤ (tabSt rows bs cs).b i)), Best r p (tabSt rows bs cs) m (i + 1) q := fun hor => ⟨by omega, b.2.1, fun j hj pj => by
            by_cases ji : j = i
            · subst ji; rw [ht, hq]; exact hor j rfl
            · rw [hq]; have := b.2.2 j (by omega) pj; rw [hq] at this; exact this⟩
          have chg : (ti < tq ∨ (ti = tq ∧ (tabSt rows bs cs).b i < (tabSt rows bs cs).b q)) → Best r p (tabSt rows bs cs) m (i + 1) i := fun hor => ⟨by omega, q0, fun j hj pj => by
            rw [ht]
            by_cases ji : j = i
            · subst ji; rw [ht]; exact .inr ⟨rfl, Nat.le_refl _⟩
            · have := b.2.2 j (by omega) pj
              rw [hq] at this
              rcases hor with w | ⟨w1, w2⟩ <;> rcases this with y | ⟨y1, y2⟩
              · left; grind
              · left; grind
              · left; grind
              · right; exact ⟨by grind, by omega⟩⟩
          have fin1 : ∀ {oE : E}, ev gg (run gg lf (k + 3)) (runAt gg lf (k + 3)) lf oE [some (.ref a.t), some (.int (p : Int)), some (ownD r p m (tabSt rows bs cs) q), some (.int (i : Nat)), some (.ref a.rs[i]), some (ownD r p m (tabSt rows bs cs) i)] h1 = .ok (.bl true) h1 → ex gg (run gg lf (k + 3)) (runAt gg lf (k + 3)) lf (.ifs oE (.seq (.set 2 (.slot 5)) .nil) .nil) [some (.ref a.t), some (.int (p : Int)), some (ownD r p m (tabSt rows bs cs) q), some (.int (i : Nat)), some (.ref a.rs[i]), some (ownD r p m (tabSt rows bs cs) i)] h1 = .ok (.nx [some (.ref a.t), some (.int (p : Int)), some (ownD r p m (tabSt rows bs cs) i), some (.int (i : Nat)), some (.ref a.rs[i]), some (ownD r p m (tabSt rows bs cs) i)]) h1 := fun e => x_ifT e (x_seq (x_set (i := 2) (v_slot rfl)) x_nil)
          by_cases l : ti < tq
          · rw [decide_eq_true l] at ltE
            exact ⟨_, rfl, _, h1, x_seq (x_ifT c (x_seq (own _ o5) (x_seq (fin1 (v_orF isE (v_orT ltE))) x_nil))) x_nil, rfl, _, _, _, .inr ⟨i, rfl, chg (.inl l)⟩⟩
          · rw [decide_eq_false l] at ltE
            by_cases e : ti = tq
            · rw [decide_eq_true e] at eqE
              by_cases w : (tabSt rows bs cs).b i < (tabSt rows bs cs).b q
              · rw [decide_eq_true (by omega)] at bE
                exact ⟨_, rfl, _, h1, x_seq (x_ifT c (x_seq (own _ o5) (x_seq (fin1 (v_orF isE (v_orF ltE (v_andT eqE bE)))) x_nil))) x_nil, rfl, _, _, _, .inr ⟨i, rfl, chg (.inr ⟨e, w⟩)⟩⟩
              · rw [decide_eq_false (by omega)] at bE
                exact ⟨_, rfl, _, h1, x_seq (x_ifT c (x_seq (own _ o5) (x_seq (x_ifF (v_orF isE (v_orF ltE (v_andT eqE bE))) x_nil) x_nil))) x_nil, rfl, _, _, _, .inr ⟨q, rfl, keep fun _ _ => .inr ⟨e.symm, by omega⟩⟩⟩
            · rw [decide_eq_false e] at eqE
              exact ⟨_, rfl, _, h1, x_seq (x_ifT c (x_seq (own _ o5) (x_seq (x_ifF (v_orF isE (v_orF ltE (v_andF eqE))) x_nil) x_nil))) x_nil, rfl, _, _, _, .inr ⟨q, rfl, keep fun _ _ => .inl (by grind)⟩⟩
      · have dn := decide_eq_false q0
        rcases j2 with ⟨e, n⟩ | ⟨q, e, b⟩
        · subst e
          have c := cg .non o5
          rw [dn] at c
          refine ⟨_, rfl, .nx _, h1, x_seq (x_ifF c x_nil) x_nil, rfl, _, _, _, .inl ⟨rfl, fun j hj => ?_⟩⟩
          by_cases ji : j = i
          · subst ji; exact q0
          · exact n j (by omega)
        · subst e
          have c := cg (ownD r p m (tabSt rows bs cs) q) o5
          rw [dn] at c
          refine ⟨_, rfl, .nx _, h1, x_seq (x_ifF c x_nil) x_nil, rfl, _, _, _, .inr ⟨q, rfl, by have := b.1; omega, b.2.1, fun j hj pj => ?_⟩⟩
          by_cases ji : j = i
          · subst ji; exact absurd pj q0
          · exact b.2.2 j (by omega) pj)
    (fun σ h1 ⟨j1, o3, o4, o5, j2⟩ => by
      have ln : (enumL (refs a.rs)).length = r := by simp [enumL, refs]; omega
      refine ⟨(has_enum (h := h1) (by rw [j1]; exact x.R)).2, j1, ?_⟩
      rw [ln] at j2
      rcases j2 with ⟨_, n⟩ | ⟨q, e, b⟩
      · obtain ⟨i, hi, hp⟩ := hx
        exact absurd hp (n i hi)
      · exact ⟨q, o3, o4, o5, by rw [e], b⟩)
    (σ := [some (.ref a.t), some (.int (p : Int)), some .non, none, none, none]) (h := h) ⟨rfl, none, none, none, .inl ⟨rfl, fun j hj => by omega⟩⟩ (by simp [enumL, refs]; omega)
  rw [eh] at e1
  obtain ⟨q, o3, o4, o5, rfl, b⟩ := e2
  refine ⟨q, ?_, ⟨b.1, by omega, b.2.1, b.2.2⟩⟩
  have f2 : ex gg (run gg lf (k + 3)) (runAt gg lf (k + 3)) lf (.seq (.ret (.idx (.slot 2) (.cst (.int 2)))) .nil) [some (.ref a.t), some (.int (p : Int)), some (ownD r p m (tabSt rows bs cs) q), o3, o4, o5] h = .ok (.rt (.int (q : Nat))) h :=
    x_seqR (x_ret (v_idx (x := ownD r p m (tabSt rows bs cs) q) (v_slot rfl) (v_cst (x := .int 2)) rfl))
  have this := x_seq (x_set (i := 2) (x := .non) (σ := [some (.ref a.t), some (.int (p : Int)), none, none, none, none]) (v_cst (h := h) (g := gg) (cf := run gg lf (k + 3)) (ci := runAt gg lf (k + 3)) (lf := lf))) (x_seq (x_fr hit e1) f2)
  simp only [b14, this, R.bd]
end
end W57

set_option linter.all false
set_option maxRecDepth 100000
/-! WH: turn. -/
namespace W57
open VI M57 L57
section
variable {lf : Nat} (hl : 300000 ≤ lf)
include hl in
/-- the row that is divided -/
theorem piv_row (k : Nat) {h : Hp} {n : Nat} {x : List Rat} {it : E} {env : Env} {q : Rat} (e0 : ev gg (run gg lf (k + 3)) (runAt gg lf (k + 3)) lf it env h = .ok (.ref n) h) (e1 : h.get n = some (.lst (frs x))) (hx : x.length < 1000) (sx : ∀ u ∈ x, Sz 1900 u) (sq : Sz 1900 q) (q0 : 0 < q) (hs : ∀ d, getS (setS (wipeL env [5]) 5 d) 5 = some d ∧ getS (setS (wipeL env [5]) 5 d) 3 = some (fr q)) :
    ∃ h', ev gg (run gg lf (k + 3)) (runAt gg lf (k + 3)) lf (.comp [5] (.iseq it) (.nm 5) (.cst (.bl true)) (.ite (.cmp .ne (.idx (.slot 5) (.cst (.int 0))) (.cst (.int 0))) (.call 7 (.cons (.slot 5) (.cons (.slot 3) .nil))) (.slot 5))) env h = .ok (.ref h.next) h' ∧ Gr h h' ∧ h'.get h.next = some (.lst (frs (x.map fun u => u / q))) := by
  have hit : ev gg (run gg lf (k + 3)) (runAt gg lf (k + 3)) lf (.iseq it) env h = .ok (.tup [.int 0, .ref n]) h := by
    simp only [ev, e0, R.bd, a1_at (seq_of e1)]
  obtain ⟨ys, h', ec, gr, gy, ly, qq⟩ := c_all (vs := [5]) (t := .nm 5) (env := env) (fun i d _ => ∃ h1 : i < x.length, d = fr (x[i] / q)) (σ := fun d => setS (wipeL env [5]) 5 d) hit (fun h' g => has_lst (g.get e1)) (fun d _ => rfl) (fun _ _ _ _ _ z => z) (fun _ _ _ _ _ z => z)
    (e := .ite (.cmp .ne (.idx (.slot 5) (.cst (.int 0))) (.cst (.int 0))) (.call 7 (.cons (.slot 5) (.cons (.slot 3) .nil))) (.slot 5)) (fun i hi h1 g1 _ => by
      have ix : i < x.length := by simpa using hi
      have ei : (frs x)[i] = fr x[i] := by simp
      rw [ei]
      obtain ⟨s5, s3⟩ := hs (fr x[i])
      have cn : ev gg (run gg lf (k + 3)) (runAt gg lf (k + 3)) lf (.cmp .ne (.idx (.slot 5) (.cst (.int 0))) (.cst (.int 0))) (setS (wipeL env [5]) 5 (fr x[i])) h1 = .ok (.bl (!(decide (x[i] = 0)))) h1 := v_cmp (v_idx (v_slot s5) v_cst (idx0 _ _)) v_cst (by
        show some (!((x[i]).num == 0)) = _
        rw [num_zero])
      by_cases w : x[i] = 0
      · rw [decide_eq_true w] at cn
        refine ⟨fr x[i], h1, v_iteF cn (v_slot s5), Gr.refl h1, ix, ?_⟩
        rw [w, Rat.div_def]
        congr 1
        grind
      · rw [decide_eq_false w] at cn
        exact ⟨_, h1, v_iteT cn (v_call (v_cons (v_slot s5) (v_cons (v_slot s3) v_nil)) (r_quot hl k _ _ h1 ((sx _ (List.getElem_mem ix)).le (by omega)) (sq.le (by omega)) q0)), Gr.refl h1, ix, rfl⟩) (by simp; omega) (by simp; omega)
  refine ⟨h', ec, gr, ?_⟩
  rw [gy]
  congr 2
  refine List.ext_getElem (by simp [ly]) fun i h1 h2 => ?_
  obtain ⟨ix, e⟩ := qq i h1
  rw [e]
  simp
end
theorem refs_set (ns : List Nat) (i n : Nat) : (refs ns).set i (.ref n) = refs (ns.set i n) := by simp [refs, List.map_set]
/-- a row put in another's place -/
theorem TabAt.setRow {h : Hp} {m r : Nat} {a : Ad} {sg : List Int} {rows : List (List Rat)} {bs : List Nat} {cs : List Rat} (x : TabAt h m r a sg rows bs cs) {i n : Nat} {w : List Rat} (hn : h.get n = some (.lst (frs w))) (wl : w.length = m + r + 1) (n1 : a.R ≠ n) (n2 : a.B ≠ n) :
    TabAt (h.set a.R (.lst (refs (a.rs.set i n)))) m r { a with rs := a.rs.set i n } sg (rows.set i w) bs cs := by
  have lt := Hp.lt_of_get x.R
  have g : ∀ k, (h.set a.R (.lst (refs (a.rs.set i n)))).get k = if k = a.R then some (.lst (refs (a.rs.set i n))) else h.get k := fun k => Hp.get_set _ _ _ _ lt
  have mem : ∀ y, y ∈ a.rs.set i n → y ∈ a.rs ∨ y = n := fun y hy => List.mem_or_eq_of_mem_set hy
  refine { t := ?_, S := ?_, R := ?_, B := ?_, C := ?_, rl := ?_, row := fun j h1 h2 => ?_, neR := ?_, neB := ?_, sl := x.sl, rr := ?_, bl := x.bl, cl := x.cl, wl := fun y hy => ?_ }
  · rw [g, if_neg (Ne.symm x.neR.1)]; exact x.t
  · rw [g, if_neg (Ne.symm x.neR.2.1)]; exact x.S
  · rw [g, if_pos rfl]
  · rw [g, if_neg (Ne.symm x.neR.2.2.1)]; exact x.B
  · rw [g, if_neg (Ne.symm x.neR.2.2.2.1)]; exact x.C
  · simp [x.rl]
  · have h1' : j < a.rs.length := by simpa using h1
    have h2' : j < rows.length := by simpa using h2
    show (h.set a.R _).get (a.rs.set i n)[j] = some (.lst (frs (rows.set i w)[j]))
    by_cases e : i = j
    · subst e
      rw [List.getElem_set_self, List.getElem_set_self, g, if_neg (Ne.symm n1)]
      exact hn
    · rw [List.getElem_set_ne e, List.getElem_set_ne e, g, if_neg (Ne.symm (x.neR.2.2.2.2 _ (List.getElem_mem h1')))]
      exact x.row j h1' h2'
  · refine ⟨x.neR.1, x.neR.2.1, x.neR.2.2.1, x.neR.2.2.2.1, fun y hy => ?_⟩
    rcases mem y hy with e | e
    · exact x.neR.2.2.2.2 y e
    · rw [e]; exact n1
  · refine ⟨x.neB.1, x.neB.2.1, x.neB.2.2.1, fun y hy => ?_⟩
    rcases mem y hy with e | e
    · exact x.neB.2.2.2 y e
    · rw [e]; exact n2
  · simp [x.rr]
  · rcases List.mem_or_eq_of_mem_set hy with e | e
    · exact x.wl y e
    · rw [e]; exact wl
/-- another cost -/
theorem TabAt.setCost {h : Hp} {m r : Nat} {a : Ad} {sg : List Int} {rows : List (List Rat)} {bs : List Nat} {cs : List Rat} (x : TabAt h m r a sg rows bs cs) {n : Nat} {w : List Rat} (hn : h.get n = some (.lst (frs w))) (wl : w.length = m + r + 1) (n1 : a.R ≠ n) (n2 : a.B ≠ n) :
    TabAt (h.set a.t (tObj m r { a with C := n })) m r { a with C := n } sg rows bs w := by
  have lt := Hp.lt_of_get x.t
  have g : ∀ k, (h.set a.t (tObj m r { a with C := n })).get k = if k = a.t then some (tObj m r { a with C := n }) else h.get k := fun k => Hp.get_set _ _ _ _ lt
  have nt : ∀ {k : Nat} {xs : List D}, h.get k = some (.lst xs) → k ≠ a.t := fun e z => by rw [z, x.t] at e; simp [tObj] at e
  refine { t := ?_, S := ?_, R := ?_, B := ?_, C := ?_, rl := x.rl, row := fun j h1 h2 => ?_, neR := ?_, neB := ?_, sl := x.sl, rr := x.rr, bl := x.bl, cl := wl, wl := x.wl }
  · rw [g, if_pos rfl]
  · rw [g, if_neg (nt x.S)]; exact x.S
  · rw [g, if_neg (nt x.R)]; exact x.R
  · rw [g, if_neg (nt x.B)]; exact x.B
  · rw [g, if_neg (nt hn)]; exact hn
  · rw [g, if_neg (nt (x.row j h1 h2))]; exact x.row j h1 h2
  · exact ⟨x.neR.1, x.neR.2.1, x.neR.2.2.1, n1, x.neR.2.2.2.2⟩
  · exact ⟨x.neB.1, x.neB.2.1, n2, x.neB.2.2.2⟩
/-- another in the basis -/
theorem TabAt.setB {h : Hp} {m r : Nat} {a : Ad} {sg : List Int} {rows : List (List Rat)} {bs : List Nat} {cs : List Rat} (x : TabAt h m r a sg rows bs cs) (i p : Nat) : TabAt (h.set a.B (.lst (nats (bs.set i p)))) m r a sg rows (bs.set i p) cs := by
  have lt := Hp.lt_of_get x.B
  have g : ∀ k, (h.set a.B (.lst (nats (bs.set i p)))).get k = if k = a.B then some (.lst (nats (bs.set i p))) else h.get k := fun k => Hp.get_set _ _ _ _ lt
  refine { t := ?_, S := ?_, R := ?_, B := ?_, C := ?_, rl := x.rl, row := fun j h1 h2 => ?_, neR := x.neR, neB := x.neB, sl := x.sl, rr := x.rr, bl := by simp [x.bl], cl := x.cl, wl := x.wl }
  · rw [g, if_neg (Ne.symm x.neB.1)]; exact x.t
  · rw [g, if_neg (Ne.symm x.neB.2.1)]; exact x.S
  · rw [g, if_neg x.neR.2.2.1]; exact x.R
  · rw [g, if_pos rfl]
  · rw [g, if_neg (Ne.symm x.neB.2.2.1)]; exact x.C
  · rw [g, if_neg (Ne.symm (x.neB.2.2.2 _ (List.getElem_mem h1)))]; exact x.row j h1 h2
end W57

set_option linter.all false
set_option maxRecDepth 100000
/-! WI: turn, whole. -/
namespace W57
open VI M57 L57
/-- what stood stands, but for W -/
structure Gx (W : List Nat) (h h' : Hp) : Prop where
  le : h.next ≤ h'.next
  eq : ∀ n, n < h.next → n ∉ W → h'.get n = h.get n
theorem Gx.refl (W : List Nat) (h : Hp) : Gx W h h := ⟨Nat.le_refl _, fun _ _ _ => rfl⟩
theorem Gx.trans {W : List Nat} {a b c : Hp} (x : Gx W a b) (y : Gx W b c) : Gx W a c := ⟨Nat.le_trans x.le y.le, fun n hn hw => (y.eq n (Nat.lt_of_lt_of_le hn x.le) hw).trans (x.eq n hn hw)⟩
theorem Gr.gx {W : List Nat} {h h' : Hp} (x : Gr h h') : Gx W h h' := ⟨x.le, fun n hn _ => x.eq n hn⟩
theorem Gx.set {W : List Nat} {h h' : Hp} (x : Gx W h h') {n : Nat} (hn : n ∈ W) (hl : n < h'.next) (o : O) : Gx W h (h'.set n o) :=
  ⟨x.le, fun m hm hw => by
    have : m ≠ n := fun z => hw (by rw [z]; exact hn)
    rw [Hp.get_set _ _ _ _ hl, if_neg this]; exact x.eq m hm hw⟩
/-- the rows within a turn: i of them looked at -/
def rowI (r at_ p : Nat) (rows : List (List Rat)) (piv : List Rat) (i : Nat) : List (List Rat) := (List.range r).map fun j => if j = at_ then piv else if j < i then subF ((rows.getD j []).getD p 0) (rows.getD j []) piv else rows.getD j []
theorem rowI_len {r at_ p : Nat} {rows : List (List Rat)} {piv : List Rat} {i : Nat} : (rowI r at_ p rows piv i).length = r := by simp [rowI]
theorem rowI_get {r at_ p : Nat} {rows : List (List Rat)} {piv : List Rat} {i j : Nat} (h : j < (rowI r at_ p rows piv i).length) : (rowI r at_ p rows piv i)[j] = if j = at_ then piv else if j < i then subF ((rows.getD j []).getD p 0) (rows.getD j []) piv else rows.getD j [] := by simp [rowI]
theorem rowI_zero {r at_ p : Nat} {rows : List (List Rat)} {piv : List Rat} (hr : rows.length = r) : rowI r at_ p rows piv 0 = rows.set at_ piv := by
  refine List.ext_getElem (by simp [rowI_len, hr]) fun j h1 h2 => ?_
  have hj : j < rows.length := by simpa using h2
  rw [rowI_get]
  by_cases e : j = at_
  · subst e; simp
  · rw [if_neg e, if_neg (by omega), List.getElem_set_ne (Ne.symm e), getD_at hj]
theorem rowI_at {r at_ p : Nat} {rows : List (List Rat)} {piv : List Rat} : rowI r at_ p rows piv (at_ + 1) = rowI r at_ p rows piv at_ := by
  refine List.ext_getElem (by simp [rowI_len]) fun j h1 h2 => ?_
  rw [rowI_get, rowI_get]
  by_cases e : j = at_
  · rw [if_pos e, if_pos e]
  · rw [if_neg e, if_neg e]
    by_cases l : j < at_
    · rw [if_pos l, if_pos (by omega)]
    · rw [if_neg l, if_neg (by omega)]
theorem rowI_succ {r at_ p : Nat} {rows : List (List Rat)} {piv : List Rat} {i : Nat} (hi : i ≠ at_) : rowI r at_ p rows piv (i + 1) = (rowI r at_ p rows piv i).set i (subF ((rows.getD i []).getD p 0) (rows.getD i []) piv) := by
  refine List.ext_getElem (by simp [rowI_len]) fun j h1 h2 => ?_
  by_cases e : i = j
  · subst e
    rw [rowI_get, List.getElem_set_self, if_neg hi, if_pos (Nat.lt_succ_self i)]
  · rw [rowI_get, List.getElem_set_ne e, rowI_get]
    by_cases w : j = at_
    · rw [if_pos w, if_pos w]
    · rw [if_neg w, if_neg w]
      by_cases l : j < i
      · rw [if_pos l, if_pos (by omega)]
      · rw [if_neg l, if_neg (by omega)]
end W57

set_option linter.all false
set_option maxRecDepth 100000
/-! WJ: turn, walked. -/
namespace W57
open VI M57 L57
section
variable {g : G} {cf ci : Nat → List D → Hp → R D} {lf : Nat} {σ : Env} {h h1 h2 h3 : Hp} {y : D} {a b e : E}
theorem x_setI {n : Nat} {i : Nat} {xs : List D} (e1 : ev g cf ci lf e σ h = .ok y h1) (e2 : ev g cf ci lf a σ h1 = .ok (.ref n) h2) (e3 : ev g cf ci lf b σ h2 = .ok (.int (i : Int)) h3) (e4 : h3.get n = some (.lst xs)) (hi : i < xs.length) : ex g cf ci lf (.setI a b e) σ h = .ok (.nx σ) (h3.set n (.lst (xs.set i y))) := by
  have p : place xs.length (i : Int) = some i := by
    show (bif Nat.blt i xs.length then some i else none) = _
    have : Nat.blt i xs.length = true := by simpa [Nat.blt_eq] using hi
    rw [this]; rfl
  simp only [ex, e1, e2, e3, R.bd, e4, p]
end
section
variable {lf : Nat} (hl : 300000 ≤ lf)
theorem Gr.notR {h h' : Hp} (g : Gr h h') {R n : Nat} {o : O} (e : h.get R = some o) (hn : h.next ≤ n) : R ≠ n := by
  have := Hp.lt_of_get e
  omega
end
end W57

set_option linter.all false
set_option maxRecDepth 100000
/-! WK: what a piece of the program comes to, asked backwards. -/
namespace W57
open VI M57 L57
/-- it comes to something of which Q holds -/
def Sat {α : Type} (r : R α) (Q : α → Hp → Prop) : Prop := ∃ a h, r = .ok a h ∧ Q a h
/-- a statement goes on with N or returns with T -/
def SX (r : R Fl) (N : Env → Hp → Prop) (T : D → Hp → Prop) : Prop := ∃ f h, r = .ok f h ∧ match f with
  | .nx σ => N σ h
  | .rt d => T d h
  | _ => False
section
variable {α : Type} {r : R α} {Q Q' : α → Hp → Prop} {a : α} {h : Hp}
theorem s_ok (q : Q a h) : Sat (.ok a h) Q := ⟨a, h, rfl, q⟩
theorem s_of (e : r = .ok a h) (q : Q a h) : Sat r Q := ⟨a, h, e, q⟩
theorem Sat.imp (s : Sat r Q) (i : ∀ a h, Q a h → Q' a h) : Sat r Q' := let ⟨a, h, e, q⟩ := s; ⟨a, h, e, i a h q⟩
theorem s_bd {β : Type} {f : α → Hp → R β} {Q : β → Hp → Prop} (s : Sat r fun a h => Sat (f a h) Q) : Sat (r.bd f) Q := by
  obtain ⟨a, h, rfl, q⟩ := s
  exact q
end
theorem SX.imp {r : R Fl} {N N' : Env → Hp → Prop} {T T' : D → Hp → Prop} (s : SX r N T) (i : ∀ σ h, N σ h → N' σ h) (j : ∀ d h, T d h → T' d h) : SX r N' T' := by
  obtain ⟨f, h, e, q⟩ := s
  refine ⟨f, h, e, ?_⟩
  cases f with
  | nx σ => exact i σ h q
  | rt d => exact j d h q
  | bk σ => exact q
  | ct σ => exact q
section
variable {g : G} {cf ci : Nat → List D → Hp → R D} {lf : Nat} {σ : Env} {h : Hp} {x y z : D} {a b c e : E} {Q : D → Hp → Prop}
theorem s_slot {i : Nat} (e : getS σ i = some x) (q : Q x h) : Sat (ev g cf ci lf (.slot i) σ h) Q := ⟨x, h, v_slot e, q⟩
theorem s_cst (q : Q x h) : Sat (ev g cf ci lf (.cst x) σ h) Q := ⟨x, h, v_cst, q⟩
theorem s_nop (q : Q .non h) : Sat (ev g cf ci lf .nop σ h) Q := ⟨.non, h, rfl, q⟩
theorem s_nil (q : Q (.tup []) h) : Sat (ev g cf ci lf .nil σ h) Q := ⟨.tup [], h, rfl, q⟩
theorem s_bin {o : Op2} (s : Sat (ev g cf ci lf a σ h) fun x h1 => Sat (ev g cf ci lf b σ h1) fun y h2 => Sat (bin2 o x y h2) Q) : Sat (ev g cf ci lf (.bin o a b) σ h) Q := by
  rw [ev]; exact s_bd (s.imp fun _ _ s => s_bd s)
theorem s_idx (s : Sat (ev g cf ci lf a σ h) fun x h1 => Sat (ev g cf ci lf b σ h1) fun y h2 => ∃ z, idx2 x y h2 = some z ∧ Q z h2) : Sat (ev g cf ci lf (.idx a b) σ h) Q := by
  rw [ev]; refine s_bd (s.imp fun _ _ s => s_bd (s.imp fun _ _ s => ?_))
  obtain ⟨z, e, q⟩ := s
  exact ⟨z, _, by rw [e]; rfl, q⟩
theorem s_cmp {o : Cp} (s : Sat (ev g cf ci lf a σ h) fun x h1 => Sat (ev g cf ci lf b σ h1) fun y h2 => ∃ z, cmp2 o x y h2 = some z ∧ Q (.bl z) h2) : Sat (ev g cf ci lf (.cmp o a b) σ h) Q := by
  rw [ev]; refine s_bd (s.imp fun _ _ s => s_bd (s.imp fun _ _ s => ?_))
  obtain ⟨z, e, q⟩ := s
  exact ⟨.bl z, _, by rw [e], q⟩
theorem s_chain {o p : Cp} (s : Sat (ev g cf ci lf a σ h) fun x h1 => Sat (ev g cf ci lf b σ h1) fun y h2 => ∃ r, cmp2 o x y h2 = some r ∧ (r = false → Q (.bl false) h2) ∧ (r = true → Sat (ev g cf ci lf c σ h2) fun z h3 => ∃ r, cmp2 p y z h3 = some r ∧ Q (.bl r) h3)) : Sat (ev g cf ci lf (.chain o p a b c) σ h) Q := by
  rw [ev]; refine s_bd (s.imp fun _ _ s => s_bd (s.imp fun _ _ s => ?_))
  obtain ⟨r, e, q1, q2⟩ := s
  rw [e]
  cases r with
  | false => exact ⟨_, _, rfl, q1 rfl⟩
  | true => exact s_bd ((q2 rfl).imp fun _ _ ⟨r, e, q⟩ => ⟨.bl r, _, by rw [e], q⟩)
theorem s_neg (s : Sat (ev g cf ci lf a σ h) fun x h1 => ∃ i, x = .int i ∧ Q (.int (-i)) h1) : Sat (ev g cf ci lf (.neg a) σ h) Q := by
  rw [ev]; refine s_bd (s.imp fun _ _ s => ?_)
  obtain ⟨i, rfl, q⟩ := s
  exact ⟨_, _, rfl, q⟩
theorem s_not (s : Sat (ev g cf ci lf a σ h) fun x h1 => ∃ b, truth x h1 = some b ∧ Q (.bl (!b)) h1) : Sat (ev g cf ci lf (.not a) σ h) Q := by
  rw [ev]; refine s_bd (s.imp fun _ _ s => ?_)
  obtain ⟨i, e, q⟩ := s
  exact ⟨_, _, by rw [e], q⟩
theorem s_and (s : Sat (ev g cf ci lf a σ h) fun x h1 => ∃ b', x = .bl b' ∧ (b' = false → Q (.bl false) h1) ∧ (b' = true → Sat (ev g cf ci lf b σ h1) Q)) : Sat (ev g cf ci lf (.and a b) σ h) Q := by
  rw [ev]; refine s_bd (s.imp fun _ _ s => ?_)
  obtain ⟨i, rfl, q1, q2⟩ := s
  cases i with
  | false => exact ⟨_, _, rfl, q1 rfl⟩
  | true => exact q2 rfl
theorem s_or (s : Sat (ev g cf ci lf a σ h) fun x h1 => ∃ b', x = .bl b' ∧ (b' = true → Q (.bl true) h1) ∧ (b' = false → Sat (ev g cf ci lf b σ h1) Q)) : Sat (ev g cf ci lf (.or a b) σ h) Q := by
  rw [ev]; refine s_bd (s.imp fun _ _ s => ?_)
  obtain ⟨i, rfl, q1, q2⟩ := s
  cases i with
  | true => exact ⟨_, _, rfl, q1 rfl⟩
  | false => exact q2 rfl
theorem s_ite (s : Sat (ev g cf ci lf c σ h) fun x h1 => ∃ b', truth x h1 = some b' ∧ (b' = true → Sat (ev g cf ci lf a σ h1) Q) ∧ (b' = false → Sat (ev g cf ci lf b σ h1) Q)) : Sat (ev g cf ci lf (.ite c a b) σ h) Q := by
  rw [ev]; refine s_bd (s.imp fun _ _ s => ?_)
  obtain ⟨i, e, q1, q2⟩ := s
  rw [e]
  cases i with
  | true => exact q1 rfl
  | false => exact q2 rfl
theorem s_fld {f : Nat} (s : Sat (ev g cf ci lf a σ h) fun x h1 => ∃ n c fs d, x = .ref n ∧ h1.get n = some (.ins c fs) ∧ lookN fs f = some d ∧ Q d h1) : Sat (ev g cf ci lf (.fld a f) σ h) Q := by
  rw [ev]; refine s_bd (s.imp fun _ _ s => ?_)
  obtain ⟨n, c, fs, d, rfl, e, l, q⟩ := s
  simp only [e, l, ofO]
  exact ⟨_, _, rfl, q⟩
theorem s_cons (s : Sat (ev g cf ci lf a σ h) fun x h1 => Sat (ev g cf ci lf b σ h1) fun y h2 => ∃ xs, y = .tup xs ∧ Q (.tup (x :: xs)) h2) : Sat (ev g cf ci lf (.cons a b) σ h) Q := by
  rw [ev]; refine s_bd (s.imp fun _ _ s => s_bd (s.imp fun _ _ s => ?_))
  obtain ⟨z, rfl, q⟩ := s
  exact ⟨_, _, rfl, q⟩
theorem s_star (s : Sat (ev g cf ci lf a σ h) fun x h1 => ∃ xs, items? x h1 = some xs ∧ Sat (ev g cf ci lf b σ h1) fun y h2 => ∃ ys, y = .tup ys ∧ Q (.tup (xs ++ ys)) h2) : Sat (ev g cf ci lf (.star a b) σ h) Q := by
  rw [ev]; refine s_bd (s.imp fun _ _ s => ?_)
  obtain ⟨xs, e, s⟩ := s
  rw [e]
  refine s_bd (s.imp fun _ _ s => ?_)
  obtain ⟨z, rfl, q⟩ := s
  exact ⟨_, _, rfl, q⟩
theorem ble_line {n : Nat} (h : n ≤ 100000) : Nat.ble n line = true := Nat.ble_eq_true_of_le (Nat.le_trans h (by decide))
theorem blt_line {n : Nat} (h : n ≤ 100000) : Nat.blt n line = true := by
  have : n < line := Nat.lt_of_le_of_lt h (by decide)
  simpa [Nat.blt_eq] using this
theorem s_tup (s : Sat (ev g cf ci lf a σ h) fun x h1 => ∃ xs, x = .tup xs ∧ xs.length ≤ 100000 ∧ Q (.tup xs) h1) : Sat (ev g cf ci lf (.tup a) σ h) Q := by
  rw [ev]; refine s_bd (s.imp fun _ _ s => ?_)
  obtain ⟨z, rfl, l, q⟩ := s
  simp only [ble_line l, cond_true]
  exact ⟨_, _, rfl, q⟩
theorem s_lst (s : Sat (ev g cf ci lf a σ h) fun x h1 => ∃ xs, x = .tup xs ∧ xs.length ≤ 100000 ∧ Q (.ref h1.next) (h1.push (.lst xs))) : Sat (ev g cf ci lf (.lst a) σ h) Q := by
  rw [ev]; refine s_bd (s.imp fun _ _ s => ?_)
  obtain ⟨z, rfl, l, q⟩ := s
  simp only [ble_line l, cond_true]
  exact ⟨_, _, rfl, q⟩
theorem s_call {f : Nat} (s : Sat (ev g cf ci lf a σ h) fun x h1 => ∃ xs, x = .tup xs ∧ Sat (cf f xs h1) Q) : Sat (ev g cf ci lf (.call f a) σ h) Q := by
  rw [ev]; refine s_bd (s.imp fun _ _ s => ?_)
  obtain ⟨z, rfl, q⟩ := s
  exact q
theorem s_blt {f : Nat} (s : Sat (ev g cf ci lf a σ h) fun x h1 => ∃ xs, x = .tup xs ∧ Sat (blt1 f xs h1) Q) : Sat (ev g cf ci lf (.blt f a) σ h) Q := by
  rw [ev]; refine s_bd (s.imp fun _ _ s => ?_)
  obtain ⟨z, rfl, q⟩ := s
  exact q
theorem s_meth {m : Nat} (s : Sat (ev g cf ci lf a σ h) fun x h1 => ∃ n c fs k f, x = .ref n ∧ h1.get n = some (.ins c fs) ∧ nth g.cls c = some k ∧ lookN k.meths m = some f ∧ Sat (ev g cf ci lf b σ h1) fun y h2 => ∃ ys, y = .tup ys ∧ Sat (cf f (.ref n :: ys) h2) Q) : Sat (ev g cf ci lf (.meth m a b) σ h) Q := by
  rw [ev]; refine s_bd (s.imp fun _ _ s => ?_)
  obtain ⟨n, c, fs, k, f, rfl, e1, e2, e3, s⟩ := s
  simp only [e1, e2, e3]
  refine s_bd (s.imp fun _ _ s => ?_)
  obtain ⟨z, rfl, q⟩ := s
  exact q
theorem s_make {c : Nat} {k : CI} {f : Nat} (e1 : nth g.cls c = some k) (e2 : k.init = some f) (s : Sat (ev g cf ci lf a σ h) fun x h1 => ∃ xs, x = .tup xs ∧ Sat (ci f (.ref h1.next :: xs) (h1.push (.ins c []))) fun v h2 => v = .non ∧ Q (.ref h1.next) h2) : Sat (ev g cf ci lf (.make c a) σ h) Q := by
  rw [ev]; refine s_bd (s.imp fun _ _ s => ?_)
  obtain ⟨z, rfl, q⟩ := s
  simp only [e1, e2]
  refine s_bd (q.imp fun v h2 q => ?_)
  obtain ⟨rfl, q⟩ := q
  exact ⟨_, _, rfl, q⟩
theorem s_isi {t : Nat} (s : Sat (ev g cf ci lf a σ h) fun x h1 => ∃ b, isi2 x t h1 = some b ∧ Q (.bl b) h1) : Sat (ev g cf ci lf (.isi a t) σ h) Q := by
  rw [ev]; refine s_bd (s.imp fun _ _ s => ?_)
  obtain ⟨b, e, q⟩ := s
  rw [e]
  exact ⟨_, _, rfl, q⟩
theorem s_app (s : Sat (ev g cf ci lf a σ h) fun x h1 => ∃ n xs, x = .ref n ∧ h1.get n = some (.lst xs) ∧ Sat (ev g cf ci lf b σ h1) fun y h2 => ∃ xs, h2.get n = some (.lst xs) ∧ xs.length ≤ 100000 ∧ Q .non (h2.set n (.lst (xs ++ [y])))) : Sat (ev g cf ci lf (.app a b) σ h) Q := by
  rw [ev]; refine s_bd (s.imp fun _ _ s => ?_)
  obtain ⟨n, xs, rfl, e, s⟩ := s
  simp only [e]
  refine s_bd (s.imp fun _ _ s => ?_)
  obtain ⟨xs, e, l, q⟩ := s
  simp only [e, blt_line l, cond_true]
  exact ⟨_, _, rfl, q⟩
theorem s_ext (s : Sat (ev g cf ci lf a σ h) fun x h1 => ∃ n xs, x = .ref n ∧ h1.get n = some (.lst xs) ∧ Sat (ev g cf ci lf b σ h1) fun y h2 => ∃ m xs ys, y = .ref m ∧ h2.get n = some (.lst xs) ∧ h2.get m = some (.lst ys) ∧ xs.length + ys.length ≤ 100000 ∧ Q .non (h2.set n (.lst (xs ++ ys)))) : Sat (ev g cf ci lf (.ext a b) σ h) Q := by
  rw [ev]; refine s_bd (s.imp fun _ _ s => ?_)
  obtain ⟨n, xs, rfl, e, s⟩ := s
  simp only [e]
  refine s_bd (s.imp fun _ _ s => ?_)
  obtain ⟨m, xs, ys, rfl, e, e2, l, q⟩ := s
  simp only [e, e2, ble_line l, cond_true]
  exact ⟨_, _, rfl, q⟩
theorem s_iseq (s : Sat (ev g cf ci lf a σ h) fun x h1 => (∃ o, atS x 0 h1 = some o) ∧ Q (.tup [.int 0, x]) h1) : Sat (ev g cf ci lf (.iseq a) σ h) Q := by
  rw [ev]; refine s_bd (s.imp fun _ _ s => ?_)
  obtain ⟨⟨o, e⟩, q⟩ := s
  simp only [e]
  exact ⟨_, _, rfl, q⟩
theorem s_ienum (s : Sat (ev g cf ci lf a σ h) fun x h1 => (∃ o, atS x 0 h1 = some o) ∧ Q (.tup [.int 2, x]) h1) : Sat (ev g cf ci lf (.ienum a) σ h) Q := by
  rw [ev]; refine s_bd (s.imp fun _ _ s => ?_)
  obtain ⟨⟨o, e⟩, q⟩ := s
  simp only [e]
  exact ⟨_, _, rfl, q⟩
theorem s_izip (s : Sat (ev g cf ci lf a σ h) fun x h1 => Sat (ev g cf ci lf b σ h1) fun y h2 => (∃ o, atS x 0 h2 = some o) ∧ (∃ o, atS y 0 h2 = some o) ∧ Q (.tup [.int 3, x, y]) h2) : Sat (ev g cf ci lf (.izip a b) σ h) Q := by
  rw [ev]; refine s_bd (s.imp fun _ _ s => s_bd (s.imp fun _ _ s => ?_))
  obtain ⟨⟨o, e⟩, ⟨o2, e2⟩, q⟩ := s
  simp only [e, e2]
  exact ⟨_, _, rfl, q⟩
theorem s_irng (s : Sat (ev g cf ci lf a σ h) fun x h1 => ∃ xs d, x = .tup xs ∧ rng? xs = some d ∧ Q d h1) : Sat (ev g cf ci lf (.irng a) σ h) Q := by
  rw [ev]; refine s_bd (s.imp fun _ _ s => ?_)
  obtain ⟨xs, d, rfl, e, q⟩ := s
  simp only [e, ofO]
  exact ⟨_, _, rfl, q⟩
theorem s_lrg (s : Sat (ev g cf ci lf a σ h) fun x h1 => ∃ xs l, x = .tup xs ∧ lrg? xs = some l ∧ Q (.ref h1.next) (h1.push (.lst l))) : Sat (ev g cf ci lf (.lrg a) σ h) Q := by
  rw [ev]; refine s_bd (s.imp fun _ _ s => ?_)
  obtain ⟨xs, d, rfl, e, q⟩ := s
  simp only [e]
  exact ⟨_, _, rfl, q⟩
theorem s_slc {p q : Bool} (s : Sat (ev g cf ci lf a σ h) fun x h1 => Sat (ev g cf ci lf b σ h1) fun l h2 => ∃ l', part? p l = some l' ∧ Sat (ev g cf ci lf c σ h2) fun u h3 => ∃ u', part? q u = some u' ∧ Sat (slc3 x l' u' h3) Q) : Sat (ev g cf ci lf (.slc p q a b c) σ h) Q := by
  rw [ev]; refine s_bd (s.imp fun _ _ s => s_bd (s.imp fun _ _ s => ?_))
  obtain ⟨l', e, s⟩ := s
  simp only [e]
  refine s_bd (s.imp fun _ _ s => ?_)
  obtain ⟨u', e, s⟩ := s
  simp only [e]
  exact s
theorem s_rev (s : Sat (ev g cf ci lf a σ h) fun x h1 => ∃ xs, x = .tup xs ∧ Q (.tup xs.reverse) h1) : Sat (ev g cf ci lf (.rev a) σ h) Q := by
  rw [ev]; refine s_bd (s.imp fun _ _ s => ?_)
  obtain ⟨xs, rfl, q⟩ := s
  exact ⟨_, _, rfl, q⟩
variable {N : Env → Hp → Prop} {T : D → Hp → Prop} {s r t : S}
theorem sx_of {f : R Fl} {h' : Hp} (e : f = .ok (.nx σ) h') (q : N σ h') : SX f N T := ⟨_, _, e, q⟩
theorem sx_bd {f : D → Hp → R Fl} {r : R D} (q : Sat r fun x h1 => SX (f x h1) N T) : SX (r.bd f) N T := by
  obtain ⟨x, h1, rfl, q⟩ := q
  exact q
theorem sx_nil (q : N σ h) : SX (ex g cf ci lf .nil σ h) N T := ⟨_, _, rfl, q⟩
theorem sx_seq (q : SX (ex g cf ci lf s σ h) (fun σ' h' => SX (ex g cf ci lf r σ' h') N T) T) : SX (ex g cf ci lf (.seq s r) σ h) N T := by
  obtain ⟨f, h1, e, q⟩ := q
  cases f with
  | nx σ' =>
    obtain ⟨f, h2, e2, q⟩ := q
    exact ⟨f, h2, by rw [ex, e]; exact e2, q⟩
  | rt d => exact ⟨.rt d, h1, by rw [ex, e], q⟩
  | bk σ => exact q.elim
  | ct σ => exact q.elim
theorem sx_set {i : Nat} (q : Sat (ev g cf ci lf e σ h) fun x h1 => N (setS σ i x) h1) : SX (ex g cf ci lf (.set i e) σ h) N T := by
  rw [ex]; exact sx_bd (q.imp fun _ _ q => ⟨_, _, rfl, q⟩)
theorem sx_setT {t : TG} (q : Sat (ev g cf ci lf e σ h) fun x h1 => ∃ σ', asg t x σ = some σ' ∧ N σ' h1) : SX (ex g cf ci lf (.setT t e) σ h) N T := by
  rw [ex]; refine sx_bd (q.imp fun _ _ q => ?_)
  obtain ⟨σ', e, q⟩ := q
  exact ⟨_, _, by rw [e], q⟩
theorem sx_setF {f : Nat} (q : Sat (ev g cf ci lf e σ h) fun y h1 => Sat (ev g cf ci lf a σ h1) fun x h2 => ∃ n c fs k, x = .ref n ∧ h2.get n = some (.ins c fs) ∧ nth g.cls c = some k ∧ memN f k.flds = true ∧ fs.length < 1000 ∧ N σ (h2.set n (.ins c (putN f y fs)))) : SX (ex g cf ci lf (.setF a f e) σ h) N T := by
  rw [ex]; refine sx_bd (q.imp fun _ _ q => sx_bd (q.imp fun _ _ q => ?_))
  obtain ⟨n, c, fs, k, rfl, e1, e2, e3, e4, q⟩ := q
  have : Nat.blt fs.length 1000 = true := by simpa [Nat.blt_eq] using e4
  simp only [e1, e2, e3, this, Bool.and_self, cond_true]
  exact ⟨_, _, rfl, q⟩
theorem sx_setI (q : Sat (ev g cf ci lf e σ h) fun y h1 => Sat (ev g cf ci lf a σ h1) fun x h2 => Sat (ev g cf ci lf b σ h2) fun j h3 => ∃ n k xs p, x = .ref n ∧ j = .int k ∧ h3.get n = some (.lst xs) ∧ place xs.length k = some p ∧ N σ (h3.set n (.lst (xs.set p y)))) : SX (ex g cf ci lf (.setI a b e) σ h) N T := by
  rw [ex]; refine sx_bd (q.imp fun _ _ q => sx_bd (q.imp fun _ _ q => sx_bd (q.imp fun _ _ q => ?_)))
  obtain ⟨n, k, xs, p, rfl, rfl, e1, e2, q⟩ := q
  simp only [e1, e2]
  exact ⟨_, _, rfl, q⟩
theorem sx_exp (q : Sat (ev g cf ci lf e σ h) fun _ h1 => N σ h1) : SX (ex g cf ci lf (.exp e) σ h) N T := by
  rw [ex]; exact sx_bd (q.imp fun _ _ q => ⟨_, _, rfl, q⟩)
theorem sx_ret (q : Sat (ev g cf ci lf e σ h) T) : SX (ex g cf ci lf (.ret e) σ h) N T := by
  rw [ex]; exact sx_bd (q.imp fun _ _ q => ⟨_, _, rfl, q⟩)
theorem sx_ifs (q : Sat (ev g cf ci lf e σ h) fun x h1 => ∃ b, truth x h1 = some b ∧ (b = true → SX (ex g cf ci lf s σ h1) N T) ∧ (b = false → SX (ex g cf ci lf t σ h1) N T)) : SX (ex g cf ci lf (.ifs e s t) σ h) N T := by
  rw [ex]; refine sx_bd (q.imp fun _ _ q => ?_)
  obtain ⟨b, e, q1, q2⟩ := q
  rw [e]
  cases b with
  | true => exact q1 rfl
  | false => exact q2 rfl
/-- a loop over known items -/
theorem sx_fr {tg : TG} {it : D} {h1 : Hp} {xs : List D} (J : Nat → Env → Hp → Prop) (e0 : ev g cf ci lf a σ h = .ok it h1)
    (step : ∀ i (hi : i < xs.length) σ h, J i σ h → nxt it i h = some (some xs[i]) ∧ ∃ σ1, asg tg xs[i] σ = some σ1 ∧ SX (ex g cf ci lf s σ1 h) (J (i + 1)) T)
    (fin : ∀ σ h, J xs.length σ h → nxt it xs.length h = some none ∧ N σ h) (h0 : J 0 σ h1) (hf : xs.length < lf) : SX (ex g cf ci lf (.fr tg a s) σ h) N T := by
  obtain ⟨r, h', e1, q⟩ := for_go (it := it) (t := tg) (b := ex g cf ci lf s) J (fun f h => match f with
      | .nx σ => N σ h
      | .rt d => T d h
      | _ => False) (fun i hi σ h j => by
      obtain ⟨n, σ1, as, f, h1, e, q⟩ := step i hi σ h j
      refine ⟨n, σ1, as, f, h1, e, ?_⟩
      cases f with
      | nx σ => exact q
      | rt d => exact q
      | bk σ => exact q.elim
      | ct σ => exact q.elim) fin h0 hf
  exact ⟨r, h', x_fr e0 e1, q⟩
end
theorem run_of {lf k fi : Nat} {i : FI} {ds : List D} {h : Hp} {Q : D → Hp → Prop} (hf : nth gg.fns fi = some i) (hn : (ds.length == i.many) = true) (q : SX (ex gg (run gg lf k) (runAt gg lf k) lf i.body (begin ds i.names) h) (fun _ h => Q .non h) Q) : Sat (run gg lf (k + 1) fi ds h) Q := by
  obtain ⟨f, h1, e, q⟩ := q
  rw [call_of hf hn, e]
  cases f with
  | nx σ => exact ⟨_, _, rfl, q⟩
  | rt d => exact ⟨_, _, rfl, q⟩
  | bk σ => exact q.elim
  | ct σ => exact q.elim
theorem runAt_eq (g : G) (lf k : Nat) : runAt g lf (k + 1) = run g lf k := rfl
section
variable {h : Hp} {Q : D → Hp → Prop}
theorem s_add {i j : Int} (q : Q (.int (i + j)) h) : Sat (bin2 .add (.int i) (.int j) h) Q := ⟨_, _, rfl, q⟩
theorem s_sub {i j : Int} (q : Q (.int (i - j)) h) : Sat (bin2 .sub (.int i) (.int j) h) Q := ⟨_, _, rfl, q⟩
theorem s_mulL {n k : Nat} {xs : List D} (e : h.get n = some (.lst xs)) (hk : k ≤ 1000) (hx : xs.length * k ≤ 100000) (q : Q (.ref h.next) (h.push (.lst (List.replicate k xs).flatten))) : Sat (bin2 .mul (.ref n) (.int (k : Int)) h) Q := by
  refine ⟨_, _, ?_, q⟩
  show (match h.get n, (k : Int) with
    | some (.lst xs), .ofNat k => bif Nat.ble k 1000 && Nat.ble (xs.length * k) line then R.ok (D.ref h.next) (h.push (.lst (List.replicate k xs).flatten)) else .bad
    | _, _ => .bad) = _
  rw [e]
  show (bif Nat.ble k 1000 && Nat.ble (xs.length * k) line then R.ok (D.ref h.next) (h.push (.lst (List.replicate k xs).flatten)) else .bad) = _
  rw [ble_line hx, Nat.ble_eq_true_of_le hk]
  rfl
theorem s_addL {n m : Nat} {xs ys : List D} (e : h.get n = some (.lst xs)) (e2 : h.get m = some (.lst ys)) (hx : xs.length + ys.length ≤ 100000) (q : Q (.ref h.next) (h.push (.lst (xs ++ ys)))) : Sat (bin2 .add (.ref n) (.ref m) h) Q := by
  refine ⟨_, _, ?_, q⟩
  show (match h.get n, h.get m with
    | some (.lst xs), some (.lst ys) => bif Nat.ble (xs.length + ys.length) line then R.ok (D.ref h.next) (h.push (.lst (xs ++ ys))) else .bad
    | _, _ => .bad) = _
  rw [e, e2]
  show (bif Nat.ble (xs.length + ys.length) line then R.ok (D.ref h.next) (h.push (.lst (xs ++ ys))) else .bad) = _
  rw [ble_line hx]
  rfl
theorem s_addT {xs ys : List D} (hx : xs.length + ys.length ≤ 100000) (q : Q (.tup (xs ++ ys)) h) : Sat (bin2 .add (.tup xs) (.tup ys) h) Q := by
  refine ⟨_, _, ?_, q⟩
  show (bif Nat.ble (xs.length + ys.length) line then R.ok (D.tup (xs ++ ys)) h else .bad) = _
  rw [ble_line hx]
  rfl
theorem s_mulT {x : D} {xs : List D} {k : Nat} (hk : k + 1 ≤ 1000) (hx : xs.length + 1 ≤ 1000) (q : Q (.tup (List.replicate (k + 1) (x :: xs)).flatten) h) : Sat (bin2 .mul (.tup (x :: xs)) (.int ((k + 1 : Nat) : Int)) h) Q := by
  refine ⟨_, _, ?_, q⟩
  show (bif Nat.ble (k + 1) 1000 && Nat.ble (xs.length + 1) 1000 then R.ok (D.tup (List.replicate (k + 1) (x :: xs)).flatten) h else .bad) = _
  rw [Nat.ble_eq_true_of_le hk, Nat.ble_eq_true_of_le hx]
  rfl
end
end W57

set_option linter.all false
set_option maxRecDepth 100000
/-! WL: turn. -/
namespace W57
open VI M57 L57
local macro_rules
  | `(tactic| array_get_dec) => `(tactic| repeat first
  | with_reducible refine sx_seq ?_ | with_reducible refine sx_set ?_ | with_reducible refine sx_ret ?_ | with_reducible refine sx_exp ?_ | with_reducible refine sx_nil ?_ | with_reducible refine sx_ifs ?_ | with_reducible refine sx_setI ?_ | with_reducible refine sx_setF ?_ | with_reducible refine sx_setT ?_
  | ((with_reducible apply s_slot); · rfl) | with_reducible refine s_cst ?_ | with_reducible refine s_nop ?_ | with_reducible refine s_nil ?_ | with_reducible refine s_cons ?_ | with_reducible refine s_idx ?_ | with_reducible refine s_cmp ?_ | with_reducible refine s_chain ?_ | with_reducible refine s_bin ?_ | with_reducible refine s_fld ?_ | with_reducible refine s_call ?_ | with_reducible refine s_blt ?_ | with_reducible refine s_meth ?_ | with_reducible refine s_tup ?_ | with_reducible refine s_lst ?_ | with_reducible refine s_star ?_ | with_reducible refine s_neg ?_ | with_reducible refine s_not ?_ | with_reducible refine s_and ?_ | with_reducible refine s_or ?_ | with_reducible refine s_ite ?_ | with_reducible refine s_isi ?_ | with_reducible refine s_app ?_ | with_reducible refine s_ext ?_ | with_reducible refine s_iseq ?_ | with_reducible refine s_ienum ?_ | with_reducible refine s_izip ?_ | with_reducible refine s_irng ?_ | with_reducible refine s_lrg ?_ | with_reducible refine s_slc ?_ | with_reducible refine s_rev ?_ | with_reducible refine s_add ?_ | with_reducible refine s_sub ?_
  | refine ⟨_, rfl, ?_⟩ | refine ⟨(Nat.le_of_ble_eq_true rfl : List.length _ ≤ 100000), ?_⟩)

section
variable {lf : Nat} (hl : 300000 ≤ lf)
theorem place_lt {n i : Nat} (h : i < n) : place n (i : Int) = some i := by
  show (bif Nat.blt i n then some i else none) = _
  have : Nat.blt i n = true := by simpa [Nat.blt_eq] using h
  rw [this]; rfl
theorem TabAt.iR {h : Hp} {m r : Nat} {a : Ad} {sg : List Int} {rows : List (List Rat)} {bs : List Nat} {cs : List Rat} (x : TabAt h m r a sg rows bs cs) {i : Nat} (hi : i < a.rs.length) : idx2 (.ref a.R) (.int (i : Int)) h = some (.ref a.rs[i]) := by
  rw [idx_lst x.R (by simpa [refs] using hi)]
  simp [refs]
theorem TabAt.iRow {h : Hp} {m r : Nat} {a : Ad} {sg : List Int} {rows : List (List Rat)} {bs : List Nat} {cs : List Rat} (x : TabAt h m r a sg rows bs cs) {i j : Nat} (hi : i < a.rs.length) (hw : i < rows.length) (hj : j < (rows[i]).length) : idx2 (.ref a.rs[i]) (.int (j : Int)) h = some (fr (rows[i])[j]) := by
  rw [idx_lst (x.row i hi hw) (by simpa using hj)]
  simp
theorem TabAt.iC {h : Hp} {m r : Nat} {a : Ad} {sg : List Int} {rows : List (List Rat)} {bs : List Nat} {cs : List Rat} (x : TabAt h m r a sg rows bs cs) {j : Nat} (hj : j < cs.length) : idx2 (.ref a.C) (.int (j : Int)) h = some (fr cs[j]) := by
  rw [idx_lst x.C (by simpa using hj)]
  simp
theorem sat_of_ex {g : G} {lf k f : Nat} {ds : List D} {h : Hp} {Q : D → Hp → Prop} {P : Nat → Hp → Prop} (e : ∃ j h', run g lf k f ds h = .ok (.ref j) h' ∧ P j h') (q : ∀ j h', P j h' → Q (.ref j) h') : Sat (run g lf k f ds h) Q := by
  obtain ⟨j, h', e, p⟩ := e
  exact ⟨_, _, e, q j h' p⟩
include hl in
theorem r_turn (k : Nat) {h : Hp} {m r t p : Nat} {a : Ad} {sg : List Int} {rows : List (List Rat)} {bs : List Nat} {cs : List Rat} (x : TabAt h m r a sg rows bs cs) (ht : t < r) (hp : p < m + r) (hm : m + r < 900) (sz : ∀ w ∈ rows, ∀ q ∈ w, Sz 1900 q) (szc : ∀ q ∈ cs, Sz 1900 q) (pos : 0 < (tabSt rows bs cs).T t p)
    (szp : ∀ q ∈ (rows.getD t []).map fun u => u / (tabSt rows bs cs).T t p, Sz 1900 q) :
    Sat (run gg lf (k + 5) 15 [.ref a.t, .int (t : Int), .int (p : Int)] h) fun d h' => d = .non ∧ ∃ a', TabAt h' m r a' sg (rowI r t p rows ((rows.getD t []).map fun u => u / (tabSt rows bs cs).T t p) r) (bs.set t p) (subF (cs.getD p 0) cs ((rows.getD t []).map fun u => u / (tabSt rows bs cs).T t p)) ∧ a'.t = a.t ∧ a'.S = a.S ∧ a'.R = a.R ∧ a'.B = a.B ∧ Gx [a.t, a.R, a.B] h h' := by
  have tw : t < rows.length := by have := x.rr; omega
  have tr : t < a.rs.length := by have := x.rl; omega
  have rt := x.row t tr tw
  have wl := x.wl rows[t] (List.getElem_mem tw)
  have gt : rows.getD t [] = rows[t] := getD_at tw
  have pw : p < (rows[t]).length := by omega
  have gp : (tabSt rows bs cs).T t p = (rows[t])[p] := by
    show (rows.getD t []).getD p 0 = _
    rw [gt, getD_at pw]
  rw [gp] at pos szp ⊢
  rw [gt] at szp ⊢
  refine run_of (i := ⟨3, 6, b15⟩) rfl rfl ?_
  show SX (ex gg _ _ lf b15 [some (.ref a.t), some (.int (t : Int)), some (.int (p : Int)), none, none, none] h) _ _
  unfold b15
  array_get_dec
  refine ⟨_, _, _, _, rfl, x.t, rfl, ?_⟩
  array_get_dec
  refine ⟨_, x.iR tr, ?_⟩
  array_get_dec
  refine ⟨_, x.iRow tr tw pw, ?_⟩
  array_get_dec
  simp only [setS]
  have e0 : ev gg (run gg lf (k + 4)) (runAt gg lf (k + 4)) lf (.idx (.fld (.slot 0) 7) (.slot 1)) [some (.ref a.t), some (.int (t : Int)), some (.int (p : Int)), some (fr (rows[t])[p]), none, none] h = .ok (.ref a.rs[t]) h := v_idx (fld_t x.t rfl rfl) (v_slot rfl) (x.iR tr)
  obtain ⟨h1, ec, gr1, gg1⟩ := piv_row hl (k + 1) e0 rt (by omega) (sz _ (List.getElem_mem tw)) (sz _ (List.getElem_mem tw) _ (List.getElem_mem pw)) pos (fun d => ⟨rfl, rfl⟩)
  refine s_of ec ?_
  have x1 := x.mono gr1
  array_get_dec
  refine ⟨_, _, _, _, rfl, x1.t, rfl, ?_⟩
  array_get_dec
  refine ⟨_, _, _, _, rfl, rfl, x1.R, place_lt (by simpa [refs] using tr), ?_⟩
  rw [refs_set]
  have x2 := x1.setRow (i := t) gg1 (by simp; omega) (gr1.notR x.R (Nat.le_refl _)) (gr1.notR x.B (Nat.le_refl _))
  have g2 : Gx [a.t, a.R, a.B] h (h1.set a.R (.lst (refs (a.rs.set t h.next)))) := (gr1.gx).set (by simp) (Hp.lt_of_get x1.R) _
  generalize hh2 : h1.set a.R (.lst (refs (a.rs.set t h.next))) = h2 at x2 g2
  generalize hpv : (rows[t]).map (fun u => u / (rows[t])[p]) = piv at *
  have pvl : piv.length = m + r + 1 := by rw [← hpv]; simp; omega
  rw [← rowI_zero x.rr] at x2
  array_get_dec
  refine sx_fr (tg := .nm 4) (xs := rngL 0 r) (fun i σ h' => (∃ o, σ = [some (.ref a.t), some (.int (t : Int)), some (.int (p : Int)), some (fr (rows[t])[p]), o, none]) ∧ ∃ a', TabAt h' m r a' sg (rowI r t p rows piv i) bs cs ∧ a'.t = a.t ∧ a'.S = a.S ∧ a'.R = a.R ∧ a'.B = a.B ∧ a'.C = a.C ∧ Gx [a.t, a.R, a.B] h h') (v_irng (v_cons (fld_t x2.t rfl rfl) v_nil) (rng_lt r (by omega))) ?_ ?_ ⟨⟨none, rfl⟩, _, x2, rfl, rfl, rfl, rfl, rfl, g2⟩ (by rw [rngL_len]; omega)
  · rintro i hi σ h3 ⟨⟨o, rfl⟩, b, y, yt, yS, yR, yB, yC, g3⟩
    have ir : i < r := by rw [rngL_len] at hi; exact hi
    refine ⟨has_rng.1 i hi, [some (.ref a.t), some (.int (t : Int)), some (.int (p : Int)), some (fr (rows[t])[p]), some (.int (i : Int)), none], by rw [rngL_get, Int.zero_add]; rfl, ?_⟩
    array_get_dec
    refine ⟨fun c => ?_, fun c => ?_⟩
    · have it : i ≠ t := by intro e; subst e; simp [deq] at c
      have rl := y.rl
      rw [rowI_len] at rl
      have gi := rowI_get (r := r) (at_ := t) (p := p) (rows := rows) (piv := piv) (i := i) (j := i) (by rw [rowI_len]; exact ir)
      rw [if_neg it, if_neg (Nat.lt_irrefl i), getD_at (by have := x.rr; omega)] at gi
      have gpv := rowI_get (r := r) (at_ := t) (p := p) (rows := rows) (piv := piv) (i := i) (j := t) (by rw [rowI_len]; exact ht)
      rw [if_pos rfl] at gpv
      have iw : i < rows.length := by have := x.rr; omega
      have wi := x.wl rows[i] (List.getElem_mem iw)
      have r1 := y.row i (by omega) (by rw [rowI_len]; exact ir)
      have r2 := y.row t (by omega) (by rw [rowI_len]; exact ht)
      rw [gi] at r1
      rw [gpv] at r2
      array_get_dec
      refine ⟨_, _, _, _, rfl, (yt ▸ y.t), rfl, ?_⟩
      array_get_dec
      refine ⟨_, y.iR (by omega), ?_⟩
      array_get_dec
      refine ⟨_, _, _, _, rfl, (yt ▸ y.t), rfl, ?_⟩
      array_get_dec
      refine ⟨_, y.iR (by omega), ?_⟩
      array_get_dec
      refine sat_of_ex (r_less_by hl k r1 r2 (by omega) (show p < (rows[i]).length by omega) (by omega) (sz _ (List.getElem_mem iw)) szp) ?_
      rintro j h4 ⟨gr4, gj, hj⟩
      have y4 := y.mono gr4
      array_get_dec
      refine ⟨_, _, _, _, rfl, (yt ▸ y4.t), rfl, ?_⟩
      array_get_dec
      refine ⟨_, _, _, _, rfl, rfl, y4.R, place_lt (by simpa [refs] using (show i < b.rs.length by omega)), ?_⟩
      have ne1 : b.R ≠ j := by
        rcases hj with e | e
        · rw [e]; exact y.neR.2.2.2.2 _ (List.getElem_mem _)
        · exact gr4.notR y.R e
      have ne2 : b.B ≠ j := by
        rcases hj with e | e
        · rw [e]; exact y.neB.2.2.2 _ (List.getElem_mem _)
        · exact gr4.notR y.B e
      have y5 := y4.setRow (i := i) gj (by simp [subF]; omega) ne1 ne2
      rw [refs_set]
      array_get_dec
      refine ⟨⟨_, rfl⟩, { b with rs := b.rs.set i j }, ?_, yt, yS, yR, yB, yC, ?_⟩
      · rw [rowI_succ it]
        have : subF ((rows.getD i []).getD p 0) (rows.getD i []) piv = subF ((rows[i])[p]'(by omega)) rows[i] piv := by rw [getD_at iw, getD_at]
        rw [this]
        exact y5
      · exact (g3.trans gr4.gx).set (by rw [yR]; simp) (Hp.lt_of_get y4.R) _
    · have it : i = t := by simp [deq] at c; omega
      array_get_dec
      refine ⟨⟨_, rfl⟩, b, ?_, yt, yS, yR, yB, yC, g3⟩
      subst it; rw [rowI_at]; exact y
  · rintro σ h3 ⟨⟨o, rfl⟩, b, y, yt, yS, yR, yB, yC, g3⟩
    rw [rngL_len] at y
    refine ⟨has_rng.2, ?_⟩
    have rl := y.rl
    rw [rowI_len] at rl
    have gpv := rowI_get (r := r) (at_ := t) (p := p) (rows := rows) (piv := piv) (i := r) (j := t) (by rw [rowI_len]; exact ht)
    rw [if_pos rfl] at gpv
    have r2 := y.row t (by omega) (by rw [rowI_len]; exact ht)
    rw [gpv] at r2
    have cl := y.cl
    array_get_dec
    refine ⟨_, _, _, _, rfl, (yt ▸ y.t), rfl, ?_⟩
    array_get_dec
    refine ⟨_, _, _, _, rfl, (yt ▸ y.t), rfl, ?_⟩
    array_get_dec
    refine ⟨_, y.iR (by omega), ?_⟩
    array_get_dec
    refine sat_of_ex (r_less_by hl k y.C r2 (by omega) (show p < cs.length by omega) (by omega) szc szp) ?_
    rintro j h4 ⟨gr4, gj, hj⟩
    have y4 := y.mono gr4
    have ne1 : b.R ≠ j := by
      rcases hj with e | e
      · rw [e]; exact y.neR.2.2.2.1
      · exact gr4.notR y.R e
    have ne2 : b.B ≠ j := by
      rcases hj with e | e
      · rw [e]; exact y.neB.2.2.1
      · exact gr4.notR y.B e
    have y5 := y4.setCost gj (by simp [subF]; omega) ne1 ne2
    have g5 : Gx [a.t, a.R, a.B] h (h4.set b.t (tObj m r { b with C := j })) := (g3.trans gr4.gx).set (by rw [yt]; simp) (Hp.lt_of_get y4.t) _
    array_get_dec
    refine ⟨_, _, _, _, rfl, (yt ▸ y4.t), rfl, rfl, (by simp), ?_⟩
    have eo : h4.set a.t (.ins 0 (putN 4 (.ref j) [(1, .int m), (2, .int r), (8, .ref b.S), (7, .ref b.R), (5, .ref b.B), (4, .ref b.C)])) = h4.set b.t (tObj m r { b with C := j }) := by rw [yt]; rfl
    rw [eo]
    generalize h4.set b.t (tObj m r { b with C := j }) = h5 at y5 g5
    array_get_dec
    refine ⟨_, _, _, _, rfl, (yt ▸ y5.t), rfl, ?_⟩
    array_get_dec
    refine ⟨_, _, _, _, rfl, rfl, y5.B, place_lt (by have := x.bl; simp [nats]; omega), ?_⟩
    have y6 := y5.setB t p
    have en : (nats bs).set t (.int (p : Int)) = nats (bs.set t p) := by simp [nats, List.map_set]
    rw [en]
    array_get_dec
    simp only [true_and]
    refine ⟨{ b with C := j }, ?_, yt, yS, yR, yB, ?_⟩
    · have : cs.getD p 0 = cs[p]'(by omega) := getD_at _
      rw [this]
      exact y6
    · exact g5.set (by show b.B ∈ _; rw [yB]; simp) (Hp.lt_of_get y5.B) _
end
end W57

set_option linter.all false
set_option maxRecDepth 100000
/-! WM: solve. -/
namespace W57
open VI M57 L57
local macro_rules
  | `(tactic| array_get_dec) => `(tactic| repeat first
  | with_reducible refine sx_seq ?_ | with_reducible refine sx_set ?_ | with_reducible refine sx_ret ?_ | with_reducible refine sx_exp ?_ | with_reducible refine sx_nil ?_ | with_reducible refine sx_ifs ?_ | with_reducible refine sx_setI ?_ | with_reducible refine sx_setF ?_ | with_reducible refine sx_setT ?_
  | ((with_reducible apply s_slot); · rfl) | with_reducible refine s_cst ?_ | with_reducible refine s_nop ?_ | with_reducible refine s_nil ?_ | with_reducible refine s_cons ?_ | with_reducible refine s_idx ?_ | with_reducible refine s_cmp ?_ | with_reducible refine s_chain ?_ | with_reducible refine s_bin ?_ | with_reducible refine s_fld ?_ | with_reducible refine s_call ?_ | with_reducible refine s_blt ?_ | with_reducible refine s_meth ?_ | with_reducible refine s_tup ?_ | with_reducible refine s_lst ?_ | with_reducible refine s_star ?_ | with_reducible refine s_neg ?_ | with_reducible refine s_not ?_ | with_reducible refine s_and ?_ | with_reducible refine s_or ?_ | with_reducible refine s_ite ?_ | with_reducible refine s_isi ?_ | with_reducible refine s_app ?_ | with_reducible refine s_ext ?_ | with_reducible refine s_iseq ?_ | with_reducible refine s_ienum ?_ | with_reducible refine s_izip ?_ | with_reducible refine s_irng ?_ | with_reducible refine s_lrg ?_ | with_reducible refine s_slc ?_ | with_reducible refine s_rev ?_ | with_reducible refine s_add ?_ | with_reducible refine s_sub ?_
  | refine ⟨_, rfl, ?_⟩ | refine ⟨(Nat.le_of_ble_eq_true rfl : List.length _ ≤ 100000), ?_⟩)

/-- the lists show the tableau -/
structure Rp (m r : Nat) (rows : List (List Rat)) (bs : List Nat) (cs : List Rat) (s : St) : Prop where
  T : ∀ i j, i < r → j ≤ m + r → (rows.getD i []).getD j 0 = s.T i j
  b : ∀ i, i < r → bs.getD i 0 = s.b i
  c : ∀ j, j ≤ m + r → cs.getD j 0 = s.c j
theorem entF_some {m p : Nat} {cs : List Rat} (e : entF m cs = some p) : p < m ∧ cs.getD p 0 < 0 ∧ ∀ j, j < p → 0 ≤ cs.getD j 0 := by
  unfold entF at e
  rw [List.find?_eq_some_iff_getElem] at e
  obtain ⟨h1, i, hi, e2, h3⟩ := e
  have : i = p := by simpa using e2
  subst this
  refine ⟨by simpa using hi, by simpa using h1, fun j hj => ?_⟩
  have := h3 j hj
  simp at this
  grind
theorem entF_none {m : Nat} {cs : List Rat} (e : entF m cs = none) : ∀ j, j < m → 0 ≤ cs.getD j 0 := by
  unfold entF at e
  rw [List.find?_eq_none] at e
  intro j hj
  have := e j (List.mem_range.mpr hj)
  simp at this
  grind
theorem Rp.lv {m r : Nat} {rows : List (List Rat)} {bs : List Nat} {cs : List Rat} {s : St} (x : Rp m r rows bs cs s) {q p : Nat} (hp : p ≤ m + r) (l : Lv m r (tabSt rows bs cs) q p) : Lv m r s q p := by
  have eT : ∀ i j, i < r → j ≤ m + r → (tabSt rows bs cs).T i j = s.T i j := x.T
  have eb : ∀ i, i < r → (tabSt rows bs cs).b i = s.b i := x.b
  have ha := l.ha
  refine ⟨ha, hp, ?_, fun i hi pi => ?_⟩
  · rw [← eT q p ha hp]; exact l.pos
  · rw [← eT q (m + r) ha (by omega), ← eT q p ha hp, ← eT i (m + r) hi (by omega), ← eT i p hi hp, ← eb q ha, ← eb i hi]
    exact l.least i hi (by rw [eT i p hi hp]; exact pi)
theorem Rp.turn {m r : Nat} {rows : List (List Rat)} {bs : List Nat} {cs : List Rat} {s : St} (x : Rp m r rows bs cs s) (rr : rows.length = r) (wl : ∀ x ∈ rows, x.length = m + r + 1) (bl : bs.length = r) (cl : cs.length = m + r + 1) {t p : Nat} (ht : t < r) (hp : p ≤ m + r) :
    Rp m r (rowI r t p rows ((rows.getD t []).map fun u => u / (tabSt rows bs cs).T t p) r) (bs.set t p) (subF (cs.getD p 0) cs ((rows.getD t []).map fun u => u / (tabSt rows bs cs).T t p)) (turn s t p) := by
  have eT : (tabSt rows bs cs).T t p = s.T t p := x.T t p ht hp
  rw [eT]
  have lt : (rows.getD t []).length = m + r + 1 := by rw [getD_at (by omega)]; exact wl _ (List.getElem_mem _)
  have gp : ∀ j, j ≤ m + r → ((rows.getD t []).map fun u => u / s.T t p).getD j 0 = s.T t j / s.T t p := fun j hj => by
    have hj' : j < (rows.getD t []).length := by omega
    rw [getD_at (l := (rows.getD t []).map fun u => u / s.T t p) (by rw [List.length_map]; exact hj'), List.getElem_map]
    have := x.T t j ht hj
    rw [getD_at hj'] at this
    rw [this]
  have gl : ((rows.getD t []).map fun u => u / s.T t p).length = m + r + 1 := by rw [List.length_map]; exact lt
  generalize hpv : ((rows.getD t []).map fun u => u / s.T t p) = piv at *
  have sub : ∀ (q : Rat) (l : List Rat) (j : Nat), l.length = m + r + 1 → j ≤ m + r → (subF q l piv).getD j 0 = l.getD j 0 - q * piv.getD j 0 := fun q l j hl hj => by
    rw [getD_at (by simp [subF]; omega), getD_at (by omega), getD_at (by omega)]
    simp [subF]
  refine ⟨fun i j hi hj => ?_, fun i hi => ?_, fun j hj => ?_⟩
  · rw [getD_at (l := rowI r t p rows piv r) (i := i) (by rw [rowI_len]; exact hi), rowI_get]
    show _ = (if i = t then s.T t j / s.T t p else s.T i j - s.T i p * (s.T t j / s.T t p))
    by_cases e : i = t
    · rw [if_pos e, if_pos e, gp j hj]
    · rw [if_neg e, if_neg e, if_pos hi, sub _ _ _ (by rw [getD_at (by omega)]; exact wl _ (List.getElem_mem _)) hj, gp j hj, x.T i p hi hp, x.T i j hi hj]
  · show _ = (if i = t then p else s.b i)
    rw [getD_at (by simp; omega), List.getElem_set]
    by_cases e : i = t
    · rw [if_pos e.symm, if_pos e]
    · rw [if_neg (Ne.symm e), if_neg e, ← x.b i hi, getD_at (by omega)]
  · show _ = s.c j - s.c p * (s.T t j / s.T t p)
    rw [sub _ _ _ cl hj, gp j hj, x.c j hj, x.c p hp]
theorem bd_lt : ∀ r, r ≤ 5 → 8192 * 102 * 102 * 102 * bd r 102 < 2 ^ 1900 := by decide +kernel
theorem Inv.sz {m r : Nat} {A : Nat → Nat → Rat} {s : St} (g : Ini m r A) (h : Inv m r A s) (hr : r ≤ 5) (w : Wh m r A 102) : (∀ i j, i < r → j ≤ m + r → Sz 1900 (s.T i j)) ∧ ∀ j, j ≤ m + r → Sz 1900 (s.c j) := by
  obtain ⟨d, d0, d1, d2, h1, h2⟩ := h.sizes g (by omega) (a := 102) (by omega) w
  have b := bd_lt r hr
  have bp := bd_pos r (A := 102) (by omega)
  have e : ((2 ^ 1900 : Nat) : Int) = 2 ^ 1900 := by rw [Int.natCast_pow]; rfl
  generalize bd r 102 = B at *
  have dn : d.natAbs < 2 ^ 1900 := by
    have : (d.natAbs : Int) < ((2 ^ 1900 : Nat) : Int) := by rw [e]; omega
    exact Int.ofNat_lt.mp this
  refine ⟨fun i j hi hj => ?_, fun j hj => ?_⟩
  · obtain ⟨p1, p2⟩ := (h1 i j hi hj).parts d0
    refine ⟨Nat.lt_of_le_of_lt p1 ?_, Nat.lt_of_le_of_lt p2 dn⟩
    have : ((64 * 102 * 102 * 102 * B).natAbs : Int) < ((2 ^ 1900 : Nat) : Int) := by rw [e]; omega
    exact Int.ofNat_lt.mp this
  · obtain ⟨p1, p2⟩ := (h2 j hj).parts d0
    refine ⟨Nat.lt_of_le_of_lt p1 ?_, Nat.lt_of_le_of_lt p2 dn⟩
    have : ((8192 * 102 * 102 * 102 * B).natAbs : Int) < ((2 ^ 1900 : Nat) : Int) := by rw [e]; omega
    exact Int.ofNat_lt.mp this
theorem Rp.sz {m r : Nat} {rows : List (List Rat)} {bs : List Nat} {cs : List Rat} {s : St} (x : Rp m r rows bs cs s) (rr : rows.length = r) (wl : ∀ x ∈ rows, x.length = m + r + 1) (cl : cs.length = m + r + 1) (z : (∀ i j, i < r → j ≤ m + r → Sz 1900 (s.T i j)) ∧ ∀ j, j ≤ m + r → Sz 1900 (s.c j)) :
    (∀ w ∈ rows, ∀ q ∈ w, Sz 1900 q) ∧ ∀ q ∈ cs, Sz 1900 q := by
  refine ⟨fun w hw q hq => ?_, fun q hq => ?_⟩
  · obtain ⟨i, hi, rfl⟩ := List.getElem_of_mem hw
    obtain ⟨j, hj, rfl⟩ := List.getElem_of_mem hq
    have := wl _ hw
    have e := x.T i j (by omega) (by omega)
    rw [getD_at hi, getD_at hj] at e
    rw [e]
    exact z.1 i j (by omega) (by omega)
  · obtain ⟨j, hj, rfl⟩ := List.getElem_of_mem hq
    have e := x.c j (by omega)
    rw [getD_at hj] at e
    rw [e]
    exact z.2 j (by omega)
theorem sx_whl {g : G} {cf ci : Nat → List D → Hp → R D} {lf : Nat} {σ : Env} {h : Hp} {c : E} {s : S} {N : Env → Hp → Prop} {T : D → Hp → Prop} (J : Nat → Env → Hp → Prop) (M : Nat)
    (step : ∀ n σ h, J n σ h → n < M ∧ Sat (ev g cf ci lf c σ h) fun x h1 => ∃ b, truth x h1 = some b ∧ (b = true → SX (ex g cf ci lf s σ h1) (J (n + 1)) T) ∧ (b = false → N σ h1)) (h0 : J 0 σ h) (hf : M < lf) : SX (ex g cf ci lf (.whl c s) σ h) N T := by
  have go : ∀ (d n f : Nat) (σ : Env) (h : Hp), n + d = M → d < f → J n σ h → SX (whlGo (ev g cf ci lf c) (ex g cf ci lf s) f σ h) N T := by
    intro d
    induction d with
    | zero =>
      intro n f σ h e hf j
      have := (step n σ h j).1
      omega
    | succ d ih =>
      intro n f σ h e hf j
      cases f with
      | zero => omega
      | succ f =>
        obtain ⟨_, x, h1, ex1, b, tb, q1, q2⟩ := step n σ h j
        rw [whlGo, ex1]
        show SX (match truth x h1 with
          | some true => _
          | some false => _
          | none => _) N T
        rw [tb]
        cases b with
        | false => exact ⟨_, _, rfl, q2 rfl⟩
        | true =>
          obtain ⟨fl, h2, e2, q⟩ := q1 rfl
          cases fl with
          | nx σ' =>
            have := ih (n + 1) f σ' h2 (by omega) (by omega) q
            show SX ((ex g cf ci lf s σ h1).bd _) N T
            rw [e2]
            exact this
          | rt d =>
            show SX ((ex g cf ci lf s σ h1).bd _) N T
            rw [e2]
            exact ⟨_, _, rfl, q⟩
          | bk σ => exact q.elim
          | ct σ => exact q.elim
  rw [ex]
  exact go M 0 lf σ h (by omega) hf h0
section
variable {lf : Nat} (hl : 300000 ≤ lf)
include hl in
theorem r_solve (k : Nat) {h : Hp} {m r : Nat} {A : Nat → Nat → Rat} {a : Ad} {sg : List Int} {rows : List (List Rat)} {bs : List Nat} {cs : List Rat} (x : TabAt h m r a sg rows bs cs) (g : Ini m r A) (rp : Rp m r rows bs cs (ini m r A)) (hr : r ≤ 5) (hm : m ≤ 7) (w : Wh m r A 102) :
    Sat (run gg lf (k + 6) 12 [.ref a.t] h) fun d h' => d = .non ∧ ∃ a' rows' bs' cs' s, TabAt h' m r a' sg rows' bs' cs' ∧ Rp m r rows' bs' cs' s ∧ Inv m r A s ∧ (∀ j, j < m → 0 ≤ s.c j) ∧ a'.t = a.t ∧ a'.S = a.S ∧ Gx [a.t, a.R, a.B] h h' := by
  refine run_of (i := ⟨1, 2, b12⟩) rfl rfl ?_
  show SX (ex gg _ _ lf b12 [some (.ref a.t), none] h) _ _
  unfold b12
  array_get_dec
  refine ⟨_, _, _, _, _, rfl, x.t, rfl, rfl, ?_⟩
  array_get_dec
  refine s_of (r_entering hl (k + 4) x (by omega)) ?_
  array_get_dec
  refine sx_whl (fun n σ h' => ∃ S ap pp a' rows' bs' cs', Way m r A n S ap pp ∧ Rp m r rows' bs' cs' (S n) ∧ TabAt h' m r a' sg rows' bs' cs' ∧ σ = [some (.ref a.t), some (entD (entF m cs'))] ∧ a'.t = a.t ∧ a'.S = a.S ∧ a'.R = a.R ∧ a'.B = a.B ∧ Gx [a.t, a.R, a.B] h h') ((m + r) ^ r) ?_ ?_ ?_
  · rintro n σ h1 ⟨S, ap, pp, b, rows', bs', cs', W, rp', y, rfl, yt, yS, yR, yB, gx⟩
    refine ⟨W.few, ?_⟩
    have iv := W.inv n (Nat.le_refl _)
    cases hp : entF m cs' with
    | none =>
      array_get_dec
      refine ⟨fun c => absurd c (by decide), fun _ => ?_⟩
      refine sx_nil ⟨rfl, b, rows', bs', cs', S n, y, rp', iv, fun j hj => ?_, yt, yS, gx⟩
      rw [← rp'.c j (by omega)]
      exact entF_none hp j hj
    | some p =>
      obtain ⟨pm, pn, pf⟩ := entF_some hp
      rw [rp'.c p (by omega)] at pn
      have z := Inv.sz g iv hr w
      obtain ⟨z1, z2⟩ := rp'.sz y.rr y.wl y.cl z
      obtain ⟨i, hi, pi⟩ := iv.leaves g pm pn
      obtain ⟨q, eq, lv⟩ := r_leaving hl (k + 1) y (show p < m + r by omega) (by omega) z1 ⟨i, hi, by
        show 0 < (rows'.getD i []).getD p 0
        rw [rp'.T i p hi (by omega)]; exact pi⟩
      have lv' := rp'.lv (by omega) lv
      have iv' := iv.turn lv' (by omega)
      have z' := Inv.sz g iv' hr w
      have qr := lv.ha
      have ql : (rows'.getD q []).length = m + r + 1 := by rw [getD_at (by have := y.rr; omega)]; exact y.wl _ (List.getElem_mem _)
      have tn := r_turn hl k y qr (show p < m + r by omega) (by omega) z1 z2 lv.pos (fun u hu => by
        obtain ⟨j, hj, rfl⟩ := List.getElem_of_mem hu
        simp only [List.length_map] at hj
        have := z'.1 q j qr (by omega)
        have e : (turn (S n) q p).T q j = (S n).T q j / (S n).T q p := by show (if q = q then _ else _) = _; rw [if_pos rfl]
        rw [e] at this
        rw [List.getElem_map]
        have e1 := rp'.T q j qr (by omega)
        rw [getD_at hj] at e1
        have e2 : (tabSt rows' bs' cs').T q p = (S n).T q p := rp'.T q p qr (by omega)
        rw [e1, e2]
        exact this)
      array_get_dec
      refine ⟨fun _ => ?_, fun c => absurd (show true = false from c) (by decide)⟩
      array_get_dec
      refine ⟨_, _, _, _, _, rfl, (yt ▸ y.t), rfl, rfl, ?_⟩
      array_get_dec
      refine ⟨_, _, _, _, _, rfl, (yt ▸ y.t), rfl, rfl, ?_⟩
      array_get_dec
      rw [← yt]
      refine s_of eq ?_
      array_get_dec
      refine tn.imp ?_
      rintro d h2 ⟨rfl, c, y2, ct, cS, cR, cB, g2⟩
      array_get_dec
      refine ⟨_, _, _, _, _, rfl, (ct ▸ y2.t), rfl, rfl, ?_⟩
      array_get_dec
      rw [← ct]
      refine s_of (r_entering hl (k + 4) y2 (by omega)) ?_
      array_get_dec
      refine ⟨fun t => if t = n + 1 then turn (S n) q p else S t, fun t => if t = n then q else ap t, fun t => if t = n then p else pp t, c, _, _, _, ?_, ?_, y2, ?_, by rw [ct, yt], by rw [cS, yS], by rw [cR, yR], by rw [cB, yB], ?_⟩
      · refine ⟨fun t ht => ?_, fun t ht => ?_⟩
        · by_cases e : t = n + 1
          · simp only [if_pos e]; exact iv'
          · simp only [if_neg e]; exact W.inv t (by omega)
        · by_cases e : t = n
          · subst e
            simp only [if_true, if_neg (show ¬ t = t + 1 by omega)]
            exact ⟨lv', pm, pn, fun j hj => by rw [← rp'.c j (by omega)]; exact pf j hj, rfl⟩
          · simp only [if_neg (show ¬ t = n + 1 by omega), if_neg (show ¬ t + 1 = n + 1 by omega), if_neg e]
            exact W.st t (by omega)
      · simp only [if_true]
        exact rp'.turn y.rr y.wl y.bl y.cl qr (by omega)
      · rw [ct, yt]; rfl
      · have : Gx [a.t, a.R, a.B] h1 h2 := by rw [← yt, ← yR, ← yB]; exact g2
        rw [ct, yt]
        exact gx.trans this
  · exact ⟨fun _ => ini m r A, fun _ => 0, fun _ => 0, a, rows, bs, cs, ⟨fun _ _ => g.inv, fun t ht => absurd ht (by omega)⟩, rp, x, rfl, rfl, rfl, rfl, rfl, Gx.refl _ _⟩
  · have h1 : (m + r) ^ r ≤ 12 ^ r := Nat.pow_le_pow_left (by omega) r
    have h2 : 12 ^ r ≤ 12 ^ 5 := Nat.pow_le_pow_right (by omega) hr
    have : 12 ^ 5 = 248832 := by decide
    omega
end
end W57

set_option linter.all false
set_option maxRecDepth 100000
/-! WN: comprehensions and loops asked backwards; parts, prices. -/
namespace W57
open VI M57 L57
local macro_rules
  | `(tactic| array_get_dec) => `(tactic| repeat first
  | with_reducible refine sx_seq ?_ | with_reducible refine sx_set ?_ | with_reducible refine sx_ret ?_ | with_reducible refine sx_exp ?_ | with_reducible refine sx_nil ?_ | with_reducible refine sx_ifs ?_ | with_reducible refine sx_setI ?_ | with_reducible refine sx_setF ?_ | with_reducible refine sx_setT ?_
  | ((with_reducible apply s_slot); · rfl) | with_reducible refine s_cst ?_ | with_reducible refine s_nop ?_ | with_reducible refine s_nil ?_ | with_reducible refine s_cons ?_ | with_reducible refine s_idx ?_ | with_reducible refine s_cmp ?_ | with_reducible refine s_chain ?_ | with_reducible refine s_bin ?_ | with_reducible refine s_fld ?_ | with_reducible refine s_call ?_ | with_reducible refine s_blt ?_ | with_reducible refine s_meth ?_ | with_reducible refine s_tup ?_ | with_reducible refine s_lst ?_ | with_reducible refine s_star ?_ | with_reducible refine s_neg ?_ | with_reducible refine s_not ?_ | with_reducible refine s_and ?_ | with_reducible refine s_or ?_ | with_reducible refine s_ite ?_ | with_reducible refine s_isi ?_ | with_reducible refine s_app ?_ | with_reducible refine s_ext ?_ | with_reducible refine s_iseq ?_ | with_reducible refine s_ienum ?_ | with_reducible refine s_izip ?_ | with_reducible refine s_irng ?_ | with_reducible refine s_lrg ?_ | with_reducible refine s_slc ?_ | with_reducible refine s_rev ?_ | with_reducible refine s_add ?_ | with_reducible refine s_sub ?_
  | refine ⟨_, rfl, ?_⟩ | refine ⟨(Nat.le_of_ble_eq_true rfl : List.length _ ≤ 100000), ?_⟩)

section
variable {g : G} {cf ci : Nat → List D → Hp → R D} {lf : Nat} {h h1 : Hp} {env : Env} {it e : E} {t : TG} {vs : List Nat} {P : D → Hp → Prop}
theorem s_compI {c : E} (s : Sat (ev g cf ci lf it env h) fun i0 h1 => Sat (ev g cf ci lf (.comp vs (.cst i0) t c e) env h1) P) : Sat (ev g cf ci lf (.comp vs it t c e) env h) P := by
  obtain ⟨i0, h1, e1, s⟩ := s
  rw [ev, e1]
  rw [ev, ev] at s
  exact s
theorem sx_frI {s : S} {N : Env → Hp → Prop} (q : Sat (ev g cf ci lf it env h) fun i0 h1 => SX (ex g cf ci lf (.fr t (.cst i0) s) env h1) N P) : SX (ex g cf ci lf (.fr t it s) env h) N P := by
  obtain ⟨i0, h1, e1, q⟩ := q
  rw [ex, e1]
  rw [ex, ev] at q
  exact q
theorem s_comp {i0 : D} {xs : List D} (Q : Nat → D → Hp → Prop) (hl : 300000 ≤ lf) (hx : xs.length < 100000) (hs : ∀ h', Gr h h' → Has i0 xs h')
    (q1 : ∀ i y h1 h2, Gr h1 h2 → Q i y h1 → Q i y h2) (q2 : ∀ i y h1 o, h.next < h1.next → Q i y h1 → Q i y (h1.set h.next o))
    (he : ∀ i (hi : i < xs.length), ∃ σ, asg t xs[i] (wipeL env vs) = some σ ∧ ∀ h', Gr h h' → h.next < h'.next → Sat (ev g cf ci lf e σ h') fun y h2 => Gr h' h2 ∧ Q i y h2)
    (fin : ∀ ys h', Gr h h' → h'.get h.next = some (.lst ys) → ys.length = xs.length → (∀ i (hi : i < ys.length), Q i ys[i] h') → P (.ref h.next) h') : Sat (ev g cf ci lf (.comp vs (.cst i0) t (.cst (.bl true)) e) env h) P := by
  obtain ⟨acc, h', r, ⟨jg, jl, jq⟩, ga, la⟩ := comp_go (it := i0) (n := h.next) (turn := fun x h2 => match asg t x (wipeL env vs) with
      | none => .bad
      | some σ' => (ev g cf ci lf (.cst (.bl true)) σ' h2).bd fun b h3 => match b with
        | .bl true => (ev g cf ci lf e σ' h3).bd fun y h4 => .ok (some y) h4
        | .bl false => .ok none h3
        | _ => .bad) (f := lf) (xs := xs) (fun i acc h1 => Gr h h1 ∧ acc.length = i ∧ ∀ j (hj : j < acc.length), Q j acc[j] h1) (by omega)
    (fun i hi acc h1 ⟨j1, j2, j3⟩ g1 => by
      have lt : h.next < h1.next := Hp.lt_of_get g1
      obtain ⟨σ, as, hσ⟩ := he i hi
      obtain ⟨y, h2, ey, gy, qy⟩ := hσ h1 j1 lt
      refine ⟨(hs h1 j1).1 i hi, y, h2, ?_, gy.get g1, ?_, ?_, ?_⟩
      · show (match asg t xs[i] (wipeL env vs) with
          | none => R.bad
          | some σ' => (ev g cf ci lf (.cst (.bl true)) σ' h1).bd fun b h3 => match b with
            | .bl true => (ev g cf ci lf e σ' h3).bd fun y h4 => .ok (some y) h4
            | .bl false => .ok none h3
            | _ => .bad) = _
        rw [as]
        show ((ev g cf ci lf e σ h1).bd _) = _
        rw [ey]
      · exact (j1.trans gy).set (Nat.le_refl _) (Nat.lt_of_lt_of_le lt gy.le) _
      · simp [j2]
      · intro j hj
        have l2 : h.next < h2.next := Nat.lt_of_lt_of_le lt gy.le
        by_cases q : j < acc.length
        · rw [List.getElem_append_left q]
          exact q2 _ _ _ _ l2 (q1 _ _ _ _ gy (j3 j q))
        · have e : j = acc.length := by simp at hj; omega
          subst e
          rw [List.getElem_append_right (Nat.le_refl _)]
          simp only [Nat.sub_self, List.getElem_cons_zero]
          rw [j2]
          exact q2 _ _ _ _ l2 qy)
    (fun acc h1 ⟨j1, _, _⟩ _ => (hs h1 j1).2) (h := h.push (.lst [])) ⟨Gr.push h _, rfl, fun j hj => by cases hj⟩ (get_top h _) (by omega)
  refine ⟨.ref h.next, h', ?_, fin acc h' jg ga la jq⟩
  refine (show ev g cf ci lf (.comp vs (.cst i0) t (.cst (.bl true)) e) env h = ((compGo i0 h.next (fun x h2 => match asg t x (wipeL env vs) with
      | none => .bad
      | some σ' => (ev g cf ci lf (.cst (.bl true)) σ' h2).bd fun b h3 => match b with
        | .bl true => (ev g cf ci lf e σ' h3).bd fun y h4 => .ok (some y) h4
        | .bl false => .ok none h3
        | _ => .bad) lf 0 (h.push (.lst []))).bd fun _ h2 => R.ok (D.ref h.next) h2) from rfl).trans ?_
  exact congrArg (fun z : R Unit => z.bd fun _ h2 => R.ok (D.ref h.next) h2) r
/-- a comprehension whose items are told by their places -/
theorem s_compP {i0 : D} {xs : List D} (f : Nat → D) (hl : 300000 ≤ lf) (hx : xs.length < 100000) (hs : ∀ h', Gr h h' → Has i0 xs h')
    (he : ∀ i (hi : i < xs.length), ∃ σ, asg t xs[i] (wipeL env vs) = some σ ∧ ∀ h', Gr h h' → Sat (ev g cf ci lf e σ h') fun y h2 => Gr h' h2 ∧ y = f i)
    (fin : ∀ h', Gr h h' → h'.get h.next = some (.lst ((List.range xs.length).map f)) → P (.ref h.next) h') : Sat (ev g cf ci lf (.comp vs (.cst i0) t (.cst (.bl true)) e) env h) P := by
  refine s_comp (fun i y _ => y = f i) hl hx hs (fun _ _ _ _ _ z => z) (fun _ _ _ _ _ z => z) (fun i hi => ?_) fun ys h' g1 g2 ly q => fin h' g1 ?_
  · obtain ⟨σ, as, s⟩ := he i hi
    exact ⟨σ, as, fun h' g _ => s h' g⟩
  · rw [g2]
    congr 2
    refine List.ext_getElem (by simp [ly]) fun i h1 h2 => ?_
    rw [q i h1]
    simp
/-- a loop over known items -/
theorem s_fr {tg : TG} {s : S} {N : Env → Hp → Prop} {i0 : D} {xs : List D} (J : Nat → Env → Hp → Prop) (hl : 300000 ≤ lf) (hx : xs.length < 100000)
    (step : ∀ i (hi : i < xs.length) σ h, J i σ h → nxt i0 i h = some (some xs[i]) ∧ ∃ σ1, asg tg xs[i] σ = some σ1 ∧ SX (ex g cf ci lf s σ1 h) (J (i + 1)) P)
    (fin : ∀ σ h, J xs.length σ h → nxt i0 xs.length h = some none ∧ N σ h) (h0 : J 0 env h) : SX (ex g cf ci lf (.fr tg (.cst i0) s) env h) N P :=
  sx_fr J v_cst step fin h0 (by omega)
end
/-! ### parts -/
def partF (m : Nat) (bs : List Nat) (v : Nat → Rat) (i j : Nat) : Rat := sm i fun u => if bs.getD u 0 = j then v u else 0
def partL (m : Nat) (bs : List Nat) (v : Nat → Rat) (i : Nat) : List Rat := (List.range m).map (partF m bs v i)
theorem partL_succ {m : Nat} {bs : List Nat} {v : Nat → Rat} {i : Nat} (inj : ∀ u, u < i → bs.getD u 0 ≠ bs.getD i 0) : partL m bs v (i + 1) = (partL m bs v i).set (bs.getD i 0) (v i) := by
  refine List.ext_getElem (by simp [partL]) fun j h1 h2 => ?_
  have hj : j < m := by simpa [partL] using h1
  rw [List.getElem_set]
  simp only [partL, List.getElem_map, List.getElem_range]
  show sm i _ + (if bs.getD i 0 = j then v i else 0) = _
  by_cases e : bs.getD i 0 = j
  · rw [if_pos e, if_pos e, sm_zero' fun u hu => by rw [if_neg]; rw [← e]; exact inj u hu]
    grind
  · rw [if_neg e, if_neg e]
    show partF m bs v i j + 0 = _
    grind
theorem partL_skip {m : Nat} {bs : List Nat} {v : Nat → Rat} {i : Nat} (h : m ≤ bs.getD i 0) : partL m bs v (i + 1) = partL m bs v i := by
  refine List.ext_getElem (by simp [partL]) fun j h1 h2 => ?_
  have hj : j < m := by simpa [partL] using h1
  simp only [partL, List.getElem_map, List.getElem_range]
  show sm i _ + (if bs.getD i 0 = j then v i else 0) = _
  rw [if_neg (by omega)]
  show partF m bs v i j + 0 = _
  grind
section
variable {lf : Nat} (hl : 300000 ≤ lf)
include hl in
theorem r_parts (k : Nat) {h : Hp} {m r : Nat} {a : Ad} {sg : List Int} {rows : List (List Rat)} {bs : List Nat} {cs : List Rat} (x : TabAt h m r a sg rows bs cs) (hm : m ≤ 7) (hr : r ≤ 5) (inj : ∀ u w, u < w → w < r → bs.getD u 0 ≠ bs.getD w 0) :
    Sat (run gg lf (k + 1) 17 [.ref a.t] h) fun d h' => ∃ n, d = .ref n ∧ h.next ≤ n ∧ Gr h h' ∧ h'.get n = some (.lst (frs (partL m bs (fun i => (tabSt rows bs cs).T i (m + r)) r))) := by
  refine run_of (i := ⟨1, 4, b17⟩) rfl rfl ?_
  show SX (ex gg _ _ lf b17 [some (.ref a.t), none, none, none] h) _ _
  unfold b17
  array_get_dec
  have x1 := x.mono (Gr.push h (.lst [.tup [.int 0, .int 1]]))
  refine ⟨_, _, _, _, rfl, x1.t, rfl, ?_⟩
  refine s_mulL (get_top _ _) (by omega) (by simp; omega) ?_
  have e0 : (List.replicate m [D.tup [D.int 0, D.int 1]]).flatten = frs (partL m bs (fun i => (tabSt rows bs cs).T i (m + r)) 0) := by
    refine List.ext_getElem (by simp [partL]) fun i h1 h2 => ?_
    simp [partL, partF, sm]
    rfl
  rw [e0]
  have g1 : Gr h ((h.push (.lst [.tup [.int 0, .int 1]])).push (.lst (frs (partL m bs (fun i => (tabSt rows bs cs).T i (m + r)) 0)))) := (Gr.push _ _).trans (Gr.push _ _)
  have t1 := get_top (h.push (.lst [.tup [.int 0, .int 1]])) (.lst (frs (partL m bs (fun i => (tabSt rows bs cs).T i (m + r)) 0)))
  have le1 : h.next ≤ (h.push (.lst [.tup [.int 0, .int 1]])).next := (Gr.push _ _).le
  generalize (h.push (.lst [.tup [.int 0, .int 1]])).next = n at *
  generalize ((h.push (.lst [.tup [.int 0, .int 1]])).push (.lst (frs (partL m bs (fun i => (tabSt rows bs cs).T i (m + r)) 0)))) = h1 at *
  have x2 := x.mono g1
  array_get_dec
  refine sx_frI ?_
  array_get_dec
  refine ⟨_, _, _, _, rfl, x2.t, rfl, ?_⟩
  refine ⟨⟨_, a1_at (seq_of x2.B)⟩, ?_⟩
  have bl := x.bl
  refine s_fr (xs := enumL (nats bs)) (fun i σ h' => (∃ o2 o3, σ = [some (.ref a.t), some (.ref n), o2, o3]) ∧ Gr h h' ∧ h'.get n = some (.lst (frs (partL m bs (fun i => (tabSt rows bs cs).T i (m + r)) i)))) hl (by simp [enumL, nats]; omega) ?_ ?_ ⟨⟨_, _, rfl⟩, g1, t1⟩
  · rintro i hi σ h2 ⟨⟨o2, o3, rfl⟩, g2, t2⟩
    have y := x.mono g2
    have ib : i < bs.length := by simpa [enumL, nats] using hi
    have iw : i < rows.length := by have := x.rr; omega
    have ia : i < a.rs.length := by have := x.rl; omega
    have wl := x.wl rows[i] (List.getElem_mem iw)
    have ei : (enumL (nats bs))[i] = .tup [.int (i : Nat), .int (bs[i] : Nat)] := by simp [enumL, nats, List.getD, ib]
    refine ⟨(has_enum y.B).1 i hi, [some (.ref a.t), some (.ref n), some (.int (i : Nat)), some (.int (bs[i] : Nat))], by rw [ei]; rfl, ?_⟩
    have bD : bs.getD i 0 = bs[i] := getD_at ib
    array_get_dec
    refine ⟨_, _, _, _, rfl, y.t, rfl, ?_⟩
    array_get_dec
    refine ⟨fun c => ?_, fun c => ?_⟩
    · have bm : bs[i] < m := by simpa using c
      array_get_dec
      refine ⟨_, _, _, _, rfl, y.t, rfl, ?_⟩
      array_get_dec
      refine ⟨_, y.iR ia, ?_⟩
      array_get_dec
      have il : idx2 (.ref a.rs[i]) (.int (-1)) h2 = some (fr ((tabSt rows bs cs).T i (m + r))) := by
        rw [idx_last (y.row i ia iw) (by simp; omega)]
        show _ = some (fr ((rows.getD i []).getD (m + r) 0))
        rw [getD_at iw, getD_at (by omega)]
        have : (rows[i]).length - 1 = m + r := by omega
        simp [this]
      refine ⟨_, il, ?_⟩
      array_get_dec
      refine ⟨_, _, _, _, rfl, rfl, t2, place_lt (by simp [partL]; exact bm), ?_⟩
      array_get_dec
      refine ⟨⟨_, _, rfl⟩, g2.set le1 (Hp.lt_of_get t2) _, ?_⟩
      rw [Hp.get_set _ _ _ _ (Hp.lt_of_get t2), if_pos rfl, partL_succ (fun u hu => inj u i hu (by omega)), bD]
      simp [frs, List.map_set]
    · have bm : ¬ bs[i] < m := by simpa using c
      array_get_dec
      refine ⟨⟨_, _, rfl⟩, g2, ?_⟩
      rw [partL_skip (by omega)]
      exact t2
  · rintro σ h2 ⟨⟨o2, o3, rfl⟩, g2, t2⟩
    have y := x.mono g2
    have ln : (enumL (nats bs)).length = r := by simp [enumL, nats]; exact bl
    refine ⟨(has_enum y.B).2, ?_⟩
    rw [ln] at t2
    array_get_dec
    exact ⟨le1, g2, t2⟩
/-! ### prices -/
theorem fr_int (n : Int) : fr (n : Rat) = .tup [.int n, .int 1] := rfl
theorem fr_nat (n : Nat) : fr (n : Rat) = .tup [.int (n : Int), .int 1] := rfl
theorem Sz.int {n : Int} {a : Nat} (h : n.natAbs < 2 ^ a) (ha : 0 < a) : Sz a (n : Rat) := ⟨h, Nat.one_lt_two_pow (by omega)⟩
/-- prices of the first i rows -/
def priceL (m : Nat) (sg : List Int) (s : St) (i : Nat) : List Rat := (List.range i).map fun u => ((sg.getD u 0 : Int) : Rat) * (1 - s.c (m + u))
theorem Sz.one_sub {a : Nat} {p : Rat} (hp : Sz a p) : Sz (a + 1) (1 - p) := by
  have o : Ov (p.den : Int) ((p.den + p.num.natAbs : Nat) : Int) (1 - p) := by
    refine ⟨p.den - p.num, ?_, by omega, by omega⟩
    rw [Rat.intCast_sub, ← mul_den p]
    grind
  obtain ⟨o1, o2⟩ := o.parts (by have := den_pos p; omega)
  have e2 : (2 : Nat) ^ (a + 1) = 2 * 2 ^ a := by rw [Nat.pow_succ]; omega
  have h1 := hp.1
  have h2 := hp.2
  refine ⟨by omega, by have e : ((p.den : Int)).natAbs = p.den := by simp
                       omega⟩
include hl in
theorem r_prices (k : Nat) {h : Hp} {m r : Nat} {a : Ad} {sg : List Int} {rows : List (List Rat)} {bs : List Nat} {cs : List Rat} (x : TabAt h m r a sg rows bs cs) (hr : r ≤ 5) (sgl : ∀ n ∈ sg, n.natAbs ≤ 1) (sz : ∀ q ∈ cs, Sz 1900 q) :
    Sat (run gg lf (k + 4) 18 [.ref a.t] h) fun d h' => ∃ n, d = .ref n ∧ h.next ≤ n ∧ Gr h h' ∧ h'.get n = some (.lst (frs (priceL m sg (tabSt rows bs cs) r))) := by
  refine run_of (i := ⟨1, 5, b18⟩) rfl rfl ?_
  show SX (ex gg _ _ lf b18 [some (.ref a.t), none, none, none, none] h) _ _
  unfold b18
  array_get_dec
  have g1 : Gr h (h.push (.lst [])) := Gr.push _ _
  have t1 := get_top h (.lst [])
  have le1 : h.next ≤ h.next := Nat.le_refl _
  generalize hn : h.next = n at t1
  have le1 : h.next ≤ n := by omega
  rw [← hn] at t1 ⊢
  generalize h.push (.lst []) = h1 at *
  have x2 := x.mono g1
  refine sx_frI ?_
  array_get_dec
  refine ⟨_, _, _, _, rfl, x2.t, rfl, ?_⟩
  refine ⟨⟨_, a1_at (seq_of x2.S)⟩, ?_⟩
  have sl := x.sl
  refine s_fr (xs := enumL (intsL sg)) (fun i σ h' => (∃ o2 o3 o4, σ = [some (.ref a.t), some (.ref h.next), o2, o3, o4]) ∧ Gr h h' ∧ h'.get h.next = some (.lst (frs (priceL m sg (tabSt rows bs cs) i)))) hl (by simp [enumL, intsL]; omega) ?_ ?_ ⟨⟨_, _, _, rfl⟩, g1, t1⟩
  · rintro i hi σ h2 ⟨⟨o2, o3, o4, rfl⟩, g2, t2⟩
    have y := x.mono g2
    have ib : i < sg.length := by simpa [enumL, intsL] using hi
    have ei : (enumL (intsL sg))[i] = .tup [.int (i : Nat), .int sg[i]] := by simp [enumL, intsL, List.getD, ib]
    have ic : m + i < cs.length := by have := x.cl; omega
    refine ⟨(has_enum y.S).1 i hi, [some (.ref a.t), some (.ref h.next), some (.int (i : Nat)), some (.int sg[i]), o4], by rw [ei]; rfl, ?_⟩
    array_get_dec
    refine ⟨_, _, _, _, rfl, y.t, rfl, ?_⟩
    array_get_dec
    refine ⟨_, _, _, _, rfl, y.t, rfl, ?_⟩
    array_get_dec
    refine ⟨_, y.iC ic, ?_⟩
    array_get_dec
    have z1 := sz cs[m + i] (List.getElem_mem ic)
    have z2 := z1.one_sub
    refine s_of (r_diff hl k 1 cs[m + i] h2 ⟨by decide, by decide⟩ (z1.le (by omega))) ?_
    array_get_dec
    refine ⟨_, _, rfl, t2, ?_⟩
    array_get_dec
    refine s_of (r_prod hl k ((sg[i] : Int) : Rat) (1 - cs[m + i]) h2 (Sz.int (Nat.lt_of_le_of_lt (sgl _ (List.getElem_mem ib)) (Nat.one_lt_two_pow (by omega))) (by omega)) (z2.le (by omega))) ?_
    refine ⟨_, t2, by simp [priceL]; omega, ?_⟩
    array_get_dec
    refine ⟨⟨_, _, _, rfl⟩, g2.set (Nat.le_refl _) (Hp.lt_of_get t2) _, ?_⟩
    rw [Hp.get_set _ _ _ _ (Hp.lt_of_get t2), if_pos rfl]
    have e1 : sg.getD i 0 = sg[i] := getD_at ib
    have e2 : (tabSt rows bs cs).c (m + i) = cs[m + i] := by show cs.getD (m + i) 0 = _; rw [getD_at ic]
    simp [priceL, List.range_succ, e2, ib]
  · rintro σ h2 ⟨⟨o2, o3, o4, rfl⟩, g2, t2⟩
    have y := x.mono g2
    have ln : (enumL (intsL sg)).length = r := by simp [enumL, intsL]; exact sl
    refine ⟨(has_enum y.S).2, ?_⟩
    rw [ln] at t2
    array_get_dec
    exact ⟨Nat.le_refl _, g2, t2⟩
end
end W57

set_option linter.all false
set_option maxRecDepth 100000
/-! WO: a tableau's begin. -/
namespace W57
open VI M57 L57
local macro_rules
  | `(tactic| array_get_dec) => `(tactic| repeat first
  | with_reducible refine sx_seq ?_ | with_reducible refine sx_set ?_ | with_reducible refine sx_ret ?_ | with_reducible refine sx_exp ?_ | with_reducible refine sx_nil ?_ | with_reducible refine sx_ifs ?_ | with_reducible refine sx_setI ?_ | with_reducible refine sx_setF ?_ | with_reducible refine sx_setT ?_
  | ((with_reducible apply s_slot); · rfl) | with_reducible refine s_cst ?_ | with_reducible refine s_nop ?_ | with_reducible refine s_nil ?_ | with_reducible refine s_cons ?_ | with_reducible refine s_idx ?_ | with_reducible refine s_cmp ?_ | with_reducible refine s_chain ?_ | with_reducible refine s_bin ?_ | with_reducible refine s_fld ?_ | with_reducible refine s_call ?_ | with_reducible refine s_blt ?_ | with_reducible refine s_meth ?_ | with_reducible refine s_tup ?_ | with_reducible refine s_lst ?_ | with_reducible refine s_star ?_ | with_reducible refine s_neg ?_ | with_reducible refine s_not ?_ | with_reducible refine s_and ?_ | with_reducible refine s_or ?_ | with_reducible refine s_ite ?_ | with_reducible refine s_isi ?_ | with_reducible refine s_app ?_ | with_reducible refine s_ext ?_ | with_reducible refine s_iseq ?_ | with_reducible refine s_ienum ?_ | with_reducible refine s_izip ?_ | with_reducible refine s_irng ?_ | with_reducible refine s_lrg ?_ | with_reducible refine s_slc ?_ | with_reducible refine s_rev ?_ | with_reducible refine s_add ?_ | with_reducible refine s_sub ?_
  | refine ⟨_, rfl, ?_⟩ | refine ⟨(Nat.le_of_ble_eq_true rfl : List.length _ ≤ 100000), ?_⟩)

section
variable {h : Hp} {Q : D → Hp → Prop}
theorem s_len {d : D} {l : List D} (e : items? d h = some l) (q : Q (.int (l.length : Int)) h) : Sat (blt1 0 [d] h) Q := by
  refine ⟨_, _, ?_, q⟩
  show (match items? d h with
    | some l => R.ok (D.int l.length) h
    | none => _) = _
  rw [e]
theorem s_mul {i j : Int} (h1 : i.natAbs < 2 ^ 20000) (h2 : j.natAbs < 2 ^ 20000) (q : Q (.int (i * j)) h) : Sat (bin2 .mul (.int i) (.int j) h) Q := ⟨_, _, mul_int h h1 h2 (by omega) (by omega) (by omega), q⟩
theorem s_intB {b : Bool} (q : Q (.int (if b then 1 else 0)) h) : Sat (blt1 2 [.bl b] h) Q := ⟨_, _, rfl, q⟩
theorem s_intI {i : Int} (q : Q (.int i) h) : Sat (blt1 2 [.int i] h) Q := ⟨_, _, rfl, q⟩
end
def sgn (n : Int) : Int := if 0 ≤ n then 1 else -1
theorem sgn_abs (n : Int) : (sgn n).natAbs ≤ 1 := by unfold sgn; split <;> decide
theorem sgn_mul (n : Int) : 0 ≤ sgn n * n := by unfold sgn; split <;> omega
/-- the first tableau's numbers -/
def AI (cols : List (List Int)) (goal : List Int) (i j : Nat) : Int :=
  if j < cols.length then sgn (goal.getD i 0) * (cols.getD j []).getD i 0 else if j < cols.length + goal.length then (if j - cols.length = i then 1 else 0) else sgn (goal.getD i 0) * goal.getD i 0
def rowA (cols : List (List Int)) (goal : List Int) (i : Nat) : List Rat := (List.range (cols.length + goal.length + 1)).map fun j => ((AI cols goal i j : Int) : Rat)
/-- columns in the heap -/
structure Cols (h : Hp) (ca : Nat) (cr : List Nat) (cols : List (List Int)) (r : Nat) : Prop where
  C : h.get ca = some (.lst (refs cr))
  len : cr.length = cols.length
  each : ∀ i (h1 : i < cr.length) (h2 : i < cols.length), h.get cr[i] = some (.lst (intsL cols[i]))
  wl : ∀ c ∈ cols, c.length = r
  bd : ∀ c ∈ cols, ∀ n ∈ c, n.natAbs ≤ 102
  few : cols.length ≤ 7
theorem Cols.mono {h h' : Hp} {ca : Nat} {cr : List Nat} {cols : List (List Int)} {r : Nat} (x : Cols h ca cr cols r) (g : Gr h h') : Cols h' ca cr cols r :=
  { x with C := g.get x.C, each := fun i h1 h2 => g.get (x.each i h1 h2) }
theorem int_lt {n : Int} {b : Nat} (h : n.natAbs ≤ b) (hb : b < 2 ^ 20 := by decide) : n.natAbs < 2 ^ 20000 := Nat.lt_of_le_of_lt h (Nat.lt_of_lt_of_le hb (Nat.pow_le_pow_right (by omega) (by omega)))
theorem get_put {h : Hp} {n : Nat} {o' : O} (e : h.get n = some o') (o : O) : (h.set n o).get n = some o := by rw [Hp.get_set _ _ _ _ (Hp.lt_of_get e), if_pos rfl]
def frontD (cols : List (List Int)) (goal : List Int) (i j : Nat) : D := .tup [.int (sgn (goal.getD i 0) * (cols.getD j []).getD i 0), .int 1]
def unD (i j : Nat) : D := .tup [.int (if j = i then 1 else 0), .int 1]
section
variable {lf : Nat} (hl : 300000 ≤ lf)
include hl in
theorem r_first_row (k : Nat) {h : Hp} {ca ga t S : Nat} {cr : List Nat} {cols : List (List Int)} {goal : List Int} {fs : List (Nat × D)} {i : Nat} (x : Cols h ca cr cols goal.length) (hg : h.get ga = some (.lst (intsL goal))) (gb : ∀ n ∈ goal, n.natAbs ≤ 102) (gl : goal.length ≤ 5)
    (ht : h.get t = some (.ins 0 fs)) (hS : lookN fs 8 = some (.ref S)) (eS : h.get S = some (.lst (intsL (goal.map sgn)))) (hi : i < goal.length) :
    Sat (run gg lf (k + 1) 10 [.ref t, .ref ca, .ref ga, .int (i : Int)] h) fun d h' => ∃ n, d = .ref n ∧ h.next ≤ n ∧ Gr h h' ∧ h'.get n = some (.lst (frs (rowA cols goal i))) := by
  refine run_of (i := ⟨4, 8, b10⟩) rfl rfl ?_
  show SX (ex gg _ _ lf b10 [some (.ref t), some (.ref ca), some (.ref ga), some (.int (i : Int)), none, none, none, none] h) _ _
  unfold b10
  have ln := x.len
  have few := x.few
  have gi : (goal[i]).natAbs ≤ 102 := gb _ (List.getElem_mem hi)
  have gD : goal.getD i 0 = goal[i] := getD_at hi
  array_get_dec
  refine ⟨_, _, _, _, rfl, ht, hS, ?_⟩
  array_get_dec
  refine ⟨_, idx_lst (i := i) eS (by simpa [intsL] using hi), ?_⟩
  have e1 : (intsL (goal.map sgn))[i]'(by simpa [intsL] using hi) = .int (sgn goal[i]) := by simp [intsL]
  rw [e1]
  array_get_dec
  refine s_compI ?_
  array_get_dec
  refine ⟨⟨_, a1_at (seq_of x.C)⟩, ?_⟩
  refine s_compP (frontD cols goal i) hl (xs := refs cr) (by simp [refs]; omega) (fun h' g => has_lst (g.get x.C)) (fun j hj => ?_) fun h1 g1 t1 => ?_
  · have jc : j < cr.length := by simpa [refs] using hj
    have jw : j < cols.length := by omega
    refine ⟨_, rfl, fun h' g => ?_⟩
    have y := x.mono g
    have wl := x.wl cols[j] (List.getElem_mem jw)
    have er : (refs cr)[j] = .ref cr[j] := by simp [refs]
    rw [er]
    array_get_dec
    refine ⟨_, idx_lst (i := i) (y.each j jc jw) (by simpa [intsL] using (by omega)), ?_⟩
    have e2 : (intsL cols[j])[i]'(by simpa [intsL] using (by omega)) = .int ((cols[j])[i]'(by omega)) := by simp [intsL]
    rw [e2]
    refine s_mul (int_lt (sgn_abs _)) (int_lt (x.bd _ (List.getElem_mem jw) _ (List.getElem_mem _))) ?_
    array_get_dec
    refine ⟨Gr.refl _, ?_⟩
    unfold frontD
    rw [gD, getD_at jw, getD_at (by omega)]
  have ll : (refs cr).length = cols.length := by simp [refs]; omega
  rw [ll] at t1
  array_get_dec
  refine ⟨_, _, rfl, t1, ?_⟩
  refine s_compI ?_
  array_get_dec
  refine s_len (show items? (.ref ga) h1 = some (intsL goal) from seq_of (g1.get hg)) ?_
  array_get_dec
  have lg : (intsL goal).length = goal.length := by simp [intsL]
  rw [lg]
  refine ⟨_, _, rfl, rng_lt _ (by omega), ?_⟩
  refine s_compP (unD i) hl (xs := rngL 0 goal.length) (by rw [rngL_len]; omega) (fun h' g => has_rng) (fun j hj => ?_) fun h2 g2 t2 => ?_
  · refine ⟨_, rfl, fun h' g => ?_⟩
    rw [rngL_get]
    array_get_dec
    refine s_intB ?_
    array_get_dec
    refine ⟨Gr.refl _, ?_⟩
    unfold unD
    by_cases e : j = i
    · subst e; simp
    · have : ¬ (j : Int) = (i : Int) := by omega
      simp [e, this]
  rw [rngL_len] at t2
  refine ⟨_, _, _, rfl, g2.get t1, t2, by simp; omega, ?_⟩
  have t3 := get_put (g2.get t1) (.lst ((List.range cols.length).map (frontD cols goal i) ++ (List.range goal.length).map (unD i)))
  have g3 := (g1.trans g2).set (Nat.le_refl _) (Hp.lt_of_get (g2.get t1)) (.lst ((List.range cols.length).map (frontD cols goal i) ++ (List.range goal.length).map (unD i)))
  generalize h2.set h.next (.lst ((List.range cols.length).map (frontD cols goal i) ++ (List.range goal.length).map (unD i))) = h3 at *
  array_get_dec
  refine ⟨_, seq_of t3, ?_⟩
  array_get_dec
  refine ⟨_, idx_lst (i := i) (g3.get hg) (by rw [lg]; exact hi), ?_⟩
  have e3 : (intsL goal)[i]'(by rw [lg]; exact hi) = .int goal[i] := by simp [intsL]
  rw [e3]
  refine s_mul (int_lt (sgn_abs _)) (int_lt gi) ?_
  array_get_dec
  refine ⟨by simp; omega, ?_⟩
  refine ⟨_, rfl, g3.le, g3.trans (Gr.push _ _), ?_⟩
  rw [get_top]
  congr 2
  refine List.ext_getElem (by simp [rowA]; omega) fun j h1 h2 => ?_
  have hj : j < cols.length + goal.length + 1 := by simpa [rowA] using h2
  simp only [frs, rowA, List.getElem_map, List.getElem_range, fr_int]
  unfold AI
  rw [gD]
  by_cases c1 : j < cols.length
  · rw [if_pos c1, List.getElem_append_left (by simp; omega), List.getElem_append_left (by simpa using c1), List.getElem_map, List.getElem_range]
    unfold frontD
    rw [gD]
  · rw [if_neg c1]
    by_cases c2 : j < cols.length + goal.length
    · rw [if_pos c2, List.getElem_append_left (by simp; omega), List.getElem_append_right (by simp; omega), List.getElem_map, List.getElem_range]
      simp [unD]
    · rw [if_neg c2, List.getElem_append_right (by simp; omega)]
      simp
end
end W57

set_option linter.all false
set_option maxRecDepth 100000
/-! WP: a tableau made and solved; parts_for. -/
namespace W57
open VI M57 L57
local macro_rules
  | `(tactic| array_get_dec) => `(tactic| repeat first
  | with_reducible refine sx_seq ?_ | with_reducible refine sx_set ?_ | with_reducible refine sx_ret ?_ | with_reducible refine sx_exp ?_ | with_reducible refine sx_nil ?_ | with_reducible refine sx_ifs ?_ | with_reducible refine sx_setI ?_ | with_reducible refine sx_setF ?_ | with_reducible refine sx_setT ?_
  | ((with_reducible apply s_slot); · rfl) | with_reducible refine s_cst ?_ | with_reducible refine s_nop ?_ | with_reducible refine s_nil ?_ | with_reducible refine s_cons ?_ | with_reducible refine s_idx ?_ | with_reducible refine s_cmp ?_ | with_reducible refine s_chain ?_ | with_reducible refine s_bin ?_ | with_reducible refine s_fld ?_ | with_reducible refine s_call ?_ | with_reducible refine s_blt ?_ | with_reducible refine s_meth ?_ | with_reducible refine s_tup ?_ | with_reducible refine s_lst ?_ | with_reducible refine s_star ?_ | with_reducible refine s_neg ?_ | with_reducible refine s_not ?_ | with_reducible refine s_and ?_ | with_reducible refine s_or ?_ | with_reducible refine s_ite ?_ | with_reducible refine s_isi ?_ | with_reducible refine s_app ?_ | with_reducible refine s_ext ?_ | with_reducible refine s_iseq ?_ | with_reducible refine s_ienum ?_ | with_reducible refine s_izip ?_ | with_reducible refine s_irng ?_ | with_reducible refine s_lrg ?_ | with_reducible refine s_slc ?_ | with_reducible refine s_rev ?_ | with_reducible refine s_add ?_ | with_reducible refine s_sub ?_
  | refine ⟨_, rfl, ?_⟩ | refine ⟨(Nat.le_of_ble_eq_true rfl : List.length _ ≤ 100000), ?_⟩)

theorem Gx.get {t : Nat} {h h' : Hp} (x : Gx [t] h h') {n : Nat} {o : O} (e : h.get n = some o) (ne : n ≠ t) : h'.get n = some o := by
  rw [x.eq n (Hp.lt_of_get e) (by simpa using ne)]; exact e
def AQ (cols : List (List Int)) (goal : List Int) (i j : Nat) : Rat := ((AI cols goal i j : Int) : Rat)
theorem AI_bd {cols : List (List Int)} {goal : List Int} (cb : ∀ c ∈ cols, ∀ n ∈ c, n.natAbs ≤ 102) (gb : ∀ n ∈ goal, n.natAbs ≤ 102) (i j : Nat) : (AI cols goal i j).natAbs ≤ 102 := by
  have gD : (goal.getD i 0).natAbs ≤ 102 := by
    by_cases c : i < goal.length
    · rw [getD_at c]; exact gb _ (List.getElem_mem c)
    · have : goal.getD i 0 = 0 := by simp [List.getD, c]
      rw [this]; decide
  have s1 : ∀ n : Int, n.natAbs ≤ 102 → (sgn (goal.getD i 0) * n).natAbs ≤ 102 := fun n hn => by
    unfold sgn; split <;> omega
  unfold AI
  split
  · refine s1 _ ?_
    rename_i c
    rw [getD_at c]
    by_cases c2 : i < (cols[j]).length
    · rw [getD_at c2]; exact cb _ (List.getElem_mem c) _ (List.getElem_mem c2)
    · have : (cols[j]).getD i 0 = 0 := by simp [List.getD, c2]
      rw [this]; decide
  · split
    · split <;> decide
    · exact s1 _ gD
theorem sm_AQ {cols : List (List Int)} {goal : List Int} (cb : ∀ c ∈ cols, ∀ n ∈ c, n.natAbs ≤ 102) (gb : ∀ n ∈ goal, n.natAbs ≤ 102) (j : Nat) : ∀ i, ∃ n : Int, -(sm i fun u => AQ cols goal u j) = (n : Rat) ∧ n.natAbs ≤ 102 * i := by
  intro i
  induction i with
  | zero => exact ⟨0, by simp [sm], by decide⟩
  | succ i ih =>
    obtain ⟨n, e, b⟩ := ih
    have := AI_bd cb gb i j
    refine ⟨n - AI cols goal i j, ?_, by omega⟩
    show -(sm i (fun u => AQ cols goal u j) + AQ cols goal i j) = _
    rw [Rat.intCast_sub, ← e]
    unfold AQ
    grind
section
variable {lf : Nat} (hl : 300000 ≤ lf)
theorem AI_row {cols : List (List Int)} {goal : List Int} {i j : Nat} (hj : j < (rowA cols goal i).length) : (rowA cols goal i)[j] = AQ cols goal i j := by simp [rowA, AQ]
include hl in
theorem r_first_cost (k : Nat) {h : Hp} {t R : Nat} {rs : List Nat} {cols : List (List Int)} {goal : List Int} {fs : List (Nat × D)} {j : Nat} (cb : ∀ c ∈ cols, ∀ n ∈ c, n.natAbs ≤ 102) (gb : ∀ n ∈ goal, n.natAbs ≤ 102) (gl : goal.length ≤ 5)
    (ht : h.get t = some (.ins 0 fs)) (f1 : lookN fs 1 = some (.int (cols.length : Int))) (f2 : lookN fs 2 = some (.int (goal.length : Int))) (f7 : lookN fs 7 = some (.ref R)) (eR : h.get R = some (.lst (refs rs))) (rl : rs.length = goal.length) (row : ∀ i (h1 : i < rs.length), h.get rs[i] = some (.lst (frs (rowA cols goal i)))) (hj : j ≤ cols.length + goal.length) :
    Sat (run gg lf (k + 4) 11 [.ref t, .int (j : Int)] h) fun d h' => Gr h h' ∧ d = fr (c0 cols.length goal.length (AQ cols goal) j) := by
  refine run_of (i := ⟨2, 4, b11⟩) rfl rfl ?_
  show SX (ex gg _ _ lf b11 [some (.ref t), some (.int (j : Int)), none, none] h) _ _
  unfold b11
  array_get_dec
  refine ⟨_, _, _, _, rfl, ht, f1, ?_⟩
  array_get_dec
  have last : ¬ (cols.length ≤ j ∧ j < cols.length + goal.length) → SX (ex gg (run gg lf (k + 3)) (runAt gg lf (k + 3)) lf (.seq (.set 2 (.cst (.tup [.int 0, .int 1]))) (.seq (.fr (.nm 3) (.iseq (.fld (.slot 0) 7)) (.seq (.set 2 (.call 5 (.cons (.slot 2) (.cons (.idx (.slot 3) (.slot 1)) .nil)))) .nil)) (.seq (.ret (.slot 2)) .nil))) [some (.ref t), some (.int (j : Int)), none, none] h) (fun _ h' => Gr h h' ∧ D.non = fr (c0 cols.length goal.length (AQ cols goal) j)) (fun d h' => Gr h h' ∧ d = fr (c0 cols.length goal.length (AQ cols goal) j)) := fun nc => by
    array_get_dec
    refine sx_frI ?_
    array_get_dec
    refine ⟨_, _, _, _, rfl, ht, f7, ?_⟩
    refine ⟨⟨_, a1_at (seq_of eR)⟩, ?_⟩
    refine s_fr (xs := refs rs) (fun i σ h' => h' = h ∧ ∃ o, σ = [some (.ref t), some (.int (j : Int)), some (fr (-(sm i fun u => AQ cols goal u j))), o]) hl (by simp [refs]; omega) ?_ ?_ ⟨rfl, _, rfl⟩
    · rintro i hi σ h2 ⟨rfl, o, rfl⟩
      have ir : i < rs.length := by simpa [refs] using hi
      have e1 : (refs rs)[i] = .ref rs[i] := by simp [refs]
      refine ⟨(has_lst eR).1 i hi, _, rfl, ?_⟩
      rw [e1]
      have rlen : (rowA cols goal i).length = cols.length + goal.length + 1 := by simp [rowA]
      obtain ⟨n, en, nb⟩ := sm_AQ cb gb j i
      array_get_dec
      refine ⟨_, idx_lst (i := j) (row i ir) (by simp [rlen]; omega), ?_⟩
      have e2 : (frs (rowA cols goal i))[j]'(by simp [rlen]; omega) = fr (AQ cols goal i j) := by rw [List.getElem_map, AI_row]
      rw [e2, en]
      array_get_dec
      refine s_of (r_diff hl k _ _ h2 (Sz.int (a := 4000) (Nat.lt_of_le_of_lt nb (Nat.lt_of_lt_of_le (show 102 * i < 2 ^ 20 by omega) (Nat.pow_le_pow_right (by omega) (by omega)))) (by omega)) (Sz.int (a := 4000) (Nat.lt_of_le_of_lt (AI_bd cb gb i j) (Nat.lt_of_lt_of_le (show 102 < 2 ^ 20 by omega) (Nat.pow_le_pow_right (by omega) (by omega)))) (by omega))) ?_
      array_get_dec
      refine ⟨rfl, some (.ref rs[i]), ?_⟩
      have e3 : -(sm (i + 1) fun u => AQ cols goal u j) = (n : Rat) - AQ cols goal i j := by
        rw [← en]
        show -(sm i (fun u => AQ cols goal u j) + AQ cols goal i j) = _
        grind
      rw [e3]
      rfl
    · rintro σ h2 ⟨rfl, o, rfl⟩
      refine ⟨(has_lst eR).2, ?_⟩
      have lr : (refs rs).length = goal.length := by simp [refs]; exact rl
      rw [lr]
      array_get_dec
      refine ⟨Gr.refl _, ?_⟩
      unfold c0
      rw [if_neg nc]
  refine ⟨fun c => ?_, fun c => ?_⟩
  · array_get_dec
    refine ⟨fun z => absurd z (by decide), fun _ => ?_⟩
    refine sx_nil ?_
    have : ¬ cols.length ≤ j := by simpa using c
    exact last (by omega)
  · array_get_dec
    have cj : cols.length ≤ j := by simpa using c
    refine ⟨_, _, _, _, rfl, ht, f1, ?_⟩
    array_get_dec
    refine ⟨_, _, _, _, rfl, ht, f2, ?_⟩
    array_get_dec
    refine ⟨fun c => ?_, fun c => ?_⟩
    · array_get_dec
      refine ⟨Gr.refl _, ?_⟩
      unfold c0
      rw [if_pos ⟨cj, by simp at c; omega⟩]
      rfl
    · refine sx_nil ?_
      exact last (by simp at c; omega)
end
end W57

set_option linter.all false
set_option maxRecDepth 100000
/-! WQ: a tableau made. -/
namespace W57
open VI M57 L57
local macro_rules
  | `(tactic| array_get_dec) => `(tactic| repeat first
  | with_reducible refine sx_seq ?_ | with_reducible refine sx_set ?_ | with_reducible refine sx_ret ?_ | with_reducible refine sx_exp ?_ | with_reducible refine sx_nil ?_ | with_reducible refine sx_ifs ?_ | with_reducible refine sx_setI ?_ | with_reducible refine sx_setF ?_ | with_reducible refine sx_setT ?_
  | ((with_reducible apply s_slot); · rfl) | with_reducible refine s_cst ?_ | with_reducible refine s_nop ?_ | with_reducible refine s_nil ?_ | with_reducible refine s_cons ?_ | with_reducible refine s_idx ?_ | with_reducible refine s_cmp ?_ | with_reducible refine s_chain ?_ | with_reducible refine s_bin ?_ | with_reducible refine s_fld ?_ | with_reducible refine s_call ?_ | with_reducible refine s_blt ?_ | with_reducible refine s_meth ?_ | with_reducible refine s_tup ?_ | with_reducible refine s_lst ?_ | with_reducible refine s_star ?_ | with_reducible refine s_neg ?_ | with_reducible refine s_not ?_ | with_reducible refine s_and ?_ | with_reducible refine s_or ?_ | with_reducible refine s_ite ?_ | with_reducible refine s_isi ?_ | with_reducible refine s_app ?_ | with_reducible refine s_ext ?_ | with_reducible refine s_iseq ?_ | with_reducible refine s_ienum ?_ | with_reducible refine s_izip ?_ | with_reducible refine s_irng ?_ | with_reducible refine s_lrg ?_ | with_reducible refine s_slc ?_ | with_reducible refine s_rev ?_ | with_reducible refine s_add ?_ | with_reducible refine s_sub ?_
  | refine ⟨_, rfl, ?_⟩ | refine ⟨(Nat.le_of_ble_eq_true rfl : List.length _ ≤ 100000), ?_⟩)

theorem AQ_ini {cols : List (List Int)} {goal : List Int} : Ini cols.length goal.length (AQ cols goal) := by
  refine ⟨fun i k hi hk => ?_, fun i hi => ?_⟩
  · unfold AQ AI
    rw [if_neg (by omega), if_pos (by omega)]
    unfold dl
    by_cases e : i = k
    · subst e; simp
    · rw [if_neg (by omega), if_neg e]; rfl
  · unfold AQ AI
    rw [if_neg (by omega), if_neg (by omega)]
    exact_mod_cast sgn_mul _
theorem AQ_wh {cols : List (List Int)} {goal : List Int} (cb : ∀ c ∈ cols, ∀ n ∈ c, n.natAbs ≤ 102) (gb : ∀ n ∈ goal, n.natAbs ≤ 102) : Wh cols.length goal.length (AQ cols goal) 102 := fun i j _ _ =>
  ⟨AI cols goal i j, rfl, by have := AI_bd cb gb i j; omega, by have := AI_bd cb gb i j; omega⟩
theorem refs_of {ys : List D} {P : Nat → Nat → Prop} (h : ∀ i (hi : i < ys.length), ∃ n, ys[i] = .ref n ∧ P i n) : ∃ rs : List Nat, ys = refs rs ∧ rs.length = ys.length ∧ ∀ i (hi : i < rs.length), P i rs[i] := by
  induction ys generalizing P with
  | nil => exact ⟨[], rfl, rfl, fun i hi => absurd hi (by simp)⟩
  | cons y ys ih =>
    obtain ⟨n, e, p⟩ := h 0 (by simp)
    obtain ⟨rs, e2, l2, p2⟩ := ih (P := fun i n => P (i + 1) n) fun i hi => h (i + 1) (by simp; omega)
    refine ⟨n :: rs, ?_, by simp [l2], fun i hi => ?_⟩
    · have : y = .ref n := e
      rw [this, e2]; rfl
    · cases i with
      | zero => exact p
      | succ i => exact p2 i (by simpa using hi)
section
variable {lf : Nat} (hl : 300000 ≤ lf)
include hl in
theorem r_init (k : Nat) {hb : Hp} {ca ga : Nat} {cr : List Nat} {cols : List (List Int)} {goal : List Int} (x : Cols hb ca cr cols goal.length) (hg : hb.get ga = some (.lst (intsL goal))) (gb : ∀ n ∈ goal, n.natAbs ≤ 102) (gl : goal.length ≤ 5) :
    Sat (run gg lf (k + 7) 9 [.ref hb.next, .ref ca, .ref ga] (hb.push (.ins 0 []))) fun d h' => d = .non ∧ ∃ a rows bs cs s, TabAt h' cols.length goal.length a (goal.map sgn) rows bs cs ∧ Rp cols.length goal.length rows bs cs s ∧ Inv cols.length goal.length (AQ cols goal) s ∧ (∀ j, j < cols.length → 0 ≤ s.c j) ∧ a.t = hb.next ∧ Gr hb h' := by
  refine run_of (i := ⟨3, 6, b9⟩) rfl rfl ?_
  generalize ht : hb.next = t
  have g1 : Gr hb (hb.push (.ins 0 [])) := Gr.push _ _
  have t1 : (hb.push (.ins 0 [])).get t = some (.ins 0 []) := by rw [← ht]; exact get_top _ _
  have tle : hb.next ≤ t := by omega
  show SX (ex gg _ _ lf b9 [some (.ref t), some (.ref ca), some (.ref ga), none, none, none] (hb.push (.ins 0 []))) _ _
  generalize hb.push (.ins 0 []) = h1 at *
  unfold b9
  have few := x.few
  have lnC := x.len
  have gr : ∀ {h' : Hp} {o o' : O}, Gr hb h' → h'.get t = some o' → Gr hb (h'.set t o) := fun g e => g.set tle (Hp.lt_of_get e) _
  array_get_dec
  refine s_len (show items? (.ref ca) h1 = some (refs cr) from seq_of (g1.get x.C)) ?_
  array_get_dec
  refine ⟨_, _, _, _, rfl, t1, rfl, rfl, by simp, ?_⟩
  have lr : (refs cr).length = cols.length := by simp [refs]; omega
  rw [lr]
  have g2 := gr (o := .ins 0 (putN 1 (.int (cols.length : Nat)) [])) g1 t1
  have t2 := get_put t1 (.ins 0 (putN 1 (.int (cols.length : Nat)) []))
  generalize h1.set t (.ins 0 (putN 1 (.int (cols.length : Nat)) [])) = h2 at *
  array_get_dec
  refine s_len (show items? (.ref ga) h2 = some (intsL goal) from seq_of (g2.get hg)) ?_
  array_get_dec
  refine ⟨_, _, _, _, rfl, t2, rfl, rfl, by simp [putN], ?_⟩
  have lg : (intsL goal).length = goal.length := by simp [intsL]
  rw [lg]
  have g3 := gr (o := .ins 0 (putN 2 (.int (goal.length : Nat)) (putN 1 (.int (cols.length : Nat)) []))) g2 t2
  have t3 := get_put t2 (.ins 0 (putN 2 (.int (goal.length : Nat)) (putN 1 (.int (cols.length : Nat)) [])))
  generalize h2.set t (.ins 0 (putN 2 (.int (goal.length : Nat)) (putN 1 (.int (cols.length : Nat)) []))) = h3 at *
  array_get_dec
  refine s_compI ?_
  array_get_dec
  refine ⟨⟨_, a1_at (seq_of (g3.get hg))⟩, ?_⟩
  refine s_compP (fun i => .int (sgn (goal.getD i 0))) hl (xs := intsL goal) (by omega) (fun h' g => has_lst (g.get (g3.get hg))) (fun i hi => ?_) fun h4 g4 s4 => ?_
  · have ig : i < goal.length := by omega
    have e : (intsL goal)[i] = .int goal[i] := by simp [intsL]
    refine ⟨_, rfl, fun h' g => ?_⟩
    rw [e]
    array_get_dec
    rw [getD_at ig]
    refine ⟨fun c => ?_, fun c => ?_⟩
    · array_get_dec
      refine ⟨Gr.refl _, ?_⟩
      unfold sgn
      rw [if_pos (by simpa using c)]
    · array_get_dec
      refine ⟨Gr.refl _, ?_⟩
      unfold sgn
      rw [if_neg (by simpa using c)]
  have es : (List.range (intsL goal).length).map (fun i => D.int (sgn (goal.getD i 0))) = intsL (goal.map sgn) := by
    refine List.ext_getElem (by simp [intsL]) fun i h1 h2 => ?_
    have : i < goal.length := by simpa [intsL] using h2
    simp [intsL, this]
  rw [es] at s4
  have t4 := g4.get t3
  have tS : t < h3.next := Hp.lt_of_get t3
  generalize h3.next = S at *
  array_get_dec
  refine ⟨_, _, _, _, rfl, t4, rfl, rfl, by simp [putN], ?_⟩
  have g5 := gr (o := .ins 0 (putN 8 (.ref S) (putN 2 (.int (goal.length : Nat)) (putN 1 (.int (cols.length : Nat)) [])))) (g3.trans g4) t4
  have t5 := get_put t4 (.ins 0 (putN 8 (.ref S) (putN 2 (.int (goal.length : Nat)) (putN 1 (.int (cols.length : Nat)) []))))
  have x5 : Gx [t] h4 (h4.set t (.ins 0 (putN 8 (.ref S) (putN 2 (.int (goal.length : Nat)) (putN 1 (.int (cols.length : Nat)) []))))) := (Gx.refl _ _).set (by simp) (Hp.lt_of_get t4) _
  have s5 := x5.get s4 (by omega)
  clear x5
  generalize h4.set t (.ins 0 (putN 8 (.ref S) (putN 2 (.int (goal.length : Nat)) (putN 1 (.int (cols.length : Nat)) [])))) = h5 at *
  -- rows
  array_get_dec
  refine s_compI ?_
  array_get_dec
  refine ⟨_, _, _, _, rfl, t5, rfl, ?_⟩
  array_get_dec
  refine ⟨_, _, rfl, rng_lt _ (by omega), ?_⟩
  refine s_comp (fun i y h' => ∃ n, y = .ref n ∧ h5.next < n ∧ h'.get n = some (.lst (frs (rowA cols goal i)))) hl (xs := rngL 0 goal.length) (by rw [rngL_len]; omega) (fun h' g => has_rng) (fun i y h1 h2 g ⟨n, e1, e2, e3⟩ => ⟨n, e1, e2, g.get e3⟩) (fun i y h1 o l ⟨n, e1, e2, e3⟩ => ⟨n, e1, e2, by rw [Hp.get_set _ _ _ _ l, if_neg (by omega)]; exact e3⟩) (fun i hi => ?_) fun ys h6 g6 r6 ly q6 => ?_
  · have ig : i < goal.length := by rw [rngL_len] at hi; exact hi
    refine ⟨_, rfl, fun h' g lt => ?_⟩
    rw [rngL_get, Int.zero_add]
    array_get_dec
    refine ⟨_, _, _, _, _, rfl, g.get t5, rfl, rfl, ?_⟩
    array_get_dec
    refine (r_first_row hl (k + 5) (x.mono (g5.trans g)) ((g5.trans g).get hg) gb gl (g.get t5) rfl (g.get s5) ig).imp fun d h2 q => ?_
    obtain ⟨n, e1, e2, e3, e4⟩ := q
    exact ⟨e3, n, e1, by omega, e4⟩
  obtain ⟨rs, ey, rl, rw6⟩ := refs_of q6
  subst ey
  rw [rngL_len] at ly
  have t6 := g6.get t5
  have s6 := g6.get s5
  have tR : S < h5.next := Hp.lt_of_get s5
  generalize h5.next = R at *
  array_get_dec
  refine ⟨_, _, _, _, rfl, t6, rfl, rfl, by simp [putN], ?_⟩
  have g7 := gr (o := .ins 0 (putN 7 (.ref R) (putN 8 (.ref S) (putN 2 (.int (goal.length : Nat)) (putN 1 (.int (cols.length : Nat)) []))))) (g5.trans g6) t6
  have t7 := get_put t6 (.ins 0 (putN 7 (.ref R) (putN 8 (.ref S) (putN 2 (.int (goal.length : Nat)) (putN 1 (.int (cols.length : Nat)) [])))))
  have x7 : Gx [t] h6 (h6.set t (.ins 0 (putN 7 (.ref R) (putN 8 (.ref S) (putN 2 (.int (goal.length : Nat)) (putN 1 (.int (cols.length : Nat)) [])))))) := (Gx.refl _ _).set (by simp) (Hp.lt_of_get t6) _
  have s7 := x7.get s6 (by omega)
  have r7 := x7.get r6 (by omega)
  have w7 : ∀ i (hi : i < rs.length), R < rs[i] ∧ (h6.set t (.ins 0 (putN 7 (.ref R) (putN 8 (.ref S) (putN 2 (.int (goal.length : Nat)) (putN 1 (.int (cols.length : Nat)) [])))))).get rs[i] = some (.lst (frs (rowA cols goal i))) := fun i hi => by
    obtain ⟨e1, e2⟩ := rw6 i hi
    exact ⟨e1, x7.get e2 (by omega)⟩
  clear x7
  generalize h6.set t (.ins 0 (putN 7 (.ref R) (putN 8 (.ref S) (putN 2 (.int (goal.length : Nat)) (putN 1 (.int (cols.length : Nat)) []))))) = h7 at *
  -- basis
  array_get_dec
  refine s_compI ?_
  array_get_dec
  refine ⟨_, _, _, _, rfl, t7, rfl, ?_⟩
  array_get_dec
  refine ⟨_, _, rfl, rng_lt _ (by omega), ?_⟩
  refine s_compP (fun i => .int ((cols.length + i : Nat) : Int)) hl (xs := rngL 0 goal.length) (by rw [rngL_len]; omega) (fun h' g => has_rng) (fun i hi => ?_) fun h8 g8 b8 => ?_
  · refine ⟨_, rfl, fun h' g => ?_⟩
    rw [rngL_get, Int.zero_add]
    array_get_dec
    refine ⟨_, _, _, _, rfl, g.get t7, rfl, ?_⟩
    array_get_dec
    exact ⟨Gr.refl _, rfl⟩
  have eb : (List.range (rngL 0 goal.length).length).map (fun i => D.int ((cols.length + i : Nat) : Int)) = nats ((List.range goal.length).map fun i => cols.length + i) := by
    rw [rngL_len]; simp [nats]
  rw [eb] at b8
  have t8 := g8.get t7
  have s8 := g8.get s7
  have r8 := g8.get r7
  have w8 := fun i hi => g8.get (w7 i hi).2
  have lB : ∀ i (hi : i < rs.length), rs[i] < h7.next := fun i hi => Hp.lt_of_get (w7 i hi).2
  have tB : R < h7.next := Hp.lt_of_get r7
  generalize h7.next = B at *
  array_get_dec
  refine ⟨_, _, _, _, rfl, t8, rfl, rfl, by simp [putN], ?_⟩
  have g9 := gr (o := .ins 0 (putN 5 (.ref B) (putN 7 (.ref R) (putN 8 (.ref S) (putN 2 (.int (goal.length : Nat)) (putN 1 (.int (cols.length : Nat)) [])))))) (g7.trans g8) t8
  have t9 := get_put t8 (.ins 0 (putN 5 (.ref B) (putN 7 (.ref R) (putN 8 (.ref S) (putN 2 (.int (goal.length : Nat)) (putN 1 (.int (cols.length : Nat)) []))))))
  have x9 : Gx [t] h8 (h8.set t (.ins 0 (putN 5 (.ref B) (putN 7 (.ref R) (putN 8 (.ref S) (putN 2 (.int (goal.length : Nat)) (putN 1 (.int (cols.length : Nat)) []))))))) := (Gx.refl _ _).set (by simp) (Hp.lt_of_get t8) _
  have s9 := x9.get s8 (by omega)
  have r9 := x9.get r8 (by omega)
  have b9 := x9.get b8 (by omega)
  have w9 := fun i hi => x9.get (w8 i hi) (by have := (w7 i hi).1; omega)
  clear x9
  generalize h8.set t (.ins 0 (putN 5 (.ref B) (putN 7 (.ref R) (putN 8 (.ref S) (putN 2 (.int (goal.length : Nat)) (putN 1 (.int (cols.length : Nat)) [])))))) = h9 at *
  -- cost
  array_get_dec
  refine s_compI ?_
  array_get_dec
  refine ⟨_, _, _, _, rfl, t9, rfl, ?_⟩
  array_get_dec
  refine ⟨_, _, _, _, rfl, t9, rfl, ?_⟩
  array_get_dec
  refine ⟨_, _, rfl, rng_lt (cols.length + goal.length + 1) (by omega), ?_⟩
  refine s_compP (fun j => fr (c0 cols.length goal.length (AQ cols goal) j)) hl (xs := rngL 0 (cols.length + goal.length + 1)) (by rw [rngL_len]; omega) (fun h' g => has_rng) (fun i hi => ?_) fun h10 g10 c10 => ?_
  · rw [rngL_len] at hi
    refine ⟨_, rfl, fun h' g => ?_⟩
    rw [rngL_get, Int.zero_add]
    array_get_dec
    refine ⟨_, _, _, _, _, rfl, g.get t9, rfl, rfl, ?_⟩
    array_get_dec
    exact r_first_cost hl (k + 2) x.bd gb gl (g.get t9) rfl rfl rfl (g.get r9) (by omega) (fun i hi => g.get (w9 i hi)) (by omega)
  have ec : (List.range (rngL 0 (cols.length + goal.length + 1)).length).map (fun j => fr (c0 cols.length goal.length (AQ cols goal) j)) = frs ((List.range (cols.length + goal.length + 1)).map (c0 cols.length goal.length (AQ cols goal))) := by
    rw [rngL_len]; simp [frs]
  rw [ec] at c10
  have t10 := g10.get t9
  have s10 := g10.get s9
  have r10 := g10.get r9
  have b10 := g10.get b9
  have w10 := fun i hi => g10.get (w9 i hi)
  have tC : B < h9.next := Hp.lt_of_get b9
  generalize h9.next = C at *
  array_get_dec
  refine ⟨_, _, _, _, rfl, t10, rfl, rfl, by simp [putN], ?_⟩
  have g11 := gr (o := tObj cols.length goal.length ⟨t, S, R, B, C, rs⟩) (g9.trans g10) t10
  have t11 := get_put t10 (tObj cols.length goal.length ⟨t, S, R, B, C, rs⟩)
  have x11 : Gx [t] h10 (h10.set t (tObj cols.length goal.length ⟨t, S, R, B, C, rs⟩)) := (Gx.refl _ _).set (by simp) (Hp.lt_of_get t10) _
  have s11 := x11.get s10 (by omega)
  have r11 := x11.get r10 (by omega)
  have b11 := x11.get b10 (by omega)
  have c11 := x11.get c10 (by omega)
  have w11 := fun i hi => x11.get (w10 i hi) (by have := (w7 i hi).1; omega)
  clear x11
  have eo : h10.set t (.ins 0 (putN 4 (.ref C) (putN 5 (.ref B) (putN 7 (.ref R) (putN 8 (.ref S) (putN 2 (.int (goal.length : Nat)) (putN 1 (.int (cols.length : Nat)) []))))))) = h10.set t (tObj cols.length goal.length ⟨t, S, R, B, C, rs⟩) := rfl
  rw [eo]
  generalize h10.set t (tObj cols.length goal.length ⟨t, S, R, B, C, rs⟩) = h11 at *
  have tab : TabAt h11 cols.length goal.length ⟨t, S, R, B, C, rs⟩ (goal.map sgn) ((List.range goal.length).map (rowA cols goal)) ((List.range goal.length).map fun i => cols.length + i) ((List.range (cols.length + goal.length + 1)).map (c0 cols.length goal.length (AQ cols goal))) := {
    t := t11, S := s11, R := r11, B := b11, C := c11
    rl := by simp; omega
    row := fun i h1 h2 => by rw [List.getElem_map, List.getElem_range]; exact w11 i h1
    neR := ⟨by show R ≠ t; omega, by show R ≠ S; omega, by show R ≠ B; omega, by show R ≠ C; omega, fun y hy => by
      obtain ⟨i, hi, rfl⟩ := List.getElem_of_mem hy
      have := (w7 i hi).1
      show R ≠ rs[i]; omega⟩
    neB := ⟨by show B ≠ t; omega, by show B ≠ S; omega, by show B ≠ C; omega, fun y hy => by
      obtain ⟨i, hi, rfl⟩ := List.getElem_of_mem hy
      have := lB i hi
      show B ≠ rs[i]; omega⟩
    sl := by simp
    rr := by simp
    bl := by simp
    cl := by simp
    wl := fun y hy => by
      obtain ⟨i, _, rfl⟩ := List.mem_map.mp hy
      simp [rowA] }
  have rp : Rp cols.length goal.length ((List.range goal.length).map (rowA cols goal)) ((List.range goal.length).map fun i => cols.length + i) ((List.range (cols.length + goal.length + 1)).map (c0 cols.length goal.length (AQ cols goal))) (M57.ini cols.length goal.length (AQ cols goal)) := by
    refine ⟨fun i j hi hj => ?_, fun i hi => ?_, fun j hj => ?_⟩
    · rw [getD_at (l := (List.range goal.length).map (rowA cols goal)) (i := i) (by simp; exact hi), List.getElem_map, List.getElem_range, getD_at (by simp [rowA]; omega), AI_row]
      rfl
    · rw [getD_at (by simp; exact hi)]; simp; rfl
    · rw [getD_at (by simp; omega)]; simp; rfl
  array_get_dec
  refine ⟨_, _, _, _, _, rfl, t11, rfl, rfl, ?_⟩
  array_get_dec
  refine (r_solve hl k tab AQ_ini rp gl few (AQ_wh x.bd gb)).imp ?_
  rintro d h' ⟨rfl, a', rows', bs', cs', s, y, rp', iv, nn, yt, yS, gx⟩
  array_get_dec
  refine ⟨rfl, a', rows', bs', cs', s, y, rp', iv, nn, yt, Nat.le_trans g11.le gx.le, fun n hn => ?_⟩
  rw [gx.eq n (Nat.lt_of_lt_of_le hn g11.le) (by simp; omega)]
  exact g11.eq n hn
end
end W57

set_option linter.all false
set_option maxRecDepth 100000
/-! WR: parts_for. -/
namespace W57
open VI M57 L57
local macro_rules
  | `(tactic| array_get_dec) => `(tactic| repeat first
  | with_reducible refine sx_seq ?_ | with_reducible refine sx_set ?_ | with_reducible refine sx_ret ?_ | with_reducible refine sx_exp ?_ | with_reducible refine sx_nil ?_ | with_reducible refine sx_ifs ?_ | with_reducible refine sx_setI ?_ | with_reducible refine sx_setF ?_ | with_reducible refine sx_setT ?_
  | ((with_reducible apply s_slot); · rfl) | with_reducible refine s_cst ?_ | with_reducible refine s_nop ?_ | with_reducible refine s_nil ?_ | with_reducible refine s_cons ?_ | with_reducible refine s_idx ?_ | with_reducible refine s_cmp ?_ | with_reducible refine s_chain ?_ | with_reducible refine s_bin ?_ | with_reducible refine s_fld ?_ | with_reducible refine s_call ?_ | with_reducible refine s_blt ?_ | with_reducible refine s_meth ?_ | with_reducible refine s_tup ?_ | with_reducible refine s_lst ?_ | with_reducible refine s_star ?_ | with_reducible refine s_neg ?_ | with_reducible refine s_not ?_ | with_reducible refine s_and ?_ | with_reducible refine s_or ?_ | with_reducible refine s_ite ?_ | with_reducible refine s_isi ?_ | with_reducible refine s_app ?_ | with_reducible refine s_ext ?_ | with_reducible refine s_iseq ?_ | with_reducible refine s_ienum ?_ | with_reducible refine s_izip ?_ | with_reducible refine s_irng ?_ | with_reducible refine s_lrg ?_ | with_reducible refine s_slc ?_ | with_reducible refine s_rev ?_ | with_reducible refine s_add ?_ | with_reducible refine s_sub ?_
  | refine ⟨_, rfl, ?_⟩ | refine ⟨(Nat.le_of_ble_eq_true rfl : List.length _ ≤ 100000), ?_⟩)

/-- all over one number -/
def Cd (l : List Rat) : Prop := ∃ d : Int, d ≠ 0 ∧ d.natAbs ≤ 2 ^ 600 ∧ ∀ q ∈ l, Ov d (2 ^ 600) q
theorem bd_lt2 : ∀ r, r ≤ 5 → 8192 * 102 * 102 * 102 * bd r 102 < 2 ^ 590 := by decide +kernel
theorem Inv.over {m r : Nat} {A : Nat → Nat → Rat} {s : St} (g : Ini m r A) (h : Inv m r A s) (hr : r ≤ 5) (w : Wh m r A 102) : ∃ d : Int, d ≠ 0 ∧ d.natAbs < 2 ^ 590 ∧
    (∀ i j, i < r → j ≤ m + r → Ov d (2 ^ 590) (s.T i j)) ∧ ∀ j, j ≤ m + r → Ov d (2 ^ 590) (s.c j) := by
  obtain ⟨d, d0, d1, d2, h1, h2⟩ := h.sizes g (by omega) (a := 102) (by omega) w
  have b := bd_lt2 r hr
  have bp := bd_pos r (A := 102) (by omega)
  have e : ((2 ^ 590 : Nat) : Int) = 2 ^ 590 := by rw [Int.natCast_pow]; rfl
  generalize bd r 102 = B at *
  refine ⟨d, d0, ?_, fun i j hi hj => (h1 i j hi hj).le (by omega), fun j hj => (h2 j hj).le (by omega)⟩
  have : (d.natAbs : Int) < ((2 ^ 590 : Nat) : Int) := by rw [e]; omega
  exact Int.ofNat_lt.mp this
theorem Ov.zero {d b : Int} (hb : 0 ≤ b) : Ov d b 0 := ⟨0, by simp, by omega, by omega⟩
theorem p590 : (10 : Int) * 2 ^ 590 ≤ 2 ^ 600 := by decide +kernel
theorem p0 : (0 : Int) ≤ 2 ^ 590 := by decide +kernel
/-- what the two ends tell -/
structure IsParts (cols : List (List Int)) (goal : List Int) (l : List Rat) : Prop where
  len : l.length = cols.length
  nn : ∀ j, j < cols.length → 0 ≤ l.getD j 0
  eq : ∀ k, k < goal.length → ((goal.getD k 0 : Int) : Rat) = sm cols.length fun j => (((cols.getD j []).getD k 0 : Int) : Rat) * l.getD j 0
structure IsPrices (cols : List (List Int)) (goal : List Int) (l : List Rat) : Prop where
  len : l.length = goal.length
  le : ∀ j, j < cols.length → (sm goal.length fun k => l.getD k 0 * (((cols.getD j []).getD k 0 : Int) : Rat)) ≤ 0
  pos : 0 < sm goal.length fun k => l.getD k 0 * ((goal.getD k 0 : Int) : Rat)
theorem sgn_sq (n : Int) : ((sgn n : Int) : Rat) * ((sgn n : Int) : Rat) = 1 := by unfold sgn; split <;> simp <;> grind
theorem AQ_col {cols : List (List Int)} {goal : List Int} {i j : Nat} (h : j < cols.length) : AQ cols goal i j = ((sgn (goal.getD i 0) : Int) : Rat) * (((cols.getD j []).getD i 0 : Int) : Rat) := by
  unfold AQ AI; rw [if_pos h, Rat.intCast_mul]
theorem AQ_goal {cols : List (List Int)} {goal : List Int} {i : Nat} : AQ cols goal i (cols.length + goal.length) = ((sgn (goal.getD i 0) : Int) : Rat) * ((goal.getD i 0 : Int) : Rat) := by
  unfold AQ AI; rw [if_neg (by omega), if_neg (by omega), Rat.intCast_mul]
theorem bas_inj {m r : Nat} {A : Nat → Nat → Rat} {s : St} (h : Inv m r A s) {i k : Nat} (hi : i < r) (hk : k < r) (e : s.b i = s.b k) : i = k := by
  have h1 := h.U i k hi hk
  have h2 := h.U i i hi hi
  rw [← e, h2] at h1
  unfold dl at h1
  rw [if_pos rfl] at h1
  by_cases c : i = k
  · exact c
  · rw [if_neg c] at h1; exact absurd h1 (by decide)
theorem parts_law {cols : List (List Int)} {goal : List Int} {s : St} {bs : List Nat} {v : Nat → Rat} (h : Inv cols.length goal.length (AQ cols goal) s) (eb : ∀ i, i < goal.length → bs.getD i 0 = s.b i) (ev : ∀ i, i < goal.length → v i = s.T i (cols.length + goal.length)) (z : s.c (cols.length + goal.length) = 0) : IsParts cols goal (partL cols.length bs v goal.length) := by
  have gD : ∀ j, j < cols.length → (partL cols.length bs v goal.length).getD j 0 = sm goal.length fun i => if s.b i = j then s.T i (cols.length + goal.length) else 0 := fun j hj => by
    rw [getD_at (by simp [partL]; exact hj)]
    simp only [partL, List.getElem_map, List.getElem_range]
    exact sm_congr fun i hi => by rw [eb i hi, ev i hi]
  refine ⟨by simp [partL], fun j hj => ?_, fun k hk => ?_⟩
  · rw [gD j hj]
    refine sm_nonneg fun i hi => ?_
    have := h.N i hi
    split
    · exact this
    · exact Rat.le_refl
  · have e1 := h.part AQ_ini z hk
    have e2 : (sm cols.length fun j => AQ cols goal k j * (partL cols.length bs v goal.length).getD j 0) = AQ cols goal k (cols.length + goal.length) := by
      rw [e1, sm_congr (g := fun j => sm goal.length fun i => AQ cols goal k j * (if s.b i = j then s.T i (cols.length + goal.length) else 0)) fun j hj => by rw [gD j hj, sm_mul], sm_swap]
      refine sm_congr fun i hi => ?_
      by_cases c : s.b i < cols.length
      · rw [if_pos c, ← sm_one c (fun j => AQ cols goal k j * s.T i (cols.length + goal.length))]
        refine sm_congr fun j hj => ?_
        by_cases e : s.b i = j
        · rw [if_pos e, if_pos e.symm]
        · rw [if_neg e, if_neg (Ne.symm e)]; grind
      · rw [if_neg c]
        exact sm_zero' fun j hj => by rw [if_neg (by omega)]; grind
    rw [AQ_goal] at e2
    have e3 : (sm cols.length fun j => AQ cols goal k j * (partL cols.length bs v goal.length).getD j 0) = ((sgn (goal.getD k 0) : Int) : Rat) * sm cols.length fun j => (((cols.getD j []).getD k 0 : Int) : Rat) * (partL cols.length bs v goal.length).getD j 0 := by
      rw [← sm_mul]
      exact sm_congr fun j hj => by rw [AQ_col hj]; grind
    rw [e3] at e2
    have sq := sgn_sq (goal.getD k 0)
    grind
theorem prices_law {cols : List (List Int)} {goal : List Int} {s s' : St} (h : Inv cols.length goal.length (AQ cols goal) s) (nn : ∀ j, j < cols.length → 0 ≤ s.c j) (ec : ∀ j, j ≤ cols.length + goal.length → s'.c j = s.c j) (z : ¬ s.c (cols.length + goal.length) = 0) : IsPrices cols goal (priceL cols.length (goal.map sgn) s' goal.length) := by
  have gD : ∀ k, k < goal.length → (priceL cols.length (goal.map sgn) s' goal.length).getD k 0 = ((sgn (goal.getD k 0) : Int) : Rat) * (1 - s.c (cols.length + k)) := fun k hk => by
    rw [getD_at (by simp [priceL]; exact hk)]
    simp only [priceL, List.getElem_map, List.getElem_range]
    rw [ec _ (by omega), getD_at (l := goal.map sgn) (by simp; exact hk), getD_at hk, List.getElem_map]
  refine ⟨by simp [priceL], fun j hj => ?_, ?_⟩
  · have e := h.price (j := j) (.inl hj)
    have : (sm goal.length fun k => (priceL cols.length (goal.map sgn) s' goal.length).getD k 0 * (((cols.getD j []).getD k 0 : Int) : Rat)) = sm goal.length fun k => (1 - s.c (cols.length + k)) * AQ cols goal k j := sm_congr fun k hk => by
      rw [gD k hk, AQ_col hj]; grind
    rw [this, e]
    have := nn j hj
    grind
  · have e := h.price (j := cols.length + goal.length) (.inr rfl)
    have : (sm goal.length fun k => (priceL cols.length (goal.map sgn) s' goal.length).getD k 0 * ((goal.getD k 0 : Int) : Rat)) = sm goal.length fun k => (1 - s.c (cols.length + k)) * AQ cols goal k (cols.length + goal.length) := sm_congr fun k hk => by
      rw [gD k hk, AQ_goal]; grind
    rw [this, e]
    have := (h.goal AQ_ini).1
    grind
def dParts : D := .str [112, 97, 114, 116, 115]
def dPrices : D := .str [112, 114, 105, 99, 101, 115]
section
variable {lf : Nat} (hl : 300000 ≤ lf)
include hl in
theorem r_parts_for (k : Nat) {h : Hp} {ca ga : Nat} {cr : List Nat} {cols : List (List Int)} {goal : List Int} (x : Cols h ca cr cols goal.length) (hg : h.get ga = some (.lst (intsL goal))) (gb : ∀ n ∈ goal, n.natAbs ≤ 102) (gl : goal.length ≤ 5) :
    Sat (run gg lf (k + 9) 20 [.ref ca, .ref ga] h) fun d h' => Gr h h' ∧ ∃ n l, h'.get n = some (.lst (frs l)) ∧ Cd l ∧ ((d = .tup [dParts, .ref n] ∧ IsParts cols goal l) ∨ (d = .tup [dPrices, .ref n] ∧ IsPrices cols goal l)) := by
  refine run_of (i := ⟨2, 3, b20⟩) rfl rfl ?_
  show SX (ex gg _ _ lf b20 [some (.ref ca), some (.ref ga), none] h) _ _
  unfold b20
  array_get_dec
  refine s_make rfl rfl ?_
  array_get_dec
  rw [runAt_eq]
  refine (r_init hl k x hg gb gl).imp ?_
  rintro d h1 ⟨rfl, a, rows, bs, cs, s, y, rp, iv, nn, at_, g1⟩
  refine ⟨rfl, ?_⟩
  obtain ⟨dd, d0, d1, oT, oc⟩ := Inv.over AQ_ini iv gl (AQ_wh x.bd gb)
  have P := p590
  have P0 := p0
  have few := x.few
  have dlt : dd.natAbs ≤ 2 ^ 600 := Nat.le_trans (Nat.le_of_lt d1) (Nat.pow_le_pow_right (by omega) (by omega))
  have edd : (dd.natAbs : Int) ≤ 2 ^ 590 := by
    have : (dd.natAbs : Int) < ((2 ^ 590 : Nat) : Int) := Int.ofNat_lt.mpr d1
    rw [Int.natCast_pow] at this
    exact Int.le_of_lt this
  rw [← at_]
  array_get_dec
  refine ⟨_, _, _, _, _, rfl, y.t, rfl, rfl, ?_⟩
  array_get_dec
  refine s_of (r_solved (lf := lf) (k + 7) y) ?_
  rw [rp.c _ (Nat.le_refl _)]
  array_get_dec
  refine ⟨fun c => ?_, fun c => ?_⟩
  · array_get_dec
    refine ⟨_, _, _, _, _, rfl, y.t, rfl, rfl, ?_⟩
    array_get_dec
    refine (r_parts hl (k + 7) y few gl (fun u w h1 h2 e => ?_)).imp ?_
    · rw [rp.b u (by omega), rp.b w h2] at e
      have := bas_inj iv (by omega) h2 e
      omega
    rintro d h2 ⟨n, rfl, nle, g2, t2⟩
    array_get_dec
    refine ⟨g1.trans g2, n, _, t2, ⟨dd, d0, dlt, fun q hq => ?_⟩, .inl ⟨rfl, parts_law iv rp.b (fun i hi => rp.T i _ hi (Nat.le_refl _)) (by simpa using c)⟩⟩
    obtain ⟨j, _, rfl⟩ := List.mem_map.mp hq
    refine Ov.le (ov_sm (b := 2 ^ 590) fun i hi => ?_) ?_
    · split
      · show Ov dd _ ((rows.getD i []).getD _ 0)
        rw [rp.T i _ hi (Nat.le_refl _)]
        exact oT i _ hi (Nat.le_refl _)
      · exact Ov.zero P0
    · have : (goal.length : Int) * 2 ^ 590 ≤ 10 * 2 ^ 590 := Int.mul_le_mul_of_nonneg_right (by omega) P0
      omega
  · array_get_dec
    refine ⟨_, _, _, _, _, rfl, y.t, rfl, rfl, ?_⟩
    array_get_dec
    have z := rp.sz y.rr y.wl y.cl (Inv.sz AQ_ini iv gl (AQ_wh x.bd gb))
    refine (r_prices hl (k + 4) y gl (fun n hn => ?_) z.2).imp ?_
    · obtain ⟨n, _, rfl⟩ := List.mem_map.mp hn
      exact sgn_abs n
    rintro d h2 ⟨n, rfl, nle, g2, t2⟩
    array_get_dec
    refine ⟨g1.trans g2, n, _, t2, ⟨dd, d0, dlt, fun q hq => ?_⟩, .inr ⟨rfl, prices_law iv nn (fun j hj => rp.c j hj) (by simpa using c)⟩⟩
    obtain ⟨j, hj, rfl⟩ := List.mem_map.mp hq
    have jr : j < goal.length := List.mem_range.mp hj
    have o1 : Ov dd (2 ^ 590 + 2 ^ 590) (1 - (tabSt rows bs cs).c (cols.length + j)) := by
      have e : (tabSt rows bs cs).c (cols.length + j) = s.c (cols.length + j) := rp.c _ (by omega)
      rw [e, show (1 : Rat) - s.c (cols.length + j) = ((1 : Int) : Rat) + -s.c (cols.length + j) by grind]
      exact Ov.add ((Ov.of_int (d := dd) (c := 1) 1 (by omega) (by omega)).le (by omega)) (oc _ (by omega)).neg
    have sg : ((goal.map sgn).getD j 0).natAbs ≤ 1 := by
      rw [getD_at (by simp; exact jr), List.getElem_map]
      exact sgn_abs _
    refine Ov.le (Ov.mulI (A := 1) o1 (by omega) (by omega) (by omega)) ?_
    omega
end
end W57

set_option linter.all false
set_option maxRecDepth 100000
/-! WS: checks; columns; wholes. -/
namespace W57
open VI M57 L57
local macro_rules
  | `(tactic| array_get_dec) => `(tactic| repeat first
  | with_reducible refine sx_seq ?_ | with_reducible refine sx_set ?_ | with_reducible refine sx_ret ?_ | with_reducible refine sx_exp ?_ | with_reducible refine sx_nil ?_ | with_reducible refine sx_ifs ?_ | with_reducible refine sx_setI ?_ | with_reducible refine sx_setF ?_ | with_reducible refine sx_setT ?_
  | ((with_reducible apply s_slot); · rfl) | with_reducible refine s_cst ?_ | with_reducible refine s_nop ?_ | with_reducible refine s_nil ?_ | with_reducible refine s_cons ?_ | with_reducible refine s_idx ?_ | with_reducible refine s_cmp ?_ | with_reducible refine s_chain ?_ | with_reducible refine s_bin ?_ | with_reducible refine s_fld ?_ | with_reducible refine s_call ?_ | with_reducible refine s_blt ?_ | with_reducible refine s_meth ?_ | with_reducible refine s_tup ?_ | with_reducible refine s_lst ?_ | with_reducible refine s_star ?_ | with_reducible refine s_neg ?_ | with_reducible refine s_not ?_ | with_reducible refine s_and ?_ | with_reducible refine s_or ?_ | with_reducible refine s_ite ?_ | with_reducible refine s_isi ?_ | with_reducible refine s_app ?_ | with_reducible refine s_ext ?_ | with_reducible refine s_iseq ?_ | with_reducible refine s_ienum ?_ | with_reducible refine s_izip ?_ | with_reducible refine s_irng ?_ | with_reducible refine s_lrg ?_ | with_reducible refine s_slc ?_ | with_reducible refine s_rev ?_ | with_reducible refine s_add ?_ | with_reducible refine s_sub ?_
  | refine ⟨_, rfl, ?_⟩ | refine ⟨(Nat.le_of_ble_eq_true rfl : List.length _ ≤ 100000), ?_⟩)

abbrev Row := Int × List Int
def rowD (w : Row) : D := .tup [.int w.1, .tup (intsL w.2)]
def rowsD (ws : List Row) : D := .tup (ws.map rowD)
section
variable {h : Hp} {Q : D → Hp → Prop}
theorem bls_map (p : Nat → Bool) : ∀ l : List Nat, bls? (l.map fun i => D.bl (p i)) = some (l.map p)
  | [] => rfl
  | i :: l => by
    show (match bls? (l.map fun i => D.bl (p i)) with | some l => some (p i :: l) | none => none) = _
    rw [bls_map p l]; rfl
theorem allB_iff : ∀ l : List Bool, allB l = true ↔ ∀ b ∈ l, b = true
  | [] => by simp [allB]
  | b :: l => by simp [allB, allB_iff l]
theorem s_all {n m : Nat} {p : Nat → Bool} (e : h.get n = some (.lst ((List.range m).map fun i => D.bl (p i)))) (q : Q (.bl (allB ((List.range m).map p))) h) : Sat (blt1 5 [.ref n] h) Q := by
  refine ⟨_, _, ?_, q⟩
  show (match seqOf h n with
    | some l => match bls? l with
      | some bs => R.ok (D.bl (allB bs)) h
      | none => .bad
    | none => .bad) = _
  rw [seq_of e]
  show (match bls? ((List.range m).map fun i => D.bl (p i)) with
      | some bs => R.ok (D.bl (allB bs)) h
      | none => .bad) = _
  rw [bls_map]
theorem s_allT {n m : Nat} (e : h.get n = some (.lst ((List.range m).map fun i => D.bl true))) (q : Q (.bl true) h) : Sat (blt1 5 [.ref n] h) Q := by
  refine s_all (p := fun _ => true) e ?_
  have : allB ((List.range m).map fun _ => true) = true := (allB_iff _).mpr fun b hb => by
    obtain ⟨_, _, rfl⟩ := List.mem_map.mp hb
    rfl
  rw [this]; exact q
end
section
variable {lf : Nat} (hl : 300000 ≤ lf)
theorem r_is_int (k : Nat) (i : Int) (h : Hp) {Q : D → Hp → Prop} (q : Q (.bl true) h) : Sat (run gg lf (k + 1) 0 [.int i] h) Q := by
  refine run_of (i := ⟨1, 1, b0⟩) rfl rfl ?_
  show SX (ex gg _ _ lf b0 [some (.int i)] h) _ _
  unfold b0
  array_get_dec
  refine ⟨fun c => absurd c (by decide), fun _ => ?_⟩
  array_get_dec
  exact q
theorem r_between (k : Nat) (i lo hi : Int) (h : Hp) {Q : D → Hp → Prop} (h1 : lo ≤ i) (h2 : i ≤ hi) (q : Q (.bl true) h) : Sat (run gg lf (k + 2) 1 [.int i, .int lo, .int hi] h) Q := by
  refine run_of (i := ⟨3, 3, b1⟩) rfl rfl ?_
  show SX (ex gg _ _ lf b1 [some (.int i), some (.int lo), some (.int hi)] h) _ _
  unfold b1
  array_get_dec
  refine r_is_int k i h ?_
  array_get_dec
  refine ⟨fun c => absurd c (by decide), fun _ => ?_⟩
  array_get_dec
  refine ⟨fun c => absurd c (by simp [h1]), fun _ => ?_⟩
  array_get_dec
  rw [decide_eq_true h2]
  exact q
theorem a0_tup {xs : List D} {h : Hp} : ∃ o, atS (.tup xs) 0 h = some o := by
  show ∃ o, (bif Nat.ble 0 xs.length then some (nth xs 0) else none) = some o
  rw [Nat.ble_eq_true_of_le (Nat.zero_le _)]
  exact ⟨_, rfl⟩
include hl in
theorem r_is_row (k : Nat) (n : Nat) (w : Row) (h : Hp) (hn : w.2.length = n) (n9 : n ≤ 9) : Sat (run gg lf (k + 2) 21 [.int (n : Int), rowD w] h) fun d h' => d = .bl true ∧ Gr h h' := by
  refine run_of (i := ⟨2, 3, b21⟩) rfl rfl ?_
  show SX (ex gg _ _ lf b21 [some (.int (n : Int)), some (rowD w), none] h) _ _
  unfold b21 rowD
  array_get_dec
  refine ⟨fun c => absurd c (by decide), fun _ => ?_⟩
  array_get_dec
  refine s_len rfl ?_
  array_get_dec
  refine ⟨fun c => absurd (show false = true from c) (by decide), fun _ => ?_⟩
  array_get_dec
  refine r_is_int k _ h ?_
  array_get_dec
  refine ⟨fun c => absurd c (by decide), fun _ => ?_⟩
  array_get_dec
  refine ⟨fun c => absurd c (by decide), fun _ => ?_⟩
  array_get_dec
  refine s_len rfl ?_
  array_get_dec
  have ln : (intsL w.2).length = n := by simp [intsL]; exact hn
  refine ⟨fun c => absurd c (by simp [ln]), fun _ => ?_⟩
  array_get_dec
  refine s_compI ?_
  array_get_dec
  refine ⟨a0_tup, ?_⟩
  refine s_compP (fun _ => .bl true) hl (xs := intsL w.2) (by omega) (fun h' g => has_tup) (fun i hi => ?_) fun h1 g1 t1 => ?_
  · have e : (intsL w.2)[i] = .int (w.2[i]'(by simpa [intsL] using hi)) := by simp [intsL]
    refine ⟨_, rfl, fun h' g => ?_⟩
    rw [e]
    array_get_dec
    refine r_is_int k _ h' ?_
    exact ⟨Gr.refl _, rfl⟩
  array_get_dec
  refine s_allT t1 ?_
  exact ⟨rfl, g1⟩
end
end W57

set_option linter.all false
set_option maxRecDepth 100000
set_option exponentiation.threshold 20000
/-! WT: check_rows, columns, whole, value_at, turned prices. -/
namespace W57
open VI M57 L57
local macro_rules
  | `(tactic| array_get_dec) => `(tactic| repeat first
  | with_reducible refine sx_seq ?_ | with_reducible refine sx_set ?_ | with_reducible refine sx_ret ?_ | with_reducible refine sx_exp ?_ | with_reducible refine sx_nil ?_ | with_reducible refine sx_ifs ?_ | with_reducible refine sx_setI ?_ | with_reducible refine sx_setF ?_ | with_reducible refine sx_setT ?_
  | ((with_reducible apply s_slot); · rfl) | with_reducible refine s_cst ?_ | with_reducible refine s_nop ?_ | with_reducible refine s_nil ?_ | with_reducible refine s_cons ?_ | with_reducible refine s_idx ?_ | with_reducible refine s_cmp ?_ | with_reducible refine s_chain ?_ | with_reducible refine s_bin ?_ | with_reducible refine s_fld ?_ | with_reducible refine s_call ?_ | with_reducible refine s_blt ?_ | with_reducible refine s_meth ?_ | with_reducible refine s_tup ?_ | with_reducible refine s_lst ?_ | with_reducible refine s_star ?_ | with_reducible refine s_neg ?_ | with_reducible refine s_not ?_ | with_reducible refine s_and ?_ | with_reducible refine s_or ?_ | with_reducible refine s_ite ?_ | with_reducible refine s_isi ?_ | with_reducible refine s_app ?_ | with_reducible refine s_ext ?_ | with_reducible refine s_iseq ?_ | with_reducible refine s_ienum ?_ | with_reducible refine s_izip ?_ | with_reducible refine s_irng ?_ | with_reducible refine s_lrg ?_ | with_reducible refine s_slc ?_ | with_reducible refine s_rev ?_ | with_reducible refine s_add ?_ | with_reducible refine s_sub ?_
  | refine ⟨_, rfl, ?_⟩ | refine ⟨(Nat.le_of_ble_eq_true rfl : List.length _ ≤ 100000), ?_⟩)

theorem Cd.sz {l : List Rat} (c : Cd l) : ∀ q ∈ l, Sz 601 q := by
  obtain ⟨d, d0, d1, o⟩ := c
  intro q hq
  obtain ⟨p1, p2⟩ := (o q hq).parts d0
  have e : ((2 : Int) ^ 600).natAbs = 2 ^ 600 := by decide +kernel
  rw [e] at p1
  have : (2 : Nat) ^ 601 = 2 * 2 ^ 600 := by decide +kernel
  exact ⟨by omega, by omega⟩
section
variable {h : Hp} {Q : D → Hp → Prop}
theorem s_fdiv {i j : Int} (p : 0 < j) (c : j.natAbs < 2 ^ 9000) (q : Q (.int (i / j)) h) : Sat (bin2 .fdiv (.int i) (.int j) h) Q := ⟨_, _, b_fdiv i j h p ((Nat.log2_lt (by omega)).mpr c), q⟩
theorem s_mod {i j : Int} (p : 0 < j) (q : Q (.int (i % j)) h) : Sat (bin2 .mod (.int i) (.int j) h) Q := ⟨_, _, b_mod i j h p, q⟩
theorem s_tupl {n : Nat} {l : List D} (e : h.get n = some (.lst l)) (q : Q (.tup l) h) : Sat (blt1 8 [.ref n] h) Q := by
  refine ⟨_, _, ?_, q⟩
  show (match seqOf h n with
      | some l => R.ok (D.tup l) h
      | none => .bad) = _
  rw [seq_of e]
end
section
variable {lf : Nat} (hl : 300000 ≤ lf)
include hl in
theorem r_check_rows (k n : Nat) (ws : List Row) (h : Hp) (n9 : n ≤ 9) (hw : ∀ w ∈ ws, w.2.length = n) (wl : ws.length ≤ 20) : Sat (run gg lf (k + 3) 22 [.int (n : Int), rowsD ws] h) fun d h' => Gr h h' := by
  refine run_of (i := ⟨2, 3, b22⟩) rfl rfl ?_
  show SX (ex gg _ _ lf b22 [some (.int (n : Int)), some (.tup (ws.map rowD)), none] h) _ _
  unfold b22
  have ln : (ws.map rowD).length = ws.length := by simp
  array_get_dec
  refine r_between k _ _ _ h (by omega) (by omega) ?_
  array_get_dec
  refine ⟨fun c => absurd c (by decide), fun _ => ?_⟩
  array_get_dec
  refine ⟨fun c => absurd c (by decide), fun _ => ?_⟩
  array_get_dec
  refine s_len rfl ?_
  array_get_dec
  refine ⟨fun c => absurd c (by rw [ln]; simp; omega), fun _ => ?_⟩
  array_get_dec
  refine s_compI ?_
  array_get_dec
  refine ⟨a0_tup, ?_⟩
  refine s_compP (fun _ => .bl true) hl (xs := ws.map rowD) (by omega) (fun h' g => has_tup) (fun i hi => ?_) fun h1 g1 t1 => ?_
  · have iw : i < ws.length := by omega
    refine ⟨_, rfl, fun h' g => ?_⟩
    rw [List.getElem_map]
    array_get_dec
    exact (r_is_row hl k n ws[i] h' (hw _ (List.getElem_mem iw)) n9).imp fun d h2 ⟨e, g⟩ => ⟨g, e⟩
  array_get_dec
  refine s_allT t1 ?_
  array_get_dec
  refine ⟨fun c => absurd c (by decide), fun _ => ?_⟩
  array_get_dec
  exact g1
include hl in
theorem r_check_following (k n : Nat) (ws : List Row) (w : Row) (h : Hp) (n9 : n ≤ 9) (hw : ∀ w ∈ ws, w.2.length = n) (wl : ws.length ≤ 20) (hw1 : w.2.length = n) : Sat (run gg lf (k + 4) 23 [.int (n : Int), rowsD ws, rowD w] h) fun d h' => Gr h h' := by
  refine run_of (i := ⟨3, 3, b23⟩) rfl rfl ?_
  show SX (ex gg _ _ lf b23 [some (.int (n : Int)), some (rowsD ws), some (rowD w)] h) _ _
  unfold b23
  array_get_dec
  refine (r_check_rows hl k n ws h n9 hw wl).imp fun d h1 g1 => ?_
  array_get_dec
  refine (r_is_row hl (k + 1) n w h1 hw1 n9).imp ?_
  rintro d h2 ⟨rfl, g2⟩
  array_get_dec
  refine ⟨fun c => absurd c (by decide), fun _ => ?_⟩
  array_get_dec
  exact g1.trans g2
theorem r_column (k : Nat) (w : Row) (h : Hp) (wl : w.2.length ≤ 9) : Sat (run gg lf (k + 1) 25 [rowD w] h) fun d h' => ∃ n, d = .ref n ∧ h.next ≤ n ∧ Gr h h' ∧ h'.get n = some (.lst (intsL (w.2 ++ [w.1]))) := by
  refine run_of (i := ⟨1, 1, b25⟩) rfl rfl ?_
  show SX (ex gg _ _ lf b25 [some (.tup [.int w.1, .tup (intsL w.2)])] h) _ _
  unfold b25
  array_get_dec
  refine ⟨by simp [intsL]; omega, ?_⟩
  refine ⟨_, rfl, Nat.le_refl _, Gr.push _ _, ?_⟩
  rw [get_top]
  simp [intsL]
theorem rep_ints (a : Int) : ∀ n : Nat, (List.replicate n [D.int a]).flatten = intsL (List.replicate n a)
  | 0 => rfl
  | n + 1 => by
    rw [List.replicate_succ, List.flatten_cons, rep_ints a n]
    simp [intsL, List.replicate_succ]
theorem r_rest (k n : Nat) (h : Hp) (n9 : n ≤ 9) : Sat (run gg lf (k + 1) 26 [.int (n : Int)] h) fun d h' => ∃ u, d = .ref u ∧ h.next ≤ u ∧ Gr h h' ∧ h'.get u = some (.lst (intsL (List.replicate n 0 ++ [1]))) := by
  refine run_of (i := ⟨1, 1, b26⟩) rfl rfl ?_
  show SX (ex gg _ _ lf b26 [some (.int (n : Int))] h) _ _
  unfold b26
  array_get_dec
  refine s_mulL (get_top _ _) (by omega) (by simp; omega) ?_
  rw [rep_ints]
  array_get_dec
  have g1 := Gr.push h (.lst [.int 0])
  have g2 := Gr.push (h.push (.lst [.int 0])) (.lst (intsL (List.replicate n 0)))
  have t2 := get_top (h.push (.lst [.int 0])) (.lst (intsL (List.replicate n 0)))
  generalize (h.push (.lst [.int 0])).push (.lst (intsL (List.replicate n 0))) = h2 at *
  generalize (h.push (.lst [.int 0])).next = u at *
  have g3 := Gr.push h2 (.lst [.int 1])
  have t3 := get_top h2 (.lst [.int 1])
  refine s_addL (g3.get t2) t3 (by simp [intsL]; omega) ?_
  refine ⟨_, rfl, (g1.trans (g2.trans g3)).le, (g1.trans (g2.trans g3)).trans (Gr.push _ _), ?_⟩
  rw [get_top]
  simp [intsL]
include hl in
theorem r_whole (k : Nat) {h : Hp} {n : Nat} {l : List Rat} (e : h.get n = some (.lst (frs l))) (ll : l.length ≤ 9) (sz : ∀ q ∈ l, Sz 601 q) : Sat (run gg lf (k + 2) 24 [.ref n] h) fun d h' => Gr h h' ∧ ∃ b xs, d = .tup [.int b, .tup xs] := by
  refine run_of (i := ⟨1, 4, b24⟩) rfl rfl ?_
  show SX (ex gg _ _ lf b24 [some (.ref n), none, none, none] h) _ _
  unfold b24
  array_get_dec
  refine sx_frI ?_
  array_get_dec
  refine ⟨⟨_, a1_at (seq_of e)⟩, ?_⟩
  refine s_fr (xs := frs l) (fun i σ h' => h' = h ∧ ∃ b o2 o3, σ = [some (.ref n), some (.int b), o2, o3] ∧ 0 < b ∧ b.natAbs < 2 ^ (601 * i + 1)) hl (by simp; omega) ?_ ?_ ⟨rfl, 1, _, _, rfl, by omega, by decide⟩
  · rintro i hi σ h2 ⟨rfl, b, o2, o3, rfl, b0, b1⟩
    have il : i < l.length := by simpa using hi
    have ei : (frs l)[i] = fr l[i] := by simp
    have z := sz _ (List.getElem_mem il)
    have dp := den_pos l[i]
    have b2 : (b * (l[i].den : Int)).natAbs < 2 ^ (601 * i + 1 + 601) := by
      rw [Int.natAbs_mul]
      exact lt_mul b1 (by simpa using z.2)
    have b9 : (2 : Nat) ^ (601 * i + 1) ≤ 2 ^ 20000 := Nat.pow_le_pow_right (by omega) (by omega)
    have d9 : (l[i].den : Int).natAbs < 2 ^ 9000 := by
      have := z.2
      have e9 : (2 : Nat) ^ 601 ≤ 2 ^ 9000 := Nat.pow_le_pow_right (by omega) (by omega)
      have : ((l[i].den : Int)).natAbs = l[i].den := by simp
      omega
    have e20 : (2 : Nat) ^ 9000 ≤ 2 ^ 20000 := Nat.pow_le_pow_right (by omega) (by omega)
    have e10 : (2 : Nat) ^ 9000 ≤ 2 ^ 10000 := Nat.pow_le_pow_right (by omega) (by omega)
    refine ⟨(has_lst e).1 i hi, [some (.ref n), some (.int b), some (.int l[i].num), some (.int (l[i].den : Int))], by rw [ei]; rfl, ?_⟩
    array_get_dec
    refine s_mul (by omega) (by omega) ?_
    array_get_dec
    refine s_of (r_common hl k b (l[i].den : Int) h2 (by omega) (by omega)) ?_
    have gp : 0 < Int.gcd b (l[i].den : Int) := Int.gcd_pos_of_ne_zero_right b (by omega)
    have gl : (Int.gcd b (l[i].den : Int) : Int) ≤ (l[i].den : Int) := Int.gcd_le_right b dp
    refine s_fdiv (by omega) (by omega) ?_
    have gd : (Int.gcd b (l[i].den : Int) : Int) ∣ b * (l[i].den : Int) := Int.dvd_mul_of_dvd_left (Int.gcd_dvd_left ..)
    array_get_dec
    refine ⟨rfl, _, _, _, rfl, ?_, ?_⟩
    · refine Int.ediv_pos_of_pos_of_dvd (Int.mul_pos b0 dp) (by omega) gd
    · refine Nat.lt_of_le_of_lt ?_ b2
      exact Int.natAbs_ediv_le_natAbs ..
  · rintro σ h2 ⟨rfl, b, o2, o3, rfl, b0, b1⟩
    refine ⟨(has_lst e).2, ?_⟩
    have ln : (frs l).length = l.length := by simp
    rw [ln] at b1
    have b9 : (2 : Nat) ^ (601 * l.length + 1) ≤ 2 ^ 20000 := Nat.pow_le_pow_right (by omega) (by omega)
    array_get_dec
    refine s_compI ?_
    array_get_dec
    refine ⟨⟨_, a1_at (seq_of e)⟩, ?_⟩
    refine s_compP (fun i => .int ((l.getD i 0).num * b / ((l.getD i 0).den : Int))) hl (xs := frs l) (by omega) (fun h' g => has_lst (g.get e)) (fun i hi => ?_) fun h1 g1 t1 => ?_
    · have il : i < l.length := by omega
      have ei : (frs l)[i] = fr l[i] := by simp
      have z := sz _ (List.getElem_mem il)
      have dp := den_pos l[i]
      have d9 : (l[i].den : Int).natAbs < 2 ^ 9000 := by
        have := z.2
        have e9 : (2 : Nat) ^ 601 ≤ 2 ^ 9000 := Nat.pow_le_pow_right (by omega) (by omega)
        have : ((l[i].den : Int)).natAbs = l[i].den := by simp
        omega
      have n9 : l[i].num.natAbs < 2 ^ 20000 := Nat.lt_of_lt_of_le z.1 (Nat.pow_le_pow_right (by omega) (by omega))
      refine ⟨[some (.ref n), some (.int b), some (.int l[i].num), some (.int (l[i].den : Int))], by rw [ei]; rfl, fun h' g => ?_⟩
      array_get_dec
      refine s_mul n9 (by omega) ?_
      array_get_dec
      refine s_fdiv dp d9 ?_
      rw [getD_at il]
      exact ⟨Gr.refl _, rfl⟩
    array_get_dec
    refine s_tupl t1 ?_
    array_get_dec
    exact ⟨g1, _, _, rfl⟩
end
end W57

set_option linter.all false
set_option maxRecDepth 100000
set_option exponentiation.threshold 20000
/-! WU: value_at, turned prices, spot_of. -/
namespace W57
open VI M57 L57
local macro_rules
  | `(tactic| array_get_dec) => `(tactic| repeat first
  | with_reducible refine sx_seq ?_ | with_reducible refine sx_set ?_ | with_reducible refine sx_ret ?_ | with_reducible refine sx_exp ?_ | with_reducible refine sx_nil ?_ | with_reducible refine sx_ifs ?_ | with_reducible refine sx_setI ?_ | with_reducible refine sx_setF ?_ | with_reducible refine sx_setT ?_
  | ((with_reducible apply s_slot); · rfl) | with_reducible refine s_cst ?_ | with_reducible refine s_nop ?_ | with_reducible refine s_nil ?_ | with_reducible refine s_cons ?_ | with_reducible refine s_idx ?_ | with_reducible refine s_cmp ?_ | with_reducible refine s_chain ?_ | with_reducible refine s_bin ?_ | with_reducible refine s_fld ?_ | with_reducible refine s_call ?_ | with_reducible refine s_blt ?_ | with_reducible refine s_meth ?_ | with_reducible refine s_tup ?_ | with_reducible refine s_lst ?_ | with_reducible refine s_star ?_ | with_reducible refine s_neg ?_ | with_reducible refine s_not ?_ | with_reducible refine s_and ?_ | with_reducible refine s_or ?_ | with_reducible refine s_ite ?_ | with_reducible refine s_isi ?_ | with_reducible refine s_app ?_ | with_reducible refine s_ext ?_ | with_reducible refine s_iseq ?_ | with_reducible refine s_ienum ?_ | with_reducible refine s_izip ?_ | with_reducible refine s_irng ?_ | with_reducible refine s_lrg ?_ | with_reducible refine s_slc ?_ | with_reducible refine s_rev ?_ | with_reducible refine s_add ?_ | with_reducible refine s_sub ?_
  | refine ⟨_, rfl, ?_⟩ | refine ⟨(Nat.le_of_ble_eq_true rfl : List.length _ ≤ 100000), ?_⟩)

def valR (w : Row) (v : List Rat) (i : Nat) : Rat := (w.1 : Rat) + sm i fun u => ((w.2.getD u 0 : Int) : Rat) * v.getD u 0
structure RowOk (n : Nat) (w : Row) : Prop where
  len : w.2.length = n
  b1 : w.1.natAbs ≤ 102
  b2 : ∀ f ∈ w.2, f.natAbs ≤ 102
theorem ov_of_bd {d : Int} {c : Nat} (n : Int) (h : n.natAbs ≤ c) : Ov d ((c : Int) * d.natAbs) (n : Rat) := Ov.of_int n (by omega) (by omega)
theorem val_ov {n : Nat} {w : Row} {v : List Rat} {d B : Int} (ok : RowOk n w) (ov : ∀ q ∈ v, Ov d B q) (hB : 0 ≤ B) : ∀ i : Nat, Ov d (102 * d.natAbs + (i : Int) * (102 * B)) (valR w v i) := by
  have f1 : ∀ u, (w.2.getD u 0).natAbs ≤ 102 := fun u => by
    by_cases c : u < w.2.length
    · rw [getD_at c]; exact ok.b2 _ (List.getElem_mem c)
    · have : w.2.getD u 0 = 0 := by simp [List.getD, c]
      rw [this]; decide
  have f2 : ∀ u, Ov d B (v.getD u 0) := fun u => by
    by_cases c : u < v.length
    · rw [getD_at c]; exact ov _ (List.getElem_mem c)
    · have : v.getD u 0 = 0 := by simp [List.getD, c]
      rw [this]; exact Ov.zero hB
  intro i
  induction i with
  | zero =>
    refine Ov.le (b := 102 * d.natAbs) ?_ (by simp)
    have : valR w v 0 = (w.1 : Rat) := by unfold valR; simp [sm]; grind
    rw [this]
    exact ov_of_bd _ ok.b1
  | succ i ih =>
    have e : valR w v (i + 1) = valR w v i + ((w.2.getD i 0 : Int) : Rat) * v.getD i 0 := by
      unfold valR
      show _ + (sm i _ + _) = _
      grind
    rw [e]
    have := f1 i
    refine (ih.add (Ov.mulI (A := 102) (f2 i) (by omega) (by omega) hB)).le ?_
    have : ((i + 1 : Nat) : Int) * (102 * B) = i * (102 * B) + 102 * B := by rw [Int.natCast_add, Int.add_mul]; simp
    omega
theorem nat_of_abs {b : Int} {n : Nat} (h0 : 0 ≤ b) (h : b < 2 ^ n) : b.natAbs < 2 ^ n := by
  have e : ((2 ^ n : Nat) : Int) = 2 ^ n := by rw [Int.natCast_pow]; rfl
  have : (b.natAbs : Int) < ((2 ^ n : Nat) : Int) := by rw [e]; omega
  exact Int.ofNat_lt.mp this
theorem Ov.sz {d b : Int} {x : Rat} {n : Nat} (h : Ov d b x) (d0 : d ≠ 0) (hd : d.natAbs < 2 ^ n) (hb : b.natAbs < 2 ^ n) : Sz n x := by
  obtain ⟨p1, p2⟩ := h.parts d0
  exact ⟨by omega, by omega⟩
theorem val_sz {n : Nat} {w : Row} {v : List Rat} (ok : RowOk n w) (c : Cd v) {i : Nat} (hi : i ≤ 9) : Sz 620 (valR w v i) := by
  obtain ⟨d, d0, d1, o⟩ := c
  have p0 : (0 : Int) ≤ 2 ^ 600 := by decide +kernel
  have p1 : (102 : Int) * 2 ^ 600 + 9 * (102 * 2 ^ 600) < 2 ^ 620 := by decide +kernel
  have p2 : (2 : Nat) ^ 600 < 2 ^ 620 := by decide +kernel
  have dd : (d.natAbs : Int) ≤ 2 ^ 600 := by
    have : (d.natAbs : Int) ≤ ((2 ^ 600 : Nat) : Int) := Int.ofNat_le.mpr d1
    rw [Int.natCast_pow] at this
    exact this
  have m1 : (i : Int) * (102 * 2 ^ 600) ≤ 9 * (102 * 2 ^ 600) := Int.mul_le_mul_of_nonneg_right (by omega) (by omega)
  have m0 : 0 ≤ (i : Int) * (102 * 2 ^ 600) := Int.mul_nonneg (by omega) (by omega)
  refine W57.Ov.sz (val_ov ok o p0 i) d0 (by omega) (nat_of_abs (by omega) (by omega))
theorem prod_sz {n : Nat} {w : Row} (ok : RowOk n w) {i : Nat} : Sz 7 ((w.2.getD i 0 : Int) : Rat) := by
  refine Sz.int ?_ (by omega)
  by_cases c : i < w.2.length
  · rw [getD_at c]; exact Nat.lt_of_le_of_lt (ok.b2 _ (List.getElem_mem c)) (by decide)
  · have : w.2.getD i 0 = 0 := by simp [List.getD, c]
    rw [this]; decide
theorem has_zipT {m : Nat} {xs ys : List D} {h : Hp} (e2 : h.get m = some (.lst ys)) (hl : xs.length = ys.length) : Has (.tup [.int 3, .tup xs, .ref m]) ((xs.zip ys).map fun p => .tup [p.1, p.2]) h := by
  have a1 : ∀ i, i ≤ xs.length → atS (.tup xs) i h = some (nth xs i) := fun i hi => by
    show (bif Nat.ble i xs.length then some (nth xs i) else none) = _
    rw [Nat.ble_eq_true_of_le hi]; rfl
  have a2 : ∀ i, i ≤ ys.length → atS (.ref m) i h = some (nth ys i) := fun i hi => by
    show (match seqOf h m with | some xs => bif Nat.ble i xs.length then some (nth xs i) else none | none => none) = _
    rw [seq_of e2]
    show (bif Nat.ble i ys.length then some (nth ys i) else none) = _
    rw [Nat.ble_eq_true_of_le hi]; rfl
  have ln : ((xs.zip ys).map fun p : D × D => D.tup [p.1, p.2]).length = xs.length := by simp [hl]
  refine ⟨fun i hi => ?_, ?_⟩
  · have hi' : i < xs.length := by rw [ln] at hi; exact hi
    show (match atS (.tup xs) i h, atS (.ref m) i h with | some (some x), some (some y) => some (some (D.tup [x, y])) | some none, some _ => some none | some _, some none => some none | _, _ => none) = _
    rw [a1 i (by omega), a2 i (by omega), nth_some hi', nth_some (by omega : i < ys.length)]
    simp
  · rw [ln]
    show (match atS (.tup xs) xs.length h, atS (.ref m) xs.length h with | some (some x), some (some y) => some (some (D.tup [x, y])) | some none, some _ => some none | some _, some none => some none | _, _ => none) = _
    rw [a1 _ (Nat.le_refl _), a2 _ (by omega), nth_none (Nat.le_refl _), nth_none (by omega : ys.length ≤ xs.length)]
theorem s_slcL {h : Hp} {Q : D → Hp → Prop} {n : Nat} {xs : List D} {l u : Option Int} (e : h.get n = some (.lst xs)) (q : Q (.ref h.next) (h.push (.lst (cutL xs l u)))) : Sat (slc3 (.ref n) l u h) Q := by
  refine ⟨_, _, ?_, q⟩
  show (match seqOf h n with
    | some xs => R.ok (D.ref h.next) (h.push (.lst (cutL xs l u)))
    | none => .bad) = _
  rw [seq_of e]
section
variable {lf : Nat} (hl : 300000 ≤ lf)
include hl in
theorem r_value_at (k : Nat) {h : Hp} {n : Nat} {w : Row} {u : Nat} {v : List Rat} (ok : RowOk n w) (e : h.get u = some (.lst (frs v))) (vl : v.length = n) (c : Cd v) (n9 : n ≤ 9) : Sat (run gg lf (k + 4) 27 [rowD w, .ref u] h) fun d h' => h' = h ∧ d = fr (valR w v n) := by
  refine run_of (i := ⟨2, 5, b27⟩) rfl rfl ?_
  show SX (ex gg _ _ lf b27 [some (.tup [.int w.1, .tup (intsL w.2)]), some (.ref u), none, none, none] h) _ _
  unfold b27
  array_get_dec
  refine sx_frI ?_
  array_get_dec
  refine ⟨a0_tup, ⟨_, a1_at (seq_of e)⟩, ?_⟩
  have wl := ok.len
  have lw : (intsL w.2).length = n := by simp [intsL]; exact wl
  have lv : (frs v).length = n := by simp; exact vl
  refine s_fr (xs := ((intsL w.2).zip (frs v)).map fun p => .tup [p.1, p.2]) (fun i σ h' => h' = h ∧ ∃ o3 o4, σ = [some (.tup [.int w.1, .tup (intsL w.2)]), some (.ref u), some (fr (valR w v i)), o3, o4]) hl (by simp [lw]; omega) ?_ ?_ ⟨rfl, none, none, by
    have : valR w v 0 = (w.1 : Rat) := by unfold valR; simp [sm]; grind
    rw [this]; rfl⟩
  · rintro i hi σ h2 ⟨rfl, o3, o4, rfl⟩
    have iw : i < w.2.length := by simp [lw] at hi; omega
    have iv : i < v.length := by omega
    have ei : (((intsL w.2).zip (frs v)).map fun p : D × D => D.tup [p.1, p.2])[i] = .tup [.int w.2[i], fr v[i]] := by simp [intsL]
    refine ⟨(has_zipT e (by omega)).1 i hi, [some (.tup [.int w.1, .tup (intsL w.2)]), some (.ref u), some (fr (valR w v i)), some (.int w.2[i]), some (fr v[i])], by rw [ei]; rfl, ?_⟩
    have gw : w.2.getD i 0 = w.2[i] := getD_at iw
    have gv : v.getD i 0 = v[i] := getD_at iv
    have z1 := prod_sz ok (i := i)
    rw [gw] at z1
    have z2 := c.sz _ (List.getElem_mem iv)
    have z3 := val_sz ok c (i := i) (by omega)
    array_get_dec
    refine s_of (r_prod hl k ((w.2[i] : Int) : Rat) v[i] h2 (z1.le (by omega)) (z2.le (by omega))) ?_
    array_get_dec
    refine s_of (r_added hl k _ _ h2 (z3.le (by omega)) ((z1.mul z2).le (by omega))) ?_
    array_get_dec
    refine ⟨rfl, some (.int w.2[i]), some (fr v[i]), ?_⟩
    have e3 : valR w v (i + 1) = valR w v i + ((w.2[i] : Int) : Rat) * v[i] := by
      rw [← gw, ← gv]
      unfold valR
      show _ + (sm i _ + _) = _
      grind
    rw [e3]
    rfl
  · rintro σ h2 ⟨rfl, o3, o4, rfl⟩
    refine ⟨(has_zipT e (by omega)).2, ?_⟩
    have ln : (((intsL w.2).zip (frs v)).map fun p : D × D => D.tup [p.1, p.2]).length = n := by simp [lw, lv]
    rw [ln]
    array_get_dec
    exact ⟨rfl, rfl⟩
theorem cut_last {α : Type} (xs : List α) : cutL xs none (some (-1)) = xs.take (xs.length - 1) := by
  show (xs.drop 0).take (xs.length - 1 - 0 - 0) = _
  simp
def negs (l : List Rat) : List Rat := l.map fun q => 0 - q
include hl in
theorem r_turned (k : Nat) {h : Hp} {u : Nat} {l : List Rat} (e : h.get u = some (.lst (frs l))) (ll : l.length ≤ 9) (l0 : 0 < l.length) (sz : ∀ q ∈ l, Sz 601 q) : Sat (run gg lf (k + 4) 28 [.ref u] h) fun d h' => Gr h h' ∧ ∃ n, d = .tup [.ref n, fr ((negs l).getD (l.length - 1) 0)] ∧ h'.get n = some (.lst (frs ((negs l).take (l.length - 1)))) := by
  refine run_of (i := ⟨1, 3, b28⟩) rfl rfl ?_
  show SX (ex gg _ _ lf b28 [some (.ref u), none, none] h) _ _
  unfold b28
  array_get_dec
  refine s_compI ?_
  array_get_dec
  refine ⟨⟨_, a1_at (seq_of e)⟩, ?_⟩
  have lfl : (frs l).length = l.length := by simp
  refine s_compP (fun i => fr ((negs l).getD i 0)) hl (xs := frs l) (by omega) (fun h' g => has_lst (g.get e)) (fun i hi => ?_) fun h1 g1 t1 => ?_
  · have il : i < l.length := by omega
    have ei : (frs l)[i] = fr l[i] := by simp
    refine ⟨_, rfl, fun h' g => ?_⟩
    rw [ei]
    array_get_dec
    refine s_of (r_diff hl k 0 l[i] h' ⟨by decide, by decide⟩ ((sz _ (List.getElem_mem il)).le (by omega))) ?_
    refine ⟨Gr.refl _, ?_⟩
    rw [getD_at (by simp [negs]; exact il)]
    simp [negs]
  have en : (List.range (frs l).length).map (fun i => fr ((negs l).getD i 0)) = frs (negs l) := by
    refine List.ext_getElem (by simp [negs]) fun i h1 h2 => ?_
    have il : i < l.length := by simpa [negs] using h2
    simp only [List.getElem_map, List.getElem_range, frs]
    rw [getD_at (by simp [negs]; exact il)]
  rw [en] at t1
  have nl : (negs l).length = l.length := by simp [negs]
  array_get_dec
  refine s_slcL t1 ?_
  have ec : cutL (frs (negs l)) none (some (-1)) = frs ((negs l).take (l.length - 1)) := by
    rw [cut_last]
    simp [frs, nl, List.map_take]
  have ec2 : cutL (frs (negs l)) none (some (-(1 : Int))) = frs ((negs l).take (l.length - 1)) := ec
  rw [ec2]
  have g2 := Gr.push h1 (.lst (frs ((negs l).take (l.length - 1))))
  have t2 := get_top h1 (.lst (frs ((negs l).take (l.length - 1))))
  generalize h1.push (.lst (frs ((negs l).take (l.length - 1)))) = h2 at *
  array_get_dec
  refine ⟨_, idx_last (g2.get t1) (by simp [nl]; omega), ?_⟩
  array_get_dec
  refine ⟨g1.trans g2, _, ?_, t2⟩
  rw [List.getElem_map, getD_at (by omega)]
  simp [frs, nl]
end
end W57

set_option linter.all false
set_option maxRecDepth 100000
set_option exponentiation.threshold 20000
/-! WV: what parts and prices tell of rows. -/
namespace W57
open VI M57 L57
local macro_rules
  | `(tactic| array_get_dec) => `(tactic| repeat first
  | with_reducible refine sx_seq ?_ | with_reducible refine sx_set ?_ | with_reducible refine sx_ret ?_ | with_reducible refine sx_exp ?_ | with_reducible refine sx_nil ?_ | with_reducible refine sx_ifs ?_ | with_reducible refine sx_setI ?_ | with_reducible refine sx_setF ?_ | with_reducible refine sx_setT ?_
  | ((with_reducible apply s_slot); · rfl) | with_reducible refine s_cst ?_ | with_reducible refine s_nop ?_ | with_reducible refine s_nil ?_ | with_reducible refine s_cons ?_ | with_reducible refine s_idx ?_ | with_reducible refine s_cmp ?_ | with_reducible refine s_chain ?_ | with_reducible refine s_bin ?_ | with_reducible refine s_fld ?_ | with_reducible refine s_call ?_ | with_reducible refine s_blt ?_ | with_reducible refine s_meth ?_ | with_reducible refine s_tup ?_ | with_reducible refine s_lst ?_ | with_reducible refine s_star ?_ | with_reducible refine s_neg ?_ | with_reducible refine s_not ?_ | with_reducible refine s_and ?_ | with_reducible refine s_or ?_ | with_reducible refine s_ite ?_ | with_reducible refine s_isi ?_ | with_reducible refine s_app ?_ | with_reducible refine s_ext ?_ | with_reducible refine s_iseq ?_ | with_reducible refine s_ienum ?_ | with_reducible refine s_izip ?_ | with_reducible refine s_irng ?_ | with_reducible refine s_lrg ?_ | with_reducible refine s_slc ?_ | with_reducible refine s_rev ?_ | with_reducible refine s_add ?_ | with_reducible refine s_sub ?_
  | refine ⟨_, rfl, ?_⟩ | refine ⟨(Nat.le_of_ble_eq_true rfl : List.length _ ≤ 100000), ?_⟩)

def colOf (w : Row) : List Int := w.2 ++ [w.1]
def colsOf (n : Nat) (ws : List Row) : List (List Int) := ws.map colOf ++ [List.replicate n 0 ++ [1]]
def restRow (n : Nat) : Row := (1, List.replicate n 0)
def HoldsAt (n : Nat) (w : Row) (v : List Rat) : Prop := 0 ≤ valR w v n
/-- all rows, the last for what is left over -/
def rowsOf (n : Nat) (ws : List Row) : List Row := ws ++ [restRow n]
theorem cols_rows (n : Nat) (ws : List Row) : colsOf n ws = (rowsOf n ws).map colOf := by simp [colsOf, rowsOf, colOf, restRow]
theorem rest_val {n : Nat} {v : List Rat} : valR (restRow n) v n = 1 := by
  unfold valR restRow
  rw [sm_zero' fun i hi => by rw [getD_at (by simp; exact hi)]; simp]
  show ((1 : Int) : Rat) + 0 = 1
  simp
  grind
theorem col_at {n k : Nat} {w : Row} (hw : w.2.length = n) (hk : k < n) : (colOf w).getD k 0 = w.2.getD k 0 := by
  unfold colOf
  rw [getD_at (by simp; omega), getD_at (by omega), List.getElem_append_left (by omega)]
theorem col_last {n : Nat} {w : Row} (hw : w.2.length = n) : (colOf w).getD n 0 = w.1 := by
  unfold colOf
  rw [getD_at (by simp; omega), List.getElem_append_right (by omega)]
  simp
/-- parts: the goal is the rows' sum -/
theorem parts_val {n : Nat} {rs : List Row} {g : Row} {l : List Rat} (hr : ∀ w ∈ rs, w.2.length = n) (hg : g.2.length = n) (p : IsParts (rs.map colOf) (colOf g) l) (v : List Rat) :
    valR g v n = sm rs.length fun j => l.getD j 0 * valR (rs.getD j (0, [])) v n := by
  have gl : (colOf g).length = n + 1 := by simp [colOf, hg]
  have eq : ∀ k, k < n + 1 → (((colOf g).getD k 0 : Int) : Rat) = sm rs.length fun j => (((colOf (rs.getD j (0, []))).getD k 0 : Int) : Rat) * l.getD j 0 := fun k hk => by
    have := p.eq k (by omega)
    rw [List.length_map] at this
    rw [this]
    refine sm_congr fun j hj => ?_
    rw [getD_at (l := rs.map colOf) (i := j) (by simp; exact hj), getD_at hj, List.getElem_map]
  have rl : ∀ j, j < rs.length → (rs.getD j (0, [])).2.length = n := fun j hj => by rw [getD_at hj]; exact hr _ (List.getElem_mem hj)
  unfold valR
  have e0 := eq n (by omega)
  rw [col_last hg] at e0
  rw [e0, sm_congr (n := n) (g := fun k => sm rs.length fun j => (((colOf (rs.getD j (0, []))).getD k 0 : Int) : Rat) * l.getD j 0 * v.getD k 0) fun k hk => by
    rw [← col_at hg hk, eq k (by omega), sm_mulR], sm_swap, ← sm_add]
  refine sm_congr fun j hj => ?_
  rw [col_last (rl j hj)]
  have : (sm n fun k => (((colOf (rs.getD j (0, []))).getD k 0 : Int) : Rat) * l.getD j 0 * v.getD k 0) = l.getD j 0 * sm n fun k => (((rs.getD j (0, [])).2.getD k 0 : Int) : Rat) * v.getD k 0 := by
    rw [← sm_mul]
    exact sm_congr fun k hk => by rw [col_at (rl j hj) hk]; grind
  rw [this]
  grind
theorem parts_holds {n : Nat} {rs : List Row} {g : Row} {l : List Rat} (hr : ∀ w ∈ rs, w.2.length = n) (hg : g.2.length = n) (p : IsParts (rs.map colOf) (colOf g) l) (v : List Rat) (h : ∀ w ∈ rs, HoldsAt n w v) : HoldsAt n g v := by
  unfold HoldsAt
  rw [parts_val hr hg p v]
  refine sm_nonneg fun j hj => ?_
  have h1 := p.nn j (by simpa using hj)
  have h2 := h _ (List.getElem_mem hj)
  rw [getD_at hj]
  exact Rat.mul_nonneg h1 h2
/-- prices at the rows -/
theorem prices_row {n : Nat} {rs : List Row} {g : Row} {l : List Rat} (hr : ∀ w ∈ rs, w.2.length = n) (hg : g.2.length = n) (p : IsPrices (rs.map colOf) (colOf g) l) :
    (∀ w ∈ rs, (sm n fun k => l.getD k 0 * ((w.2.getD k 0 : Int) : Rat)) + l.getD n 0 * (w.1 : Rat) ≤ 0) ∧ 0 < (sm n fun k => l.getD k 0 * ((g.2.getD k 0 : Int) : Rat)) + l.getD n 0 * (g.1 : Rat) := by
  have gl : (colOf g).length = n + 1 := by simp [colOf, hg]
  refine ⟨fun w hw => ?_, ?_⟩
  · obtain ⟨j, hj, rfl⟩ := List.getElem_of_mem hw
    have e := p.le j (by simpa using hj)
    rw [gl, getD_at (by simp; exact hj), List.getElem_map] at e
    have e2 : sm (n + 1) (fun k => l.getD k 0 * (((colOf rs[j]).getD k 0 : Int) : Rat)) = (sm n fun k => l.getD k 0 * (((colOf rs[j]).getD k 0 : Int) : Rat)) + l.getD n 0 * (((colOf rs[j]).getD n 0 : Int) : Rat) := rfl
    rw [e2, col_last (hr _ hw), sm_congr (g := fun k => l.getD k 0 * ((rs[j].2.getD k 0 : Int) : Rat)) fun k hk => by rw [col_at (hr _ hw) hk]] at e
    exact e
  · have e := p.pos
    rw [gl] at e
    have e2 : sm (n + 1) (fun k => l.getD k 0 * (((colOf g).getD k 0 : Int) : Rat)) = (sm n fun k => l.getD k 0 * (((colOf g).getD k 0 : Int) : Rat)) + l.getD n 0 * (((colOf g).getD n 0 : Int) : Rat) := rfl
    rw [e2, col_last hg, sm_congr (g := fun k => l.getD k 0 * ((g.2.getD k 0 : Int) : Rat)) fun k hk => by rw [col_at hg hk]] at e
    exact e
/-- the spot of prices whose last is below 0 -/
def spotL (n : Nat) (l : List Rat) : List Rat := (List.range n).map fun k => (0 - l.getD k 0) / (0 - l.getD n 0)
theorem spot_val {n : Nat} {l : List Rat} {w : Row} (z : l.getD n 0 < 0) : valR w (spotL n l) n * (0 - l.getD n 0) = -((sm n fun k => l.getD k 0 * ((w.2.getD k 0 : Int) : Rat)) + l.getD n 0 * (w.1 : Rat)) := by
  unfold valR
  have e : (sm n fun u => ((w.2.getD u 0 : Int) : Rat) * (spotL n l).getD u 0) * (0 - l.getD n 0) = -(sm n fun k => l.getD k 0 * ((w.2.getD k 0 : Int) : Rat)) := by
    rw [← sm_mulR]
    have : -(sm n fun k => l.getD k 0 * ((w.2.getD k 0 : Int) : Rat)) = sm n fun k => (-1 : Rat) * (l.getD k 0 * ((w.2.getD k 0 : Int) : Rat)) := by rw [sm_mul]; grind
    rw [this]
    refine sm_congr fun k hk => ?_
    have gk : (spotL n l).getD k 0 = (0 - l.getD k 0) / (0 - l.getD n 0) := by
      rw [getD_at (by simp [spotL]; exact hk)]; simp [spotL]
    rw [gk]
    have := dmul (a := 0 - l.getD k 0) (b := 0 - l.getD n 0) (by grind)
    grind
  grind
theorem nonneg_of_mul {a b : Rat} (hb : 0 < b) (h : 0 ≤ a * b) : 0 ≤ a := by
  refine Classical.byContradiction fun z => ?_
  have z : a < 0 := by grind
  have := Rat.mul_lt_mul_of_pos_right z hb
  grind
theorem neg_of_mul {a b : Rat} (hb : 0 < b) (h : a * b < 0) : ¬ 0 ≤ a := by
  intro z
  have := Rat.mul_nonneg z (Rat.le_of_lt hb)
  grind
theorem spot_at {n : Nat} {rs : List Row} {g : Row} {l : List Rat} (hr : ∀ w ∈ rs, w.2.length = n) (hg : g.2.length = n) (p : IsPrices (rs.map colOf) (colOf g) l) (z : l.getD n 0 < 0) : (∀ w ∈ rs, HoldsAt n w (spotL n l)) ∧ ¬ HoldsAt n g (spotL n l) := by
  obtain ⟨h1, h2⟩ := prices_row hr hg p
  refine ⟨fun w hw => ?_, ?_⟩
  · refine nonneg_of_mul (b := 0 - l.getD n 0) (by grind) ?_
    rw [spot_val z]
    have := h1 w hw
    grind
  · refine neg_of_mul (b := 0 - l.getD n 0) (by grind) ?_
    rw [spot_val z]
    grind
/-- one over number for the spot -/
theorem spot_cd {n : Nat} {l : List Rat} (c : Cd l) (ll : l.length = n + 1) (z : l.getD n 0 < 0) : Cd (spotL n l) := by
  obtain ⟨d, d0, d1, o⟩ := c
  obtain ⟨m, em, m1, m2⟩ := o (l.getD n 0) (by rw [getD_at (by omega)]; exact List.getElem_mem _)
  have d0' : (d : Rat) ≠ 0 := by intro w; exact d0 (by exact_mod_cast w)
  have m0 : m ≠ 0 := by
    intro w
    rw [w] at em
    have : (d : Rat) * l.getD n 0 = 0 := by rw [em]; simp
    rcases Rat.mul_eq_zero.mp this with q | q
    · exact d0' q
    · grind
  have E : ((2 ^ 600 : Nat) : Int) = 2 ^ 600 := by decide +kernel
  refine ⟨-m, by omega, ?_, fun q hq => ?_⟩
  · have : ((-m).natAbs : Int) ≤ ((2 ^ 600 : Nat) : Int) := by rw [E]; omega
    exact Int.ofNat_le.mp this
  · obtain ⟨k, hk, rfl⟩ := List.mem_map.mp hq
    have kn : k < n := List.mem_range.mp hk
    obtain ⟨u, eu, u1, u2⟩ := o (l.getD k 0) (by rw [getD_at (by omega)]; exact List.getElem_mem _)
    refine ⟨-u, ?_, by omega, by omega⟩
    have := dmul (a := 0 - l.getD k 0) (b := 0 - l.getD n 0) (by grind)
    rw [Rat.intCast_neg, Rat.intCast_neg, ← em, ← eu]
    grind
end W57

set_option linter.all false
set_option maxRecDepth 100000
set_option exponentiation.threshold 20000
/-! WW: columns, some_spot. -/
namespace W57
open VI M57 L57
local macro_rules
  | `(tactic| array_get_dec) => `(tactic| repeat first
  | with_reducible refine sx_seq ?_ | with_reducible refine sx_set ?_ | with_reducible refine sx_ret ?_ | with_reducible refine sx_exp ?_ | with_reducible refine sx_nil ?_ | with_reducible refine sx_ifs ?_ | with_reducible refine sx_setI ?_ | with_reducible refine sx_setF ?_ | with_reducible refine sx_setT ?_
  | ((with_reducible apply s_slot); · rfl) | with_reducible refine s_cst ?_ | with_reducible refine s_nop ?_ | with_reducible refine s_nil ?_ | with_reducible refine s_cons ?_ | with_reducible refine s_idx ?_ | with_reducible refine s_cmp ?_ | with_reducible refine s_chain ?_ | with_reducible refine s_bin ?_ | with_reducible refine s_fld ?_ | with_reducible refine s_call ?_ | with_reducible refine s_blt ?_ | with_reducible refine s_meth ?_ | with_reducible refine s_tup ?_ | with_reducible refine s_lst ?_ | with_reducible refine s_star ?_ | with_reducible refine s_neg ?_ | with_reducible refine s_not ?_ | with_reducible refine s_and ?_ | with_reducible refine s_or ?_ | with_reducible refine s_ite ?_ | with_reducible refine s_isi ?_ | with_reducible refine s_app ?_ | with_reducible refine s_ext ?_ | with_reducible refine s_iseq ?_ | with_reducible refine s_ienum ?_ | with_reducible refine s_izip ?_ | with_reducible refine s_irng ?_ | with_reducible refine s_lrg ?_ | with_reducible refine s_slc ?_ | with_reducible refine s_rev ?_ | with_reducible refine s_add ?_ | with_reducible refine s_sub ?_
  | refine ⟨_, rfl, ?_⟩ | refine ⟨(Nat.le_of_ble_eq_true rfl : List.length _ ≤ 100000), ?_⟩)

theorem rowsOf_ok {n : Nat} {ws : List Row} (h : ∀ w ∈ ws, RowOk n w) : ∀ w ∈ rowsOf n ws, RowOk n w := by
  intro w hw
  rcases List.mem_append.mp hw with q | q
  · exact h w q
  · have : w = restRow n := by simpa using q
    subst this
    refine ⟨by simp [restRow], by show (1 : Int).natAbs ≤ 102; decide, fun f hf => ?_⟩
    have : f = 0 := by simpa [restRow] using (List.mem_replicate.mp hf).2
    rw [this]; decide
section
variable {lf : Nat} (hl : 300000 ≤ lf)
include hl in
theorem e_columns (k : Nat) {ci : Nat → List D → Hp → R D} {env : Env} {h : Hp} {v n : Nat} {ws : List Row} (h1 : getS env 1 = some (rowsD ws)) (h0 : getS env 0 = some (.int (n : Int))) (hv : ∀ d, getS (setS (wipeL env [v]) v d) v = some d) (ok : ∀ w ∈ ws, RowOk n w) (n9 : n ≤ 9) (wl : ws.length ≤ 6) {Q : D → Hp → Prop}
    (q : ∀ ca cr h', Gr h h' → Cols h' ca cr ((rowsOf n ws).map colOf) (n + 1) → Q (.ref ca) h') :
    Sat (ev gg (run gg lf (k + 1)) ci lf (.bin .add (.comp [v] (.iseq (.slot 1)) (.nm v) (.cst (.bl true)) (.call 25 (.cons (.slot v) .nil))) (.lst (.cons (.call 26 (.cons (.slot 0) .nil)) .nil))) env h) Q := by
  refine s_bin ?_
  refine s_compI ?_
  refine s_iseq ?_
  refine s_slot h1 ?_
  refine ⟨a0_tup, ?_⟩
  have lw : (ws.map rowD).length = ws.length := by simp
  refine s_comp (fun i y h' => ∃ u, y = .ref u ∧ h.next < u ∧ h'.get u = some (.lst (intsL (colOf (ws.getD i (0, [])))))) hl (xs := ws.map rowD) (by omega) (fun h' g => has_tup) (fun i y h1 h2 g ⟨u, e1, e2, e3⟩ => ⟨u, e1, e2, g.get e3⟩) (fun i y h1 o l ⟨u, e1, e2, e3⟩ => ⟨u, e1, e2, by rw [Hp.get_set _ _ _ _ l, if_neg (by omega)]; exact e3⟩) (fun i hi => ?_) fun ys h2 g2 t2 ly q2 => ?_
  · have iw : i < ws.length := by omega
    refine ⟨setS (wipeL env [v]) v (rowD ws[i]), by rw [List.getElem_map]; rfl, fun h' g lt => ?_⟩
    refine s_call (s_cons (s_slot (hv _) (s_nil ⟨_, rfl, _, rfl, ?_⟩)))
    refine (r_column k ws[i] h' (by have := (ok _ (List.getElem_mem iw)).len; omega)).imp ?_
    rintro d h3 ⟨u, e1, e2, e3, e4⟩
    refine ⟨e3, u, e1, by omega, ?_⟩
    rw [getD_at iw]
    exact e4
  obtain ⟨rs, ey, rl, rw2⟩ := refs_of q2
  subst ey
  refine s_lst (s_cons (s_call (s_cons (s_slot h0 (s_nil ⟨_, rfl, _, rfl, ?_⟩)))))
  refine (r_rest k n h2 n9).imp ?_
  rintro d h3 ⟨u, rfl, u1, g3, t3⟩
  refine s_nil ⟨_, rfl, _, rfl, Nat.le_of_ble_eq_true rfl, ?_⟩
  have g4 := Gr.push h3 (.lst [.ref u])
  have t4 := get_top h3 (.lst [.ref u])
  generalize h3.push (.lst [.ref u]) = h4 at *
  have e4 : [D.ref u] = refs [u] := rfl
  rw [e4] at t4
  have ll : rs.length = ws.length := by omega
  refine s_addL (g4.get (g3.get t2)) t4 (by simp [refs]; omega) ?_
  have er : refs rs ++ refs [u] = refs (rs ++ [u]) := by simp [refs]
  rw [er]
  have g5 := Gr.push h4 (.lst (refs (rs ++ [u])))
  have t5 := get_top h4 (.lst (refs (rs ++ [u])))
  generalize h4.push (.lst (refs (rs ++ [u]))) = h5 at *
  refine q _ (rs ++ [u]) _ (g2.trans (g3.trans (g4.trans g5))) ⟨t5, by simp [rowsOf, ll], fun i i1 i2 => ?_, fun c hc => ?_, fun c hc => ?_, by simp [rowsOf]; omega⟩
  · rw [List.getElem_map]
    by_cases c : i < ws.length
    · rw [List.getElem_append_left (by omega)]
      obtain ⟨_, e2⟩ := rw2 i (by omega)
      rw [(g3.trans (g4.trans g5)).get e2, getD_at c]
      unfold rowsOf
      rw [List.getElem_append_left c]
    · have hi : i = ws.length := by simp [rowsOf] at i2; omega
      subst hi
      rw [List.getElem_append_right (by omega)]
      have e6 : [u][ws.length - rs.length]'(by simp; omega) = u := by simp
      rw [e6, (g4.trans g5).get t3]
      have e7 : (rowsOf n ws)[ws.length]'(by simp [rowsOf]) = restRow n := by simp [rowsOf]
      rw [e7]
      rfl
  · obtain ⟨w, hw, rfl⟩ := List.mem_map.mp hc
    have := (rowsOf_ok ok w hw).len
    simp [colOf, this]
  · obtain ⟨w, hw, rfl⟩ := List.mem_map.mp hc
    have o := rowsOf_ok ok w hw
    intro m hm
    rcases List.mem_append.mp hm with y | y
    · exact o.b2 m y
    · have : m = w.1 := by simpa using y
      rw [this]; exact o.b1
include hl in
theorem r_spot_of (k : Nat) {h : Hp} {u n : Nat} {l : List Rat} (e : h.get u = some (.lst (frs l))) (ll : l.length = n + 1) (n9 : n + 1 ≤ 9) (c : Cd l) (z : l.getD n 0 < 0) : Sat (run gg lf (k + 5) 29 [.ref u] h) fun d h' => Gr h h' ∧ ∃ m, d = .ref m ∧ h'.get m = some (.lst (frs (spotL n l))) := by
  refine run_of (i := ⟨1, 4, b29⟩) rfl rfl ?_
  show SX (ex gg _ _ lf b29 [some (.ref u), none, none, none] h) _ _
  unfold b29
  array_get_dec
  refine (r_turned hl k e (by omega) (by omega) c.sz).imp ?_
  rintro d h1 ⟨g1, m, rfl, t1⟩
  have nl : (negs l).length = n + 1 := by simp [negs]; exact ll
  have en : l.length - 1 = n := by omega
  rw [en] at t1 ⊢
  have gk : ∀ k, k ≤ n → (negs l).getD k 0 = 0 - l.getD k 0 := fun k hk => by
    rw [getD_at (by omega), getD_at (by omega)]; simp [negs]
  rw [gk n (Nat.le_refl _)]
  refine ⟨_, rfl, ?_⟩
  array_get_dec
  refine s_compI ?_
  array_get_dec
  refine ⟨⟨_, a1_at (seq_of t1)⟩, ?_⟩
  have lt : (frs ((negs l).take n)).length = n := by simp [nl]
  have sz : ∀ k, k ≤ n → Sz 602 (0 - l.getD k 0) := fun k hk => by
    have := c.sz _ (List.getElem_mem (show k < l.length by omega))
    rw [getD_at (by omega)]
    obtain ⟨d, d0, d1, o⟩ := c
    have := (o _ (List.getElem_mem (show k < l.length by omega))).neg
    have e : (0 : Rat) - l[k]'(by omega) = -(l[k]'(by omega)) := by grind
    rw [e]
    exact W57.Ov.sz this d0 (Nat.lt_of_le_of_lt d1 (by decide +kernel)) (by decide +kernel)
  refine s_compP (fun i => fr ((0 - l.getD i 0) / (0 - l.getD n 0))) hl (xs := frs ((negs l).take n)) (by omega) (fun h' g => has_lst (g.get t1)) (fun i hi => ?_) fun h2 g2 t2 => ?_
  · have il : i < n := by omega
    have ei : (frs ((negs l).take n))[i] = fr (0 - l.getD i 0) := by
      rw [← gk i (by omega), getD_at (by omega)]
      simp [frs]
    refine ⟨_, rfl, fun h' g => ?_⟩
    rw [ei]
    array_get_dec
    refine s_of (r_quot hl (k + 1) _ _ h' ((sz i (by omega)).le (by omega)) ((sz n (Nat.le_refl _)).le (by omega)) (by grind)) ?_
    exact ⟨Gr.refl _, rfl⟩
  refine ⟨g1.trans g2, _, rfl, ?_⟩
  rw [t2, lt]
  simp [spotL, frs]
/-- a row that holds nowhere -/
def noRow (n : Nat) : Row := (-1, List.replicate n 0)
theorem no_val {n : Nat} {v : List Rat} : valR (noRow n) v n = -1 := by
  unfold valR noRow
  rw [sm_zero' fun i hi => by rw [getD_at (by simp; exact hi)]; simp]
  show ((-1 : Int) : Rat) + 0 = -1
  simp
  grind
include hl in
theorem r_some_spot (k n : Nat) {h : Hp} {ws : List Row} (ok : ∀ w ∈ ws, RowOk n w) (n4 : n ≤ 4) (wl : ws.length ≤ 6) : Sat (run gg lf (k + 10) 30 [.int (n : Int), rowsD ws] h) fun d h' => Gr h h' ∧ ((∃ u l, d = .tup [.ref u, .non] ∧ h'.get u = some (.lst (frs l)) ∧ l.length ≤ 6 ∧ (∀ q ∈ l, Sz 601 q) ∧ ∀ v, ¬ ∀ w ∈ ws, HoldsAt n w v) ∨ (∃ u v, d = .tup [.non, .ref u] ∧ h'.get u = some (.lst (frs v)) ∧ v.length = n ∧ Cd v ∧ ∀ w ∈ ws, HoldsAt n w v)) := by
  refine run_of (i := ⟨2, 6, b30⟩) rfl rfl ?_
  show SX (ex gg _ _ lf b30 [some (.int (n : Int)), some (rowsD ws), none, none, none, none] h) _ _
  unfold b30
  refine sx_seq (sx_set ?_)
  refine e_columns hl (k + 8) rfl rfl (fun d => rfl) ok (by omega) wl fun ca cr h1 g1 x1 => ?_
  array_get_dec
  refine s_mulL (get_top _ _) (by omega) (by simp; omega) ?_
  rw [rep_ints]
  have g2 := Gr.push h1 (.lst [.int 0])
  have g3 := Gr.push (h1.push (.lst [.int 0])) (.lst (intsL (List.replicate n 0)))
  have t3 := get_top (h1.push (.lst [.int 0])) (.lst (intsL (List.replicate n 0)))
  generalize (h1.push (.lst [.int 0])).push (.lst (intsL (List.replicate n 0))) = h3 at *
  generalize (h1.push (.lst [.int 0])).next = u3 at *
  array_get_dec
  have g4 := Gr.push h3 (.lst [.int (-1)])
  have t4 := get_top h3 (.lst [.int (-1)])
  refine s_addL (g4.get t3) t4 (by simp [intsL]; omega) ?_
  have eg : intsL (List.replicate n 0) ++ [D.int (-1)] = intsL (colOf (noRow n)) := by simp [intsL, colOf, noRow]
  rw [eg]
  have g5 := Gr.push (h3.push (.lst [.int (-1)])) (.lst (intsL (colOf (noRow n))))
  have t5 := get_top (h3.push (.lst [.int (-1)])) (.lst (intsL (colOf (noRow n))))
  have g5' := g2.trans (g3.trans (g4.trans g5))
  generalize (h3.push (.lst [.int (-1)])).push (.lst (intsL (colOf (noRow n)))) = h5 at *
  generalize (h3.push (.lst [.int (-1)])).next = u5 at *
  array_get_dec
  have gl : (colOf (noRow n)).length = n + 1 := by simp [colOf, noRow]
  have x5 : Cols h5 ca cr ((rowsOf n ws).map colOf) (colOf (noRow n)).length := by rw [gl]; exact x1.mono g5'
  have rok := rowsOf_ok ok
  refine (r_parts_for hl k x5 t5 (fun m hm => ?_) (by omega)).imp ?_
  · rcases List.mem_append.mp hm with y | y
    · have : m = 0 := by simpa [noRow] using (List.mem_replicate.mp y).2
      rw [this]; decide
    · have : m = -1 := by simpa [noRow] using y
      rw [this]; decide
  rintro d h6 ⟨g6, u, l, t6, cd, ⟨rfl, p⟩ | ⟨rfl, p⟩⟩
  · have ll : l.length = ws.length + 1 := by have := p.len; simp [rowsOf] at this; exact this
    refine ⟨_, rfl, ?_⟩
    array_get_dec
    refine ⟨fun _ => ?_, fun c => absurd c (by decide)⟩
    array_get_dec
    refine s_slcL t6 ?_
    have ec : cutL (frs l) none (some (-(1 : Int))) = frs (l.take (l.length - 1)) := by
      have := cut_last (frs l)
      show cutL (frs l) none (some (-1)) = _
      rw [this]
      simp [frs, List.map_take]
    rw [ec]
    array_get_dec
    refine ⟨g1.trans (g5'.trans (g6.trans (Gr.push _ _))), .inl ⟨_, l.take (l.length - 1), rfl, get_top _ _, by simp; omega, fun q hq => cd.sz q (List.mem_of_mem_take hq), fun v hv => ?_⟩⟩
    have := parts_holds (fun w hw => (rok w hw).len) (by simp [noRow]) p v fun w hw => by
      rcases List.mem_append.mp hw with y | y
      · exact hv w y
      · have : w = restRow n := by simpa using y
        rw [this]
        unfold HoldsAt
        rw [rest_val]
        decide
    unfold HoldsAt at this
    rw [no_val] at this
    exact absurd this (by decide)
  · have ll : l.length = n + 1 := by have := p.len; omega
    have z : l.getD n 0 < 0 := by
      have := (prices_row (fun w hw => (rok w hw).len) (by simp [noRow]) p).2
      rw [sm_zero' fun i hi => by rw [getD_at (l := (noRow n).2) (by simp [noRow]; exact hi)]; simp [noRow]] at this
      have e : ((noRow n).1 : Rat) = -1 := by simp [noRow]
      rw [e] at this
      grind
    obtain ⟨s1, s2⟩ := spot_at (fun w hw => (rok w hw).len) (by simp [noRow]) p z
    refine ⟨_, rfl, ?_⟩
    array_get_dec
    refine ⟨fun c => absurd c (by decide), fun _ => ?_⟩
    array_get_dec
    refine (r_spot_of hl (k + 4) t6 ll (by omega) cd z).imp ?_
    rintro d h7 ⟨g7, m, rfl, t7⟩
    array_get_dec
    exact ⟨g1.trans (g5'.trans (g6.trans g7)), .inr ⟨_, spotL n l, rfl, t7, by simp [spotL], spot_cd cd ll z, fun w hw => s1 w (List.mem_append_left _ hw)⟩⟩
end
end W57

set_option linter.all false
set_option maxRecDepth 100000
set_option exponentiation.threshold 20000
/-! WX: spot_along; quick_times. -/
namespace W57
open VI M57 L57
local macro_rules
  | `(tactic| array_get_dec) => `(tactic| repeat first
  | with_reducible refine sx_seq ?_ | with_reducible refine sx_set ?_ | with_reducible refine sx_ret ?_ | with_reducible refine sx_exp ?_ | with_reducible refine sx_nil ?_ | with_reducible refine sx_ifs ?_ | with_reducible refine sx_setI ?_ | with_reducible refine sx_setF ?_ | with_reducible refine sx_setT ?_
  | ((with_reducible apply s_slot); · rfl) | with_reducible refine s_cst ?_ | with_reducible refine s_nop ?_ | with_reducible refine s_nil ?_ | with_reducible refine s_cons ?_ | with_reducible refine s_idx ?_ | with_reducible refine s_cmp ?_ | with_reducible refine s_chain ?_ | with_reducible refine s_bin ?_ | with_reducible refine s_fld ?_ | with_reducible refine s_call ?_ | with_reducible refine s_blt ?_ | with_reducible refine s_meth ?_ | with_reducible refine s_tup ?_ | with_reducible refine s_lst ?_ | with_reducible refine s_star ?_ | with_reducible refine s_neg ?_ | with_reducible refine s_not ?_ | with_reducible refine s_and ?_ | with_reducible refine s_or ?_ | with_reducible refine s_ite ?_ | with_reducible refine s_isi ?_ | with_reducible refine s_app ?_ | with_reducible refine s_ext ?_ | with_reducible refine s_iseq ?_ | with_reducible refine s_ienum ?_ | with_reducible refine s_izip ?_ | with_reducible refine s_irng ?_ | with_reducible refine s_lrg ?_ | with_reducible refine s_slc ?_ | with_reducible refine s_rev ?_ | with_reducible refine s_add ?_ | with_reducible refine s_sub ?_
  | refine ⟨_, rfl, ?_⟩ | refine ⟨(Nat.le_of_ble_eq_true rfl : List.length _ ≤ 100000), ?_⟩)

theorem Sz.add {a b : Nat} {p q : Rat} (hp : Sz a p) (hq : Sz b q) : Sz (a + b + 1) (p + q) := by
  have o : Ov ((p.den : Int) * q.den) ((p.num.natAbs * q.den + q.num.natAbs * p.den : Nat) : Int) (p + q) := by
    have n1 : (p.num * (q.den : Int)).natAbs = p.num.natAbs * q.den := by rw [Int.natAbs_mul]; simp
    have n2 : (q.num * (p.den : Int)).natAbs = q.num.natAbs * p.den := by rw [Int.natAbs_mul]; simp
    refine ⟨p.num * q.den + q.num * p.den, ?_, by omega, by omega⟩
    rw [Rat.intCast_mul, Rat.intCast_add, Rat.intCast_mul, Rat.intCast_mul, ← mul_den p, ← mul_den q]; grind
  have dp := Int.mul_pos (den_pos p) (den_pos q)
  obtain ⟨o1, o2⟩ := o.parts (by omega)
  have e1 : (((p.num.natAbs * q.den + q.num.natAbs * p.den : Nat) : Int)).natAbs = p.num.natAbs * q.den + q.num.natAbs * p.den := by omega
  have e2 : ((p.den : Int) * q.den).natAbs = p.den * q.den := by rw [Int.natAbs_mul]; simp
  rw [e1] at o1
  rw [e2] at o2
  have m1 := lt_mul hp.1 hq.2
  have m2 := lt_mul hq.1 hp.2
  have m3 := lt_mul hp.2 hq.2
  have e3 : (2 : Nat) ^ (b + a) = 2 ^ (a + b) := by rw [Nat.add_comm]
  have e4 : (2 : Nat) ^ (a + b + 1) = 2 * 2 ^ (a + b) := by rw [Nat.pow_succ, Nat.mul_comm]
  exact ⟨by omega, by omega⟩
theorem val_along {n : Nat} {w : Row} {s d : List Rat} (t : Rat) : valR w ((List.range n).map fun k => s.getD k 0 + t * d.getD k 0) n = valR w s n + t * valR (0, w.2) d n := by
  unfold valR
  have : (sm n fun u => ((w.2.getD u 0 : Int) : Rat) * ((List.range n).map fun k => s.getD k 0 + t * d.getD k 0).getD u 0) = (sm n fun u => ((w.2.getD u 0 : Int) : Rat) * s.getD u 0) + t * sm n fun u => ((w.2.getD u 0 : Int) : Rat) * d.getD u 0 := by
    rw [← sm_mul, ← sm_add]
    refine sm_congr fun u hu => ?_
    have e : ((List.range n).map fun k => s.getD k 0 + t * d.getD k 0).getD u 0 = s.getD u 0 + t * d.getD u 0 := by
      rw [getD_at (by simp; exact hu)]; simp
    rw [e]; grind
  rw [this]
  show _ = _ + t * (((0 : Int) : Rat) + _)
  have z : ((0 : Int) : Rat) = 0 := rfl
  rw [z]
  grind
section
variable {lf : Nat} (hl : 300000 ≤ lf)
include hl in
theorem r_spot_along (k : Nat) {h : Hp} {n a b : Nat} {w : Row} {s d : List Rat} (ok : RowOk n w) (n4 : n ≤ 4) (ea : h.get a = some (.lst (frs s))) (eb : h.get b = some (.lst (frs d))) (sl : s.length = n) (dl : d.length = n) (cs : Cd s) (cd : Cd d) (fall : valR (0, w.2) d n < 0) :
    Sat (run gg lf (k + 5) 31 [.ref a, .ref b, rowD w] h) fun x h' => Gr h h' ∧ ∃ u v, x = .ref u ∧ h'.get u = some (.lst (frs v)) ∧ v.length = n ∧ (∀ q ∈ v, Sz 4000 q) ∧ (v = s ∧ valR w s n < 0 ∨ ∃ t, 0 ≤ t ∧ v = (List.range n).map (fun k => s.getD k 0 + t * d.getD k 0) ∧ valR w v n < 0) := by
  refine run_of (i := ⟨3, 8, b31⟩) rfl rfl ?_
  show SX (ex gg _ _ lf b31 [some (.ref a), some (.ref b), some (.tup [.int w.1, .tup (intsL w.2)]), none, none, none, none, none] h) _ _
  unfold b31
  have ok0 : RowOk n (0, w.2) := ⟨ok.len, by show (0 : Int).natAbs ≤ 102; decide, ok.b2⟩
  have z1 := val_sz ok0 cd (i := n) (by omega)
  have z2 := val_sz ok cs (i := n) (by omega)
  array_get_dec
  refine (r_value_at hl k (w := (0, w.2)) ok0 eb dl cd (by omega)).imp ?_
  rintro x h1 ⟨rfl, rfl⟩
  array_get_dec
  refine s_of (r_diff hl (k + 1) 0 _ h1 ⟨by decide, by decide⟩ (z1.le (by omega))) ?_
  array_get_dec
  refine (r_value_at hl k ok ea sl cs (by omega)).imp ?_
  rintro x h2 ⟨rfl, rfl⟩
  array_get_dec
  refine s_of (r_less (lf := lf) (k + 3) (valR w s n) 0 h2 (z2.le (by omega)) ⟨by decide, by decide⟩) ?_
  array_get_dec
  refine ⟨fun c => ?_, fun c => ?_⟩
  · array_get_dec
    exact ⟨Gr.refl _, a, s, rfl, ea, sl, fun q hq => (cs.sz q hq).le (by omega), .inl ⟨rfl, by simpa using c⟩⟩
  · have vn : 0 ≤ valR w s n := by
      have : ¬ valR w s n < 0 := by simpa using c
      grind
    generalize hv : valR w s n = va at *
    generalize hf : valR (0, w.2) d n = f at *
    have z3 : Sz 622 (0 - f) := by
      have := (Sz.add (p := 0) (q := -f) (a := 1) (b := 620) ⟨by decide, by decide⟩ ⟨by simpa using z1.1, by simpa using z1.2⟩)
      have e : (0 : Rat) - f = 0 + -f := by grind
      rw [e]; exact this
    have z4 : Sz 622 (va + 1) := Sz.add z2 (q := 1) (b := 1) ⟨by decide, by decide⟩
    have z5 : Sz 1244 ((va + 1) / (0 - f)) := z4.div z3 (by grind)
    array_get_dec
    refine s_of (r_added hl (k + 1) va 1 h2 (z2.le (by omega)) ⟨by decide, by decide⟩) ?_
    array_get_dec
    refine s_of (r_quot hl (k + 1) (va + 1) (0 - f) h2 (z4.le (by omega)) (z3.le (by omega)) (by grind)) ?_
    generalize ht : (va + 1) / (0 - f) = t at *
    have td : t * (0 - f) = va + 1 := by rw [← ht]; exact dmul (by grind)
    have tn : 0 ≤ t := by
      refine nonneg_of_mul (b := 0 - f) (by grind) ?_
      rw [td]; grind
    array_get_dec
    refine s_compI ?_
    array_get_dec
    refine ⟨⟨_, a1_at (seq_of ea)⟩, ⟨_, a1_at (seq_of eb)⟩, ?_⟩
    have ln : (((frs s).zip (frs d)).map fun p : D × D => D.tup [p.1, p.2]).length = n := by simp [sl, dl]
    have si : ∀ i, i < n → Sz 4000 (s.getD i 0 + t * d.getD i 0) ∧ Sz 601 (s.getD i 0) ∧ Sz 601 (d.getD i 0) := fun i hi => by
      have q1 := cs.sz _ (List.getElem_mem (show i < s.length by omega))
      have q2 := cd.sz _ (List.getElem_mem (show i < d.length by omega))
      rw [getD_at (by omega), getD_at (by omega)]
      exact ⟨(q1.add (z5.mul q2)).le (by omega), q1, q2⟩
    refine s_compP (fun i => fr (s.getD i 0 + t * d.getD i 0)) hl (xs := ((frs s).zip (frs d)).map fun p => .tup [p.1, p.2]) (by omega) (fun h' g => has_zip (g.get ea) (g.get eb) (by simp [sl, dl])) (fun i hi => ?_) fun h3 g3 t3 => ?_
    · have i1 : i < s.length := by omega
      have i2 : i < d.length := by omega
      have ei : (((frs s).zip (frs d)).map fun p : D × D => D.tup [p.1, p.2])[i] = .tup [fr s[i], fr d[i]] := by simp
      obtain ⟨_, q1, q2⟩ := si i (by omega)
      rw [getD_at i1] at q1
      rw [getD_at i2] at q2
      refine ⟨_, by rw [ei]; rfl, fun h' g => ?_⟩
      array_get_dec
      refine s_of (r_prod hl (k + 1) t d[i] h' (z5.le (by omega)) (q2.le (by omega))) ?_
      array_get_dec
      refine s_of (r_added hl (k + 1) s[i] (t * d[i]) h' (q1.le (by omega)) ((z5.mul q2).le (by omega))) ?_
      rw [getD_at i1, getD_at i2]
      exact ⟨Gr.refl _, rfl⟩
    refine ⟨g3, _, (List.range n).map (fun k => s.getD k 0 + t * d.getD k 0), rfl, ?_, by simp, fun q hq => ?_, .inr ⟨t, tn, rfl, ?_⟩⟩
    · rw [t3, ln]; simp [frs]
    · obtain ⟨i, hi, rfl⟩ := List.mem_map.mp hq
      exact (si i (List.mem_range.mp hi)).1
    · rw [val_along, hv, hf]
      grind
/-! ### quick_times -/
theorem deq_int (f : Nat) (i j : Int) : deq (f + 1) (.int i) (.int j) = some (i == j) := by unfold deq; rfl
theorem deqL_ints : ∀ (xs ys : List Int) (f : Nat), xs.length = ys.length → xs.length + 2 ≤ f → deqL f (intsL xs) (intsL ys) = some (decide (xs = ys))
  | [], [], f + 1, _, _ => by show deqL (f + 1) [] [] = _; unfold deqL; rfl
  | [], _ :: _, _, e, _ => by simp at e
  | _ :: _, [], _, e, _ => by simp at e
  | x :: xs, y :: ys, f + 2, e, hf => by
    have ih := deqL_ints xs ys (f + 1) (by simpa using e) (by simp at hf; omega)
    show deqL (f + 2) (.int x :: intsL xs) (.int y :: intsL ys) = _
    unfold deqL
    show (match deq (f + 1) (.int x) (.int y), deqL (f + 1) (intsL xs) (intsL ys) with
      | some a, some b => some (a && b)
      | _, _ => none) = _
    rw [ih, deq_int]
    by_cases c : x = y <;> by_cases c2 : xs = ys <;> simp [c, c2]
  | [], [], 0, _, h => by simp at h
  | _ :: _, _ :: _, 0, _, h => by simp at h
  | _ :: _, _ :: _, 1, _, h => by simp at h
theorem deq_rows (xs ys : List Int) (h : xs.length = ys.length) (h9 : xs.length ≤ 9) : deq 64 (.tup (intsL xs)) (.tup (intsL ys)) = some (decide (xs = ys)) := by
  unfold deq
  exact deqL_ints xs ys 63 h (by omega)
theorem has_enumT {xs : List D} {h : Hp} : Has (.tup [.int 2, .tup xs]) (enumL xs) h := by
  have a1 : ∀ i, i ≤ xs.length → atS (.tup xs) i h = some (nth xs i) := fun i hi => by
    show (bif Nat.ble i xs.length then some (nth xs i) else none) = _
    rw [Nat.ble_eq_true_of_le hi]; rfl
  have ln : (enumL xs).length = xs.length := by simp [enumL]
  refine ⟨fun i hi => ?_, ?_⟩
  · have hi' : i < xs.length := by rw [ln] at hi; exact hi
    show (match atS (.tup xs) i h with | some (some x) => some (some (D.tup [.int i, x])) | r => r) = _
    rw [a1 i (by omega), nth_some hi']
    simp [enumL, List.getD, hi']
  · rw [ln]
    show (match atS (.tup xs) xs.length h with | some (some x) => some (some (D.tup [.int (xs.length : Nat), x])) | r => r) = _
    rw [a1 _ (Nat.le_refl _), nth_none (Nat.le_refl _)]
def Follows (n : Nat) (ws : List Row) (w : Row) : Prop := ∀ v : List Rat, (∀ u ∈ ws, HoldsAt n u v) → HoldsAt n w v
include hl in
theorem r_quick (k n : Nat) {h : Hp} {ws : List Row} {w : Row} (ok : ∀ w ∈ ws, RowOk n w) (okw : RowOk n w) (n4 : n ≤ 4) (wl : ws.length ≤ 6) (w0 : 0 < ws.length) : Sat (run gg lf (k + 1) 32 [rowsD ws, rowD w] h) fun d h' => Gr h h' ∧ (d = .non ∨ (∃ a b, d = .tup [a, b]) ∧ Follows n ws w) := by
  refine run_of (i := ⟨2, 6, b32⟩) rfl rfl ?_
  show SX (ex gg _ _ lf b32 [some (.tup (ws.map rowD)), some (.tup [.int w.1, .tup (intsL w.2)]), none, none, none, none] h) _ _
  unfold b32
  have lw : (ws.map rowD).length = ws.length := by simp
  have li : (intsL w.2).length = n := by simp [intsL]; exact okw.len
  array_get_dec
  refine s_compI ?_
  array_get_dec
  refine ⟨a0_tup, ?_⟩
  refine s_compP (fun i => .bl (w.2.getD i 0 == 0)) hl (xs := intsL w.2) (by omega) (fun h' g => has_tup) (fun i hi => ?_) fun h1 g1 t1 => ?_
  · have iw : i < w.2.length := by simpa [intsL] using hi
    have e : (intsL w.2)[i] = .int w.2[i] := by simp [intsL]
    refine ⟨_, rfl, fun h' g => ?_⟩
    rw [e]
    array_get_dec
    refine ⟨Gr.refl _, ?_⟩
    rw [getD_at iw]
  rw [li] at t1
  array_get_dec
  refine s_all (p := fun i => w.2.getD i 0 == 0) t1 ?_
  have rest : SX (ex gg (run gg lf k) (runAt gg lf k) lf (.seq (.fr (.tp 2 (.cons (.nm 2) (.cons (.nm 3) .nil))) (.ienum (.slot 0)) (.seq (.ifs (.and (.cmp .eq (.idx (.slot 3) (.cst (.int 1))) (.idx (.slot 1) (.cst (.int 1)))) (.cmp .le (.idx (.slot 3) (.cst (.int 0))) (.idx (.slot 1) (.cst (.int 0))))) (.seq (.ret (.tup (.cons (.cst (.int 1)) (.cons (.blt 8 (.cons (.comp [5] (.irng (.cons (.blt 0 (.cons (.slot 0) .nil)) .nil)) (.nm 5) (.cst (.bl true)) (.blt 2 (.cons (.cmp .eq (.slot 5) (.slot 2)) .nil))) .nil)) .nil)))) .nil) .nil) .nil)) (.seq (.ret (.cst (.non))) .nil)) [some (.tup (ws.map rowD)), some (.tup [.int w.1, .tup (intsL w.2)]), none, none, none, none] h1) (fun _ h' => Gr h h' ∧ (D.non = .non ∨ (∃ a b, D.non = .tup [a, b]) ∧ Follows n ws w)) (fun d h' => Gr h h' ∧ (d = .non ∨ (∃ a b, d = .tup [a, b]) ∧ Follows n ws w)) := by
    refine sx_seq (sx_frI ?_)
    array_get_dec
    refine ⟨a0_tup, ?_⟩
    refine s_fr (xs := enumL (ws.map rowD)) (fun i σ h' => h' = h1 ∧ ∃ o2 o3, σ = [some (.tup (ws.map rowD)), some (.tup [.int w.1, .tup (intsL w.2)]), o2, o3, none, none]) hl (by simp [enumL]; omega) ?_ ?_ ⟨rfl, _, _, rfl⟩
    · rintro i hi σ h2 ⟨rfl, o2, o3, rfl⟩
      have iw : i < ws.length := by simpa [enumL] using hi
      have oki := ok _ (List.getElem_mem iw)
      have ei : (enumL (ws.map rowD))[i] = .tup [.int (i : Nat), .tup [.int ws[i].1, .tup (intsL ws[i].2)]] := by simp [enumL, List.getD, iw, rowD]
      refine ⟨has_enumT.1 i hi, [some (.tup (ws.map rowD)), some (.tup [.int w.1, .tup (intsL w.2)]), some (.int (i : Nat)), some (.tup [.int ws[i].1, .tup (intsL ws[i].2)]), none, none], by rw [ei]; rfl, ?_⟩
      refine sx_seq (sx_ifs (s_and (s_cmp (s_idx (s_slot rfl (s_cst ⟨_, rfl, s_idx (s_slot rfl (s_cst ⟨_, rfl, _, deq_rows _ _ (by rw [oki.len, okw.len]) (by rw [oki.len]; omega), ?_⟩))⟩))))))
      array_get_dec
      refine ⟨fun c => ?_, fun c => ?_⟩
      · array_get_dec
        refine ⟨fun z => absurd z (by decide), fun _ => ?_⟩
        array_get_dec
        exact ⟨rfl, _, _, rfl⟩
      · array_get_dec
        have c1 : ws[i].2 = w.2 := by simpa using c
        refine ⟨fun c => ?_, fun c => ?_⟩
        · have c2 : ws[i].1 ≤ w.1 := by simpa using c
          array_get_dec
          refine s_compI ?_
          array_get_dec
          refine s_len rfl ?_
          array_get_dec
          rw [lw]
          refine ⟨_, _, rfl, rng_lt _ (by omega), ?_⟩
          refine s_compP (fun j => .int (if j = i then 1 else 0)) hl (xs := rngL 0 ws.length) (by rw [rngL_len]; omega) (fun h' g => has_rng) (fun j hj => ?_) fun h3 g3 t3 => ?_
          · refine ⟨_, rfl, fun h' g => ?_⟩
            rw [rngL_get]
            array_get_dec
            refine s_intB ?_
            refine ⟨Gr.refl _, ?_⟩
            by_cases e : j = i
            · subst e; simp
            · have : ¬ (j : Int) = (i : Int) := by omega
              simp [e, this]
          array_get_dec
          refine s_tupl t3 ?_
          array_get_dec
          refine ⟨g1.trans g3, .inr ⟨⟨_, _, rfl⟩, fun v hv => ?_⟩⟩
          have := hv _ (List.getElem_mem iw)
          unfold HoldsAt valR at this ⊢
          rw [c1] at this
          have : ((ws[i].1 : Int) : Rat) ≤ ((w.1 : Int) : Rat) := by exact_mod_cast c2
          grind
        · array_get_dec
          exact ⟨rfl, _, _, rfl⟩
    · rintro σ h2 ⟨rfl, o2, o3, rfl⟩
      refine ⟨has_enumT.2, ?_⟩
      array_get_dec
      exact ⟨g1, .inl rfl⟩
  refine ⟨_, rfl, fun c => ?_, fun c => ?_⟩
  · array_get_dec
    refine ⟨fun z => absurd z (by decide), fun _ => ?_⟩
    refine sx_nil ?_
    exact rest
  · array_get_dec
    refine ⟨fun c2 => ?_, fun c2 => ?_⟩
    · array_get_dec
      refine s_len rfl ?_
      rw [lw]
      obtain ⟨m, hm⟩ : ∃ m, ws.length = m + 1 := ⟨ws.length - 1, by omega⟩
      rw [hm]
      refine s_mulT (by omega) (by simp) ?_
      array_get_dec
      refine ⟨g1, .inr ⟨⟨_, _, rfl⟩, fun v hv => ?_⟩⟩
      have c3 : (0 : Int) ≤ w.1 := by simpa using c2
      have all := (allB_iff _).mp c
      unfold HoldsAt valR
      rw [sm_zero' fun u hu => by
        have : (w.2.getD u 0 == 0) = true := all _ (List.mem_map.mpr ⟨u, List.mem_range.mpr hu, rfl⟩)
        have : w.2.getD u 0 = 0 := by simpa using this
        rw [this]; simp]
      have : ((0 : Int) : Rat) ≤ ((w.1 : Int) : Rat) := by exact_mod_cast c3
      have z : ((0 : Int) : Rat) = 0 := rfl
      rw [z] at this
      grind
    · refine sx_nil ?_
      exact rest
end
end W57

set_option linter.all false
set_option maxRecDepth 100000
set_option exponentiation.threshold 20000
/-! WY: told_following, follows, holds_somewhere. -/
namespace W57
open VI M57 L57
local macro_rules
  | `(tactic| array_get_dec) => `(tactic| repeat first
  | with_reducible refine sx_seq ?_ | with_reducible refine sx_set ?_ | with_reducible refine sx_ret ?_ | with_reducible refine sx_exp ?_ | with_reducible refine sx_nil ?_ | with_reducible refine sx_ifs ?_ | with_reducible refine sx_setI ?_ | with_reducible refine sx_setF ?_ | with_reducible refine sx_setT ?_
  | ((with_reducible apply s_slot); · rfl) | with_reducible refine s_cst ?_ | with_reducible refine s_nop ?_ | with_reducible refine s_nil ?_ | with_reducible refine s_cons ?_ | with_reducible refine s_idx ?_ | with_reducible refine s_cmp ?_ | with_reducible refine s_chain ?_ | with_reducible refine s_bin ?_ | with_reducible refine s_fld ?_ | with_reducible refine s_call ?_ | with_reducible refine s_blt ?_ | with_reducible refine s_meth ?_ | with_reducible refine s_tup ?_ | with_reducible refine s_lst ?_ | with_reducible refine s_star ?_ | with_reducible refine s_neg ?_ | with_reducible refine s_not ?_ | with_reducible refine s_and ?_ | with_reducible refine s_or ?_ | with_reducible refine s_ite ?_ | with_reducible refine s_isi ?_ | with_reducible refine s_app ?_ | with_reducible refine s_ext ?_ | with_reducible refine s_iseq ?_ | with_reducible refine s_ienum ?_ | with_reducible refine s_izip ?_ | with_reducible refine s_irng ?_ | with_reducible refine s_lrg ?_ | with_reducible refine s_slc ?_ | with_reducible refine s_rev ?_ | with_reducible refine s_add ?_ | with_reducible refine s_sub ?_
  | refine ⟨_, rfl, ?_⟩ | refine ⟨(Nat.le_of_ble_eq_true rfl : List.length _ ≤ 100000), ?_⟩)

def sSpot : List Nat := [115, 112, 111, 116]
/-- what follows tells -/
def Told (n : Nat) (ws : List Row) (w : Row) (d : D) : Prop :=
  (∃ v, d = .tup [.str sSpot, .tup (frs v)] ∧ v.length = n ∧ (∀ q ∈ v, Sz 4000 q) ∧ (∀ u ∈ ws, HoldsAt n u v) ∧ ¬ HoldsAt n w v) ∨ (∃ s xs, d = .tup (.str s :: xs) ∧ s ≠ sSpot ∧ Follows n ws w)
def dirL (n : Nat) (l : List Rat) : List Rat := (negs l).take n
theorem dir_at {n k : Nat} {l : List Rat} (ll : l.length = n + 1) (hk : k < n) : (dirL n l).getD k 0 = 0 - l.getD k 0 := by
  have nl : (negs l).length = n + 1 := by simp [negs]; exact ll
  rw [getD_at (by simp [dirL, nl]; omega), getD_at (by omega)]
  simp [dirL, negs]
theorem dir_val {n : Nat} {l : List Rat} {fs : List Int} (ll : l.length = n + 1) : valR (0, fs) (dirL n l) n = -(sm n fun k => l.getD k 0 * ((fs.getD k 0 : Int) : Rat)) := by
  unfold valR
  have : -(sm n fun k => l.getD k 0 * ((fs.getD k 0 : Int) : Rat)) = sm n fun k => (-1 : Rat) * (l.getD k 0 * ((fs.getD k 0 : Int) : Rat)) := by rw [sm_mul]; grind
  rw [this]
  have e : (sm n fun u => (((0, fs) : Row).2.getD u 0 : Rat) * (dirL n l).getD u 0) = sm n fun k => (-1 : Rat) * (l.getD k 0 * ((fs.getD k 0 : Int) : Rat)) := sm_congr fun k hk => by rw [dir_at ll hk]; grind
  rw [e]
  show ((0 : Int) : Rat) + _ = _
  have z : ((0 : Int) : Rat) = 0 := rfl
  rw [z]; grind
theorem dir_cd {n : Nat} {l : List Rat} (c : Cd l) : Cd (dirL n l) := by
  obtain ⟨d, d0, d1, o⟩ := c
  refine ⟨d, d0, d1, fun q hq => ?_⟩
  obtain ⟨p, hp, rfl⟩ := List.mem_map.mp (List.mem_of_mem_take hq)
  have := (o p hp).neg
  have e : (0 : Rat) - p = -p := by grind
  rw [e]; exact this
section
variable {lf : Nat} (hl : 300000 ≤ lf)
include hl in
theorem r_told (k n : Nat) {h : Hp} {ws : List Row} {w : Row} (ok : ∀ w ∈ ws, RowOk n w) (okw : RowOk n w) (n4 : n ≤ 4) (wl : ws.length ≤ 6) (w0 : 0 < ws.length) : Sat (run gg lf (k + 11) 33 [.int (n : Int), rowsD ws, rowD w] h) fun d h' => Gr h h' ∧ Told n ws w d := by
  refine run_of (i := ⟨3, 12, b33⟩) rfl rfl ?_
  show SX (ex gg _ _ lf b33 [some (.int (n : Int)), some (rowsD ws), some (rowD w), none, none, none, none, none, none, none, none, none] h) _ _
  unfold b33
  array_get_dec
  refine (r_quick hl (k + 9) n ok okw n4 wl w0).imp ?_
  rintro d h1 ⟨g1, rfl | ⟨⟨a, b, rfl⟩, fo⟩⟩
  rotate_left
  · array_get_dec
    refine ⟨fun _ => ?_, fun c => absurd (show true = false from c) (by decide)⟩
    array_get_dec
    exact ⟨g1, .inr ⟨_, _, rfl, by decide, fo⟩⟩
  array_get_dec
  refine ⟨fun c => absurd (show false = true from c) (by decide), fun _ => ?_⟩
  refine sx_nil ?_
  refine sx_seq (sx_set ?_)
  refine e_columns hl (k + 9) rfl rfl (fun d => rfl) ok (by omega) wl fun ca cr h2 g2 x2 => ?_
  array_get_dec
  refine (r_column (lf := lf) (k + 9) w h2 (by rw [okw.len]; omega)).imp ?_
  rintro d h3 ⟨ga, rfl, _, g3, t3⟩
  array_get_dec
  have gl : (colOf w).length = n + 1 := by simp [colOf, okw.len]
  have x3 : Cols h3 ca cr ((rowsOf n ws).map colOf) (colOf w).length := by rw [gl]; exact x2.mono g3
  have rok := rowsOf_ok ok
  refine (r_parts_for hl (k + 1) x3 t3 (fun m hm => ?_) (by omega)).imp ?_
  · rcases List.mem_append.mp hm with y | y
    · exact okw.b2 m y
    · have : m = w.1 := by simpa using y
      rw [this]; exact okw.b1
  rintro d h4 ⟨g4, u, l, t4, cd, ⟨rfl, p⟩ | ⟨rfl, p⟩⟩
  · have ll : l.length = ws.length + 1 := by have := p.len; simp [rowsOf] at this; exact this
    refine ⟨_, rfl, ?_⟩
    array_get_dec
    refine ⟨fun _ => ?_, fun c => absurd c (by decide)⟩
    array_get_dec
    refine s_slcL t4 ?_
    have ec : cutL (frs l) none (some (-(1 : Int))) = frs (l.take (l.length - 1)) := by
      have := cut_last (frs l)
      show cutL (frs l) none (some (-1)) = _
      rw [this]
      simp [frs, List.map_take]
    rw [ec]
    array_get_dec
    refine (r_whole hl (k + 8) (get_top _ _) (by simp; omega) (fun q hq => cd.sz q (List.mem_of_mem_take hq))).imp ?_
    rintro d h5 ⟨g5, b, xs, rfl⟩
    array_get_dec
    refine ⟨g1.trans (g2.trans (g3.trans (g4.trans ((Gr.push _ _).trans g5)))), .inr ⟨_, _, rfl, by decide, fun v hv => ?_⟩⟩
    exact parts_holds (fun w hw => (rok w hw).len) okw.len p v fun w hw => by
      rcases List.mem_append.mp hw with y | y
      · exact hv w y
      · have : w = restRow n := by simpa using y
        rw [this]
        unfold HoldsAt
        rw [rest_val]
        decide
  have ll : l.length = n + 1 := by have := p.len; omega
  refine ⟨_, rfl, ?_⟩
  array_get_dec
  refine ⟨fun c => absurd c (by decide), fun _ => ?_⟩
  array_get_dec
  refine (r_some_spot hl k n ok n4 wl).imp ?_
  rintro d h5 ⟨g5, ⟨u2, l2, rfl, t5, l2l, sz2, no⟩ | ⟨u2, s, rfl, t5, sl, scd, sh⟩⟩
  · refine ⟨_, rfl, ?_⟩
    array_get_dec
    refine ⟨fun _ => ?_, fun c => absurd (show true = false from c) (by decide)⟩
    array_get_dec
    refine (r_whole hl (k + 8) t5 (by omega) sz2).imp ?_
    rintro d h6 ⟨g6, b, xs, rfl⟩
    array_get_dec
    exact ⟨g1.trans (g2.trans (g3.trans (g4.trans (g5.trans g6)))), .inr ⟨_, _, rfl, by decide, fun v hv => absurd hv (no v)⟩⟩
  refine ⟨_, rfl, ?_⟩
  array_get_dec
  refine ⟨fun c => absurd (show false = true from c) (by decide), fun _ => ?_⟩
  array_get_dec
  refine (r_turned hl (k + 6) (g5.get t4) (by omega) (by omega) cd.sz).imp ?_
  rintro d h6 ⟨g6, u6, rfl, t6⟩
  have nl : (negs l).length = n + 1 := by simp [negs]; exact ll
  have en : l.length - 1 = n := by omega
  rw [en] at t6 ⊢
  have gn : (negs l).getD n 0 = 0 - l.getD n 0 := by
    rw [getD_at (by omega), getD_at (by omega)]; simp [negs]
  rw [gn]
  have gA := g1.trans (g2.trans (g3.trans (g4.trans (g5.trans g6))))
  have sz : ∀ k, k ≤ n → Sz 602 (0 - l.getD k 0) := fun k hk => by
    rw [getD_at (by omega)]
    obtain ⟨d, d0, d1, o⟩ := cd
    have := (o _ (List.getElem_mem (show k < l.length by omega))).neg
    have e : (0 : Rat) - l[k]'(by omega) = -(l[k]'(by omega)) := by grind
    rw [e]
    exact W57.Ov.sz this d0 (Nat.lt_of_le_of_lt d1 (by decide +kernel)) (by decide +kernel)
  refine ⟨_, rfl, ?_⟩
  array_get_dec
  refine s_of (r_less (lf := lf) (k + 9) 0 (0 - l.getD n 0) h6 ⟨by decide, by decide⟩ ((sz n (Nat.le_refl _)).le (by omega))) ?_
  array_get_dec
  refine ⟨fun c => ?_, fun c => ?_⟩
  · have z : l.getD n 0 < 0 := by
      have : 0 < 0 - l.getD n 0 := by simpa using c
      grind
    array_get_dec
    refine s_compI ?_
    array_get_dec
    refine ⟨⟨_, a1_at (seq_of t6)⟩, ?_⟩
    have lt : (frs ((negs l).take n)).length = n := by simp [nl]
    refine s_compP (fun i => fr ((0 - l.getD i 0) / (0 - l.getD n 0))) hl (xs := frs ((negs l).take n)) (by omega) (fun h' g => has_lst (g.get t6)) (fun i hi => ?_) fun h7 g7 t7 => ?_
    · have il : i < n := by omega
      have ei : (frs ((negs l).take n))[i] = fr (0 - l.getD i 0) := by
        rw [← dir_at ll il]
        have : dirL n l = (negs l).take n := rfl
        rw [this, getD_at (by simp [nl]; omega)]
        simp [frs]
      refine ⟨_, rfl, fun h' g => ?_⟩
      rw [ei]
      array_get_dec
      refine s_of (r_quot hl (k + 7) _ _ h' ((sz i (by omega)).le (by omega)) ((sz n (Nat.le_refl _)).le (by omega)) (by grind)) ?_
      exact ⟨Gr.refl _, rfl⟩
    rw [lt] at t7
    array_get_dec
    refine s_tupl t7 ?_
    array_get_dec
    obtain ⟨s1, s2⟩ := spot_at (fun w hw => (rok w hw).len) okw.len p z
    have scd2 := spot_cd cd ll z
    refine ⟨gA.trans g7, .inl ⟨spotL n l, ?_, by simp [spotL], fun q hq => (scd2.sz q hq).le (by omega), fun u hu => s1 u (List.mem_append_left _ hu), s2⟩⟩
    simp [spotL, frs, sSpot]
  · obtain ⟨p1, p2⟩ := prices_row (fun w hw => (rok w hw).len) okw.len p
    have z0 : l.getD n 0 = 0 := by
      have a1 : ¬ 0 < 0 - l.getD n 0 := by simpa using c
      have a2 := p1 (restRow n) (List.mem_append_right _ (by simp))
      rw [sm_zero' fun i hi => by rw [getD_at (l := (restRow n).2) (by simp [restRow]; exact hi)]; simp [restRow]] at a2
      have e : ((restRow n).1 : Rat) = 1 := rfl
      rw [e] at a2
      grind
    have fall : valR (0, w.2) (dirL n l) n < 0 := by
      rw [dir_val ll]
      rw [z0] at p2
      grind
    have dl : (dirL n l).length = n := by simp [dirL, nl]
    array_get_dec
    refine (r_spot_along hl (k + 5) okw n4 (g6.get t5) t6 sl dl scd (dir_cd cd) fall).imp ?_
    rintro d h7 ⟨g7, u7, v, rfl, t7, vl, vsz, hv⟩
    array_get_dec
    refine s_tupl t7 ?_
    array_get_dec
    refine ⟨gA.trans g7, .inl ⟨v, rfl, vl, vsz, ?_⟩⟩
    rcases hv with ⟨rfl, neg⟩ | ⟨t, tn, rfl, neg⟩
    · exact ⟨sh, by unfold HoldsAt; grind⟩
    · refine ⟨fun u hu => ?_, by unfold HoldsAt; grind⟩
      unfold HoldsAt
      rw [val_along]
      have a1 := sh u hu
      have a2 := p1 u (List.mem_append_left _ hu)
      rw [z0] at a2
      have a3 : 0 ≤ valR (0, u.2) (dirL n l) n := by rw [dir_val ll]; grind
      unfold HoldsAt at a1
      have a4 := Rat.mul_nonneg tn a3
      show 0 ≤ valR u s n + t * valR (0, u.2) (dirL n l) n
      generalize valR u s n = X at *; generalize t * valR (0, u.2) (dirL n l) n = Y at *
      grind
include hl in
theorem r_follows (k n : Nat) {h : Hp} {ws : List Row} {w : Row} (ok : ∀ w ∈ ws, RowOk n w) (okw : RowOk n w) (n4 : n ≤ 4) (wl : ws.length ≤ 6) (w0 : 0 < ws.length) : Sat (run gg lf (k + 12) 34 [.int (n : Int), rowsD ws, rowD w] h) fun d h' => Gr h h' ∧ Told n ws w d := by
  refine run_of (i := ⟨3, 3, b34⟩) rfl rfl ?_
  show SX (ex gg _ _ lf b34 [some (.int (n : Int)), some (rowsD ws), some (rowD w)] h) _ _
  unfold b34
  array_get_dec
  refine (r_check_following hl (k + 7) n ws w h (by omega) (fun w hw => (ok w hw).len) (by omega) okw.len).imp fun d h1 g1 => ?_
  array_get_dec
  refine (r_told hl k n ok okw n4 wl w0).imp ?_
  rintro d h2 ⟨g2, t⟩
  exact ⟨g1.trans g2, t⟩
include hl in
theorem r_holds (k n : Nat) {h : Hp} {ws : List Row} (ok : ∀ w ∈ ws, RowOk n w) (n4 : n ≤ 4) (wl : ws.length ≤ 6) : Sat (run gg lf (k + 11) 35 [.int (n : Int), rowsD ws] h) fun d h' => Gr h h' ∧ (d = .non ∨ ∃ v, d = .tup (frs v) ∧ v.length = n ∧ (∀ q ∈ v, Sz 4000 q) ∧ ∀ u ∈ ws, HoldsAt n u v) := by
  refine run_of (i := ⟨2, 4, b35⟩) rfl rfl ?_
  show SX (ex gg _ _ lf b35 [some (.int (n : Int)), some (rowsD ws), none, none] h) _ _
  unfold b35
  array_get_dec
  refine (r_check_rows hl (k + 7) n ws h (by omega) (fun w hw => (ok w hw).len) (by omega)).imp fun d h1 g1 => ?_
  array_get_dec
  refine (r_some_spot hl k n ok n4 wl).imp ?_
  rintro d h2 ⟨g2, ⟨u2, l2, rfl, t5, l2l, sz2, no⟩ | ⟨u2, s, rfl, t5, sl, scd, sh⟩⟩
  · refine ⟨_, rfl, ?_⟩
    array_get_dec
    refine ⟨fun _ => ?_, fun c => absurd (show true = false from c) (by decide)⟩
    array_get_dec
    exact ⟨g1.trans g2, .inl rfl⟩
  · refine ⟨_, rfl, ?_⟩
    array_get_dec
    refine ⟨fun c => absurd (show false = true from c) (by decide), fun _ => ?_⟩
    array_get_dec
    refine s_tupl t5 ?_
    exact ⟨g1.trans g2, .inr ⟨s, rfl, sl, fun q hq => (scd.sz q hq).le (by omega), sh⟩⟩
end
end W57

set_option linter.all false
set_option maxRecDepth 100000
set_option exponentiation.threshold 20000
/-! XA: the law's pot, takes, rows. -/
namespace W57
open VI M57 L57
local macro_rules
  | `(tactic| array_get_dec) => `(tactic| repeat first
  | with_reducible refine sx_seq ?_ | with_reducible refine sx_set ?_ | with_reducible refine sx_ret ?_ | with_reducible refine sx_exp ?_ | with_reducible refine sx_nil ?_ | with_reducible refine sx_ifs ?_ | with_reducible refine sx_setI ?_ | with_reducible refine sx_setF ?_ | with_reducible refine sx_setT ?_
  | ((with_reducible apply s_slot); · rfl) | with_reducible refine s_cst ?_ | with_reducible refine s_nop ?_ | with_reducible refine s_nil ?_ | with_reducible refine s_cons ?_ | with_reducible refine s_idx ?_ | with_reducible refine s_cmp ?_ | with_reducible refine s_chain ?_ | with_reducible refine s_bin ?_ | with_reducible refine s_fld ?_ | with_reducible refine s_call ?_ | with_reducible refine s_blt ?_ | with_reducible refine s_meth ?_ | with_reducible refine s_tup ?_ | with_reducible refine s_lst ?_ | with_reducible refine s_star ?_ | with_reducible refine s_neg ?_ | with_reducible refine s_not ?_ | with_reducible refine s_and ?_ | with_reducible refine s_or ?_ | with_reducible refine s_ite ?_ | with_reducible refine s_isi ?_ | with_reducible refine s_app ?_ | with_reducible refine s_ext ?_ | with_reducible refine s_iseq ?_ | with_reducible refine s_ienum ?_ | with_reducible refine s_izip ?_ | with_reducible refine s_irng ?_ | with_reducible refine s_lrg ?_ | with_reducible refine s_slc ?_ | with_reducible refine s_rev ?_ | with_reducible refine s_add ?_ | with_reducible refine s_sub ?_
  | refine ⟨_, rfl, ?_⟩ | refine ⟨(Nat.le_of_ble_eq_true rfl : List.length _ ≤ 100000), ?_⟩)

structure PotV (a b m : Int) (c : Nat) : Prop where
  a0 : 0 ≤ a
  a1 : a.natAbs < 2 ^ 1000
  b0 : 0 ≤ b
  b1 : b < 2 ^ 61
  m0 : 0 ≤ m
  m1 : m ≤ c
def Pot (h : Hp) (n c : Nat) : Prop := ∃ a b m : Int, h.get n = some (.lst [.int a, .int b, .int m]) ∧ PotV a b m c
theorem Pot.gr {h h' : Hp} {n c : Nat} (p : Pot h n c) (g : Gr h h') : Pot h' n c := by
  obtain ⟨a, b, m, e, v⟩ := p
  exact ⟨a, b, m, g.get e, v⟩
theorem Pot.lt {h : Hp} {n c : Nat} (p : Pot h n c) : n < h.next := by
  obtain ⟨a, b, m, e, v⟩ := p
  exact Hp.lt_of_get e
theorem Pot.up {h : Hp} {n c c' : Nat} (p : Pot h n c) (hc : c ≤ c') : Pot h n c' := by
  obtain ⟨a, b, m, e, v⟩ := p
  exact ⟨a, b, m, e, { v with m1 := by have := v.m1; omega }⟩
section
variable {h : Hp} {Q : D → Hp → Prop}
theorem s_pow {i : Int} {k : Nat} (hk : k ≤ 1000) (hb : (bits i + 1) * k < 1000000) (q : Q (.int (i ^ k)) h) : Sat (bin2 .pow (.int i) (.int (k : Int)) h) Q := by
  refine ⟨_, _, ?_, q⟩
  show (bif Nat.ble k 1000 && Nat.blt ((bits i + 1) * k) 1000000 then R.ok (D.int (i ^ k)) h else .bad) = _
  have : Nat.blt ((bits i + 1) * k) 1000000 = true := by simpa [Nat.blt_eq] using hb
  rw [Nat.ble_eq_true_of_le hk, this]
  rfl
theorem ints_some : ∀ l : List Int, ints? (intsL l) = some l
  | [] => rfl
  | i :: l => by
    show (match ints? (intsL l) with | some l => some (i :: l) | none => none) = _
    rw [ints_some l]
theorem s_sum {n : Nat} {l : List Int} (e : h.get n = some (.lst (intsL l))) (q : Q (.int (sumI l)) h) : Sat (blt1 7 [.ref n] h) Q := by
  refine ⟨_, _, ?_, q⟩
  show (match seqOf h n with
    | some l => match ints? l with
      | some is => R.ok (D.int (sumI is)) h
      | none => .bad
    | none => .bad) = _
  rw [seq_of e]
  show (match ints? (intsL l) with
      | some is => R.ok (D.int (sumI is)) h
      | none => .bad) = _
  rw [ints_some]
theorem s_abs {i : Int} (q : Q (.int (if i < 0 then -i else i)) h) : Sat (blt1 1 [.int i] h) Q := ⟨_, _, rfl, q⟩
theorem idx_seq {h : Hp} {n : Nat} {xs : List D} (e : seqOf h n = some xs) {i : Nat} (hi : i < xs.length) : idx2 (.ref n) (.int (i : Int)) h = some xs[i] := by
  show (match seqOf h n with
    | some xs => match place xs.length (i : Int) with
      | some k => nth xs k
      | none => none
    | none => none) = _
  rw [e]
  show (match place xs.length (i : Int) with
      | some k => nth xs k
      | none => none) = _
  rw [place_lt hi]
  exact nth_some hi
theorem s_slcS {n : Nat} {xs : List D} {l u : Option Int} (e : seqOf h n = some xs) (q : Q (.ref h.next) (h.push (.lst (cutL xs l u)))) : Sat (slc3 (.ref n) l u h) Q := by
  refine ⟨_, _, ?_, q⟩
  show (match seqOf h n with
    | some xs => R.ok (D.ref h.next) (h.push (.lst (cutL xs l u)))
    | none => .bad) = _
  rw [e]
end
theorem cut_ints (l : List Int) (a b : Option Int) : cutL (intsL l) a b = intsL (cutL l a b) := by
  unfold cutL intsL
  simp [List.map_take, List.map_drop]
theorem emod_lt2 (x : Int) {m : Int} {k : Nat} (m0 : 0 < m) (mk : m ≤ 2 ^ k) : 0 ≤ x % m ∧ x % m < 2 ^ k := by
  have h1 := Int.emod_nonneg x (show m ≠ 0 by omega)
  have h2 := Int.emod_lt_of_pos x m0
  exact ⟨h1, by omega⟩
theorem s_mulB {h : Hp} {Q : D → Hp → Prop} {A : Int} {b : Bool} (a0 : 0 ≤ A) (AN : A.natAbs < 2 ^ 1000) (q : ∀ A' : Int, 0 ≤ A' → A'.natAbs < 2 ^ 1000 → Q (.int A') h) : Sat (bin2 .mul (.int A) (.int (if b then 1 else 0)) h) Q := by
  refine s_mul (Nat.lt_of_lt_of_le AN (by decide +kernel)) (int_lt (b := 1) (by cases b <;> decide)) ?_
  cases b with
  | true =>
    have e : A * (if true = true then 1 else 0) = A := by rw [if_pos rfl, Int.mul_one]
    rw [e]; exact q A a0 AN
  | false =>
    have e : A * (if false = true then 1 else 0) = 0 := by rw [if_neg (by decide), Int.mul_zero]
    rw [e]; exact q 0 (by omega) (by decide)
section
variable {lf : Nat} (hl : 300000 ≤ lf)
theorem r_pot (k : Nat) {h : Hp} {ns : List Int} {i : Nat} (e : seqOf h 0 = some (intsL ns)) (i2 : i ≤ 3) : Sat (run gg lf (k + 1) 36 [.ref 0, .int (i : Int)] h) fun d h' => ∃ n, d = .ref n ∧ h.next ≤ n ∧ Gr h h' ∧ Pot h' n 0 := by
  refine run_of (i := ⟨2, 5, b36⟩) rfl rfl ?_
  show SX (ex gg _ _ lf b36 [some (.ref 0), some (.int (i : Int)), none, none, none] h) _ _
  unfold b36
  refine sx_seq (sx_set (Sat.imp (Q := fun d h' => ∃ x : Int, d = .int x ∧ Gr h h') ?_ ?_))
  · have ln : (intsL ns).length = ns.length := by simp [intsL]
    array_get_dec
    refine s_len (show items? (.ref 0) h = some (intsL ns) from e) ?_
    array_get_dec
    refine ⟨fun c => ?_, fun c => ?_⟩
    · have hi : i < (intsL ns).length := by simpa using c
      array_get_dec
      refine ⟨_, idx_seq e hi, ?_⟩
      exact ⟨ns[i]'(by omega), by simp [intsL], Gr.refl _⟩
    · array_get_dec
      refine s_slcS e ?_
      rw [cut_ints]
      array_get_dec
      refine s_sum (get_top _ _) ?_
      array_get_dec
      refine s_mod (by omega) ?_
      array_get_dec
      refine s_mul (int_lt (b := 100000) (by decide)) (int_lt (b := 100000) (by omega)) ?_
      array_get_dec
      exact Gr.push _ _
  · rintro d h1 ⟨x, rfl, g1⟩
    array_get_dec
    refine s_abs ?_
    array_get_dec
    refine s_intI ?_
    array_get_dec
    refine s_pow (k := 60) (by omega) (by decide +kernel) ?_
    refine s_cst ?_
    refine s_pow (k := 5) (by omega) (by decide +kernel) ?_
    have P : (0 : Int) < (10 ^ 60) ^ 5 := by decide +kernel
    have P2 : ((10 ^ 60) ^ 5 : Int) ≤ 2 ^ 999 := by decide +kernel
    have P3 : (2 : Int) ^ 999 < 2 ^ 1000 := by decide +kernel
    refine s_mod P ?_
    have hA := emod_lt2 (if x < 0 then -x else x) P P2
    generalize (if x < 0 then -x else x) % ((10 ^ 60) ^ 5) = A at hA ⊢
    array_get_dec
    refine s_abs ?_
    array_get_dec
    refine s_pow (k := 18) (by omega) (by decide +kernel) ?_
    array_get_dec
    refine s_intB ?_
    have AN : A.natAbs < 2 ^ 1000 := nat_of_abs hA.1 (by omega)
    refine s_mulB hA.1 AN fun A' a0 a1 => ?_
    array_get_dec
    refine s_intI ?_
    array_get_dec
    refine s_mod (by omega) ?_
    have hY := emod_lt2 x (m := 2305843009213693951) (k := 61) (by omega) (by decide)
    generalize x % 2305843009213693951 = y at hY ⊢
    array_get_dec
    have Y20 : y.natAbs < 2 ^ 20000 := Nat.lt_of_lt_of_le (nat_of_abs hY.1 hY.2) (by decide +kernel)
    refine s_mul Y20 (int_lt (b := 1000000) (by decide)) ?_
    array_get_dec
    refine s_mul (int_lt (b := 1000000) (by decide)) (int_lt (b := 1000000) (by omega)) ?_
    array_get_dec
    refine s_mul (int_lt (b := 1000000) (by omega)) (int_lt (b := 1000000) (by omega)) ?_
    array_get_dec
    refine s_intI ?_
    array_get_dec
    refine s_mod (by omega) ?_
    have hZ := emod_lt2 (y * 129347 + 28703 * (i : Int) * (i : Int) + 14163) (m := 2305843009213693921) (k := 61) (by omega) (by decide)
    array_get_dec
    exact ⟨g1.le, g1.trans (Gr.push _ _), A', _, 0, get_top _ _, a0, a1, hZ.1, hZ.2, by omega, by omega⟩
end
end W57

set_option linter.all false
set_option maxRecDepth 100000
set_option exponentiation.threshold 20000
/-! XB: takes, cells, rows. -/
namespace W57
open VI M57 L57
local macro_rules
  | `(tactic| array_get_dec) => `(tactic| repeat first
  | with_reducible refine sx_seq ?_ | with_reducible refine sx_set ?_ | with_reducible refine sx_ret ?_ | with_reducible refine sx_exp ?_ | with_reducible refine sx_nil ?_ | with_reducible refine sx_ifs ?_ | with_reducible refine sx_setI ?_ | with_reducible refine sx_setF ?_ | with_reducible refine sx_setT ?_
  | ((with_reducible apply s_slot); · rfl) | with_reducible refine s_cst ?_ | with_reducible refine s_nop ?_ | with_reducible refine s_nil ?_ | with_reducible refine s_cons ?_ | with_reducible refine s_idx ?_ | with_reducible refine s_cmp ?_ | with_reducible refine s_chain ?_ | with_reducible refine s_bin ?_ | with_reducible refine s_fld ?_ | with_reducible refine s_call ?_ | with_reducible refine s_blt ?_ | with_reducible refine s_meth ?_ | with_reducible refine s_tup ?_ | with_reducible refine s_lst ?_ | with_reducible refine s_star ?_ | with_reducible refine s_neg ?_ | with_reducible refine s_not ?_ | with_reducible refine s_and ?_ | with_reducible refine s_or ?_ | with_reducible refine s_ite ?_ | with_reducible refine s_isi ?_ | with_reducible refine s_app ?_ | with_reducible refine s_ext ?_ | with_reducible refine s_iseq ?_ | with_reducible refine s_ienum ?_ | with_reducible refine s_izip ?_ | with_reducible refine s_irng ?_ | with_reducible refine s_lrg ?_ | with_reducible refine s_slc ?_ | with_reducible refine s_rev ?_ | with_reducible refine s_add ?_ | with_reducible refine s_sub ?_
  | refine ⟨_, rfl, ?_⟩ | refine ⟨(Nat.le_of_ble_eq_true rfl : List.length _ ≤ 100000), ?_⟩)

theorem i30 {h : Hp} {n : Nat} {a b c : D} (e : h.get n = some (.lst [a, b, c])) : idx2 (.ref n) (.int 0) h = some a := idx_lst (i := 0) e (Nat.lt_of_sub_pos (by show 0 < 3 - 0; decide))
theorem i31 {h : Hp} {n : Nat} {a b c : D} (e : h.get n = some (.lst [a, b, c])) : idx2 (.ref n) (.int 1) h = some b := idx_lst (i := 1) e (Nat.lt_of_sub_pos (by show 0 < 3 - 1; decide))
theorem i32 {h : Hp} {n : Nat} {a b c : D} (e : h.get n = some (.lst [a, b, c])) : idx2 (.ref n) (.int 2) h = some c := idx_lst (i := 2) e (Nat.lt_of_sub_pos (by show 0 < 3 - 2; decide))
theorem min2 (n : Nat) (h : Hp) : Sat (blt1 4 [.int 2, .int (n : Int)] h) fun d h' => h' = h ∧ ∃ a : Int, d = .int a ∧ 0 ≤ a ∧ a ≤ 2 := ⟨_, _, rfl, rfl, _, rfl, by split <;> omega, by split <;> omega⟩
theorem max1 (a : Int) (a0 : 0 ≤ a) (a2 : a ≤ 2) (h1 : Hp) : Sat (blt1 3 [.int 1, .int a] h1) fun d h' => h' = h1 ∧ ∃ m : Nat, d = .int (m : Int) ∧ m ≤ 2 := by
  refine ⟨_, _, rfl, rfl, (if a > 1 then a else 1).toNat, ?_, ?_⟩
  · split <;> congr 1 <;> omega
  · split <;> omega
section
variable {lf : Nat}
/-- a comprehension within which other things change -/
theorem s_compJ {g : G} {cf ci : Nat → List D → Hp → R D} {h : Hp} {env : Env} {e : E} {t : TG} {vs : List Nat} {P : D → Hp → Prop} {i0 : D} {xs : List D} (J : Nat → List D → Hp → Prop) (hl : 300000 ≤ lf) (hx : xs.length < 100000)
    (step : ∀ i (hi : i < xs.length) acc h1, J i acc h1 → h1.get h.next = some (.lst acc) → nxt i0 i h1 = some (some xs[i]) ∧ ∃ σ, asg t xs[i] (wipeL env vs) = some σ ∧ Sat (ev g cf ci lf e σ h1) fun y h2 => h2.get h.next = some (.lst acc) ∧ J (i + 1) (acc ++ [y]) (h2.set h.next (.lst (acc ++ [y]))))
    (fin : ∀ acc h1, J xs.length acc h1 → h1.get h.next = some (.lst acc) → nxt i0 xs.length h1 = some none ∧ (acc.length = xs.length → P (.ref h.next) h1))
    (h0 : J 0 [] (h.push (.lst []))) : Sat (ev g cf ci lf (.comp vs (.cst i0) t (.cst (.bl true)) e) env h) P := by
  obtain ⟨acc, h', r, j, ga, la⟩ := comp_go (it := i0) (n := h.next) (turn := fun x h2 => match asg t x (wipeL env vs) with
      | none => .bad
      | some σ' => (ev g cf ci lf (.cst (.bl true)) σ' h2).bd fun b h3 => match b with
        | .bl true => (ev g cf ci lf e σ' h3).bd fun y h4 => .ok (some y) h4
        | .bl false => .ok none h3
        | _ => .bad) (f := lf) (xs := xs) J (by omega)
    (fun i hi acc h1 j1 g1 => by
      obtain ⟨nx, σ, as, y, h2, ey, k2, j2⟩ := step i hi acc h1 j1 g1
      refine ⟨nx, y, h2, ?_, k2, j2⟩
      show (match asg t xs[i] (wipeL env vs) with
        | none => R.bad
        | some σ' => (ev g cf ci lf (.cst (.bl true)) σ' h1).bd fun b h3 => match b with
          | .bl true => (ev g cf ci lf e σ' h3).bd fun y h4 => .ok (some y) h4
          | .bl false => .ok none h3
          | _ => .bad) = _
      rw [as]
      show ((ev g cf ci lf e σ h1).bd _) = _
      rw [ey])
    (fun acc h1 j1 g1 => (fin acc h1 j1 g1).1) (h := h.push (.lst [])) h0 (get_top h _) (by omega)
  refine ⟨.ref h.next, h', ?_, (fin acc h' j ga).2 la⟩
  refine (show ev g cf ci lf (.comp vs (.cst i0) t (.cst (.bl true)) e) env h = ((compGo i0 h.next (fun x h2 => match asg t x (wipeL env vs) with
      | none => .bad
      | some σ' => (ev g cf ci lf (.cst (.bl true)) σ' h2).bd fun b h3 => match b with
        | .bl true => (ev g cf ci lf e σ' h3).bd fun y h4 => .ok (some y) h4
        | .bl false => .ok none h3
        | _ => .bad) lf 0 (h.push (.lst []))).bd fun _ h2 => R.ok (D.ref h.next) h2) from rfl).trans ?_
  exact congrArg (fun z : R Unit => z.bd fun _ h2 => R.ok (D.ref h.next) h2) r
end
theorem prime5 {h : Hp} {n : Nat} {j : Int} (e : h.get n = some (.lst [.int 2147483647, .int 2147483629, .int 2147483587, .int 2147483579, .int 2147483563])) (j0 : 0 ≤ j) (j5 : j < 5) : ∃ p : Int, idx2 (.ref n) (.int j) h = some (.int p) ∧ 0 < p ∧ p ≤ 2 ^ 31 := by
  have : j = ((0 : Nat) : Int) ∨ j = ((1 : Nat) : Int) ∨ j = ((2 : Nat) : Int) ∨ j = ((3 : Nat) : Int) ∨ j = ((4 : Nat) : Int) := by omega
  rcases this with rfl | rfl | rfl | rfl | rfl
  · exact ⟨_, idx_lst (i := 0) e (by decide), by decide, by decide⟩
  · exact ⟨_, idx_lst (i := 1) e (by decide), by decide, by decide⟩
  · exact ⟨_, idx_lst (i := 2) e (by decide), by decide, by decide⟩
  · exact ⟨_, idx_lst (i := 3) e (by decide), by decide, by decide⟩
  · exact ⟨_, idx_lst (i := 4) e (by decide), by decide, by decide⟩
theorem nat_lt20 {b : Int} {n : Nat} (h0 : 0 ≤ b) (h : b < 2 ^ n) (hn : n ≤ 20000) : b.natAbs < 2 ^ 20000 := Nat.lt_of_lt_of_le (nat_of_abs h0 h) (Nat.pow_le_pow_right (by omega) hn)
theorem mul_bd {x y a b : Int} (x0 : 0 ≤ x) (y0 : 0 ≤ y) (xa : x ≤ a) (yb : y ≤ b) : 0 ≤ x * y ∧ x * y ≤ a * b := by
  refine ⟨Int.mul_nonneg x0 y0, Int.mul_le_mul xa yb y0 (by omega)⟩
theorem place32 : place 3 2 = some 2 := rfl
theorem place30 : place 3 0 = some 0 := rfl
section
variable {lf : Nat} (hl : 300000 ≤ lf)
theorem r_take (k : Nat) {h : Hp} {n c b : Nat} (p : Pot h n c) (b0 : 0 < b) (b9 : b ≤ 9) (c6 : c ≤ 100000) : Sat (run gg lf (k + 1) 37 [.ref n, .int (b : Int)] h) fun d h' => ∃ v : Int, d = .int v ∧ 0 ≤ v ∧ v < b ∧ Gx [n] h h' ∧ Pot h' n (c + 1) := by
  refine run_of (i := ⟨2, 5, b37⟩) rfl rfl ?_
  show SX (ex gg _ _ lf b37 [some (.ref n), some (.int (b : Int)), none, none, none] h) _ _
  obtain ⟨x, y, m, e, v⟩ := p
  unfold b37
  array_get_dec
  refine ⟨_, i30 e, ?_⟩
  array_get_dec
  refine ⟨fun cc => ?_, fun cc => ?_⟩
  · have x0 : 0 < x := by simpa using cc
    array_get_dec
    refine ⟨_, i30 e, ?_⟩
    array_get_dec
    refine s_intI ?_
    refine s_slot rfl ?_
    refine s_mod (by omega) ?_
    array_get_dec
    refine ⟨_, i30 e, ?_⟩
    refine s_slot rfl ?_
    refine s_fdiv (by omega) (Nat.lt_of_lt_of_le (show ((b : Int)).natAbs < 2 ^ 10 by omega) (by decide +kernel)) ?_
    array_get_dec
    refine ⟨_, _, _, _, rfl, rfl, e, place30, ?_⟩
    have hm := Int.emod_lt_of_pos x (show (0 : Int) < b by omega)
    have hm0 := Int.emod_nonneg x (show (b : Int) ≠ 0 by omega)
    have d0 := Int.ediv_nonneg (show 0 ≤ x by omega) (show (0 : Int) ≤ b by omega)
    have d1 := Int.ediv_le_self (b : Int) (show 0 ≤ x by omega)
    array_get_dec
    refine ⟨hm0, hm, (Gx.refl _ _).set (by simp) (Hp.lt_of_get e) _, x / b, y, m, get_put e _, d0, ?_, v.b0, v.b1, v.m0, ?_⟩
    · have := v.a1; omega
    · have := v.m1; omega
  · refine sx_nil ?_
    array_get_dec
    refine ⟨_, i32 e, ?_⟩
    array_get_dec
    refine ⟨_, _, _, _, rfl, rfl, e, place32, ?_⟩
    have t1 := get_put e (.lst [.int x, .int y, .int (m + 1)])
    have g1 : Gx [n] h (h.set n (.lst [.int x, .int y, .int (m + 1)])) := (Gx.refl _ _).set (by simp) (Hp.lt_of_get e) _
    show SX (ex _ _ _ _ _ _ (h.set n (.lst [.int x, .int y, .int (m + 1)]))) _ _
    generalize h.set n (.lst [.int x, .int y, .int (m + 1)]) = h1 at *
    have m0 := v.m0
    have m1 := v.m1
    have M : m + 1 ≤ 100001 := by omega
    have M0 : 0 ≤ m + 1 := by omega
    have vm : PotV x y (m + 1) (c + 1) := { v with m0 := M0, m1 := by omega }
    generalize m + 1 = mm at *
    array_get_dec
    have t2 := (Gr.push h1 (.lst [.int 2147483647, .int 2147483629, .int 2147483587, .int 2147483579, .int 2147483563])).get t1
    have tp := get_top h1 (.lst [.int 2147483647, .int 2147483629, .int 2147483587, .int 2147483579, .int 2147483563])
    have g2 : Gx [n] h1 (h1.push (.lst [.int 2147483647, .int 2147483629, .int 2147483587, .int 2147483579, .int 2147483563])) := (Gr.push _ _).gx
    generalize h1.push (.lst [.int 2147483647, .int 2147483629, .int 2147483587, .int 2147483579, .int 2147483563]) = h2 at *
    generalize h1.next = u at *
    refine ⟨_, i32 t2, ?_⟩
    array_get_dec
    refine s_intI ?_
    refine s_cst ?_
    refine s_mod (by omega) ?_
    obtain ⟨p, ep, p0, p31⟩ := prime5 tp (Int.emod_nonneg mm (show (5 : Int) ≠ 0 by omega)) (Int.emod_lt_of_pos mm (by omega))
    refine ⟨_, ep, ?_⟩
    array_get_dec
    refine ⟨_, i31 t2, ?_⟩
    array_get_dec
    refine ⟨_, i32 t2, ?_⟩
    refine s_mul (int_lt (b := 1000000) (by decide)) (int_lt (b := 1000000) (by show mm.natAbs ≤ _; omega)) ?_
    array_get_dec
    refine ⟨_, i32 t2, ?_⟩
    have q1 := mul_bd (x := 126827) (y := mm) (a := 126827) (b := 100001) (by omega) M0 (by omega) M
    have q2 := mul_bd (x := 126827 * mm) (y := mm) (a := 126827 * 100001) (b := 100001) q1.1 M0 q1.2 M
    refine s_mul (nat_lt20 (n := 60) q1.1 (by show 126827 * mm < _; omega) (by omega)) (int_lt (b := 1000000) (by show mm.natAbs ≤ _; omega)) ?_
    array_get_dec
    refine s_intI ?_
    refine s_cst ?_
    show Sat (bin2 .pow (.int (y + 126827 * mm * mm + 7329)) (.int ((3 : Nat) : Int)) h2) _
    have b0 := v.b0
    have b1 := v.b1
    have X0 : 0 ≤ y + 126827 * mm * mm + 7329 := by omega
    have X1 : y + 126827 * mm * mm + 7329 < 2 ^ 62 := by omega
    generalize y + 126827 * mm * mm + 7329 = X at *
    refine s_pow (by omega) (by have := bits_lt (nat_of_abs X0 X1) (by omega); omega) ?_
    array_get_dec
    refine s_intI ?_
    refine s_slot rfl ?_
    refine s_mod p0 ?_
    have hY := emod_lt2 (X ^ 3) p0 p31
    generalize X ^ 3 % p = Y at *
    array_get_dec
    refine s_intI ?_
    refine s_cst ?_
    refine s_mod (by omega) ?_
    have hZ := emod_lt2 Y (m := 34201) (k := 20) (by omega) (by decide)
    array_get_dec
    refine ⟨_, i32 t2, ?_⟩
    refine s_mul (int_lt (b := 1000000) (by decide)) (int_lt (b := 1000000) (by show mm.natAbs ≤ _; omega)) ?_
    refine s_add ?_
    refine s_mul (nat_lt20 (n := 31) hY.1 hY.2 (by omega)) (nat_lt20 (n := 60) (by show 0 ≤ Y % 34201 + 4125 * mm; omega) (by show Y % 34201 + 4125 * mm < _; omega) (by omega)) ?_
    refine s_nil ?_
    refine ⟨_, rfl, _, rfl, ?_⟩
    refine s_intI ?_
    refine s_cst ?_
    refine s_mod (by omega) ?_
    generalize Y * (Y % 34201 + 4125 * mm) % 2305843009213693907 = W
    array_get_dec
    refine s_fdiv (by omega) (by decide +kernel) ?_
    array_get_dec
    refine s_intI ?_
    refine s_slot rfl ?_
    refine s_mod (by omega) ?_
    exact ⟨_, rfl, Int.emod_nonneg _ (by omega), Int.emod_lt_of_pos _ (by omega), g1.trans g2, x, y, mm, t2, vm⟩
theorem r_cells (k : Nat) {h : Hp} {ns : List Int} (e : seqOf h 0 = some (intsL ns)) (nl : ns.length ≤ 63) : Sat (run gg lf (k + 1) 38 [.ref 0, .int 2] h) fun d h' => ∃ n m, d = .ref n ∧ m ≤ 2 ∧ Gr h h' ∧ h'.get n = some (.lst (upTo m 0)) := by
  refine run_of (i := ⟨2, 2, b38⟩) rfl rfl ?_
  show SX (ex gg _ _ lf b38 [some (.ref 0), some (.int 2)] h) _ _
  unfold b38
  have ln : (intsL ns).length = ns.length := by simp [intsL]
  array_get_dec
  refine s_len (show items? (.ref 0) h = some (intsL ns) from e) ?_
  rw [ln]
  array_get_dec
  refine (min2 ns.length h).imp ?_
  rintro d h1 ⟨rfl, a, rfl, a0, a2⟩
  array_get_dec
  refine (max1 a a0 a2 h1).imp ?_
  rintro d h2 ⟨rfl, m, rfl, m2⟩
  array_get_dec
  refine ⟨_, upTo m 0, rfl, ?_, ?_⟩
  · have s1 : small (m : Int) = true := by
      unfold small
      rw [Bool.and_eq_true]
      exact ⟨decide_eq_true (by omega), decide_eq_true (by omega)⟩
    show (bif small (m : Int) && Nat.ble (m : Int).toNat line then some (upTo (m : Int).toNat 0) else none) = _
    have e2 : (m : Int).toNat = m := by omega
    rw [s1, e2, ble_line (by omega)]
    rfl
  · exact ⟨_, m, rfl, m2, Gr.push _ _, get_top _ _⟩
structure Bd (n b : Nat) (w : Row) : Prop where
  len : w.2.length = n
  b1 : w.1.natAbs ≤ b
  b2 : ∀ f ∈ w.2, f.natAbs ≤ b
theorem Gx.keep {W : List Nat} {h h' : Hp} (g : Gx W h h') {m : Nat} {o : O} (e : h.get m = some o) (hm : m ∉ W) : h'.get m = some o := by rw [g.eq m (Hp.lt_of_get e) hm]; exact e
include hl in
theorem r_row (k : Nat) {h : Hp} {n c m : Nat} (p : Pot h n c) (m4 : m ≤ 4) (c6 : c ≤ 90000) : Sat (run gg lf (k + 2) 39 [.ref n, .int (m : Int)] h) fun d h' => ∃ w, d = rowD w ∧ Bd m 4 w ∧ Gx [n] h h' ∧ Pot h' n (c + 10) := by
  refine run_of (i := ⟨2, 3, b39⟩) rfl rfl ?_
  show SX (ex gg _ _ lf b39 [some (.ref n), some (.int (m : Int)), none] h) _ _
  unfold b39
  array_get_dec
  refine (r_take (lf := lf) k (b := 9) p (by omega) (by omega) (by omega)).imp ?_
  rintro d h1 ⟨v, rfl, v0, v1, g1, p1⟩
  array_get_dec
  refine s_intI ?_
  refine s_cons ?_
  refine s_blt ?_
  refine s_cons ?_
  refine s_compI ?_
  array_get_dec
  refine ⟨_, _, rfl, rng_lt _ (by omega), ?_⟩
  have np : n < h1.next := p1.lt
  refine s_compJ (xs := rngL 0 m) (fun i acc h' => ∃ fs : List Int, acc = intsL fs ∧ (∀ f ∈ fs, f.natAbs ≤ 4) ∧ Gx [n] h1 h' ∧ Pot h' n (c + 1 + i)) hl (by rw [rngL_len]; omega) ?_ ?_ ⟨[], rfl, by simp, (Gr.push _ _).gx, p1.gr (Gr.push _ _)⟩
  · rintro i hi acc h2 ⟨fs, rfl, fb, g2, p2⟩ t2
    rw [rngL_len] at hi
    refine ⟨has_rng.1 i (by rw [rngL_len]; exact hi), _, rfl, ?_⟩
    array_get_dec
    refine (r_take (lf := lf) k (b := 5) p2 (by omega) (by omega) (by omega)).imp ?_
    rintro d h3 ⟨u, rfl, u0, u1, g3, p3⟩
    array_get_dec
    refine s_intI ?_
    have t3 := g3.keep t2 (by simp; omega)
    refine ⟨t3, fs ++ [u - 2], by simp [intsL], fun f hf => ?_, ⟨(g2.trans g3).le, fun a ha hb => ?_⟩, ?_⟩
    · rcases List.mem_append.mp hf with y | y
      · exact fb f y
      · have : f = u - 2 := by simpa using y
        rw [this]; omega
    · rw [Hp.get_set _ _ _ _ (Hp.lt_of_get t3), if_neg (by omega)]
      exact (g2.trans g3).eq a ha hb
    · obtain ⟨a, b, q, e, vv⟩ := p3
      exact ⟨a, b, q, by rw [Hp.get_set _ _ _ _ (Hp.lt_of_get t3), if_neg (by omega)]; exact e, { vv with m1 := by have := vv.m1; omega }⟩
  · rintro acc h2 ⟨fs, rfl, fb, g2, p2⟩ t2
    refine ⟨has_rng.2, fun la => ?_⟩
    rw [rngL_len] at la p2
    have fl : fs.length = m := by simpa [intsL] using la
    array_get_dec
    refine s_tupl t2 ?_
    array_get_dec
    exact ⟨(v - 4, fs), rfl, ⟨fl, by show (v - 4).natAbs ≤ 4; omega, fb⟩, g1.trans g2, p2.up (by omega)⟩
end
end W57

set_option linter.all false
set_option maxRecDepth 100000
set_option exponentiation.threshold 20000
/-! XC: sums of rows; rows at spots. -/
namespace W57
open VI M57 L57
local macro_rules
  | `(tactic| array_get_dec) => `(tactic| repeat first
  | with_reducible refine sx_seq ?_ | with_reducible refine sx_set ?_ | with_reducible refine sx_ret ?_ | with_reducible refine sx_exp ?_ | with_reducible refine sx_nil ?_ | with_reducible refine sx_ifs ?_ | with_reducible refine sx_setI ?_ | with_reducible refine sx_setF ?_ | with_reducible refine sx_setT ?_
  | ((with_reducible apply s_slot); · rfl) | with_reducible refine s_cst ?_ | with_reducible refine s_nop ?_ | with_reducible refine s_nil ?_ | with_reducible refine s_cons ?_ | with_reducible refine s_idx ?_ | with_reducible refine s_cmp ?_ | with_reducible refine s_chain ?_ | with_reducible refine s_bin ?_ | with_reducible refine s_fld ?_ | with_reducible refine s_call ?_ | with_reducible refine s_blt ?_ | with_reducible refine s_meth ?_ | with_reducible refine s_tup ?_ | with_reducible refine s_lst ?_ | with_reducible refine s_star ?_ | with_reducible refine s_neg ?_ | with_reducible refine s_not ?_ | with_reducible refine s_and ?_ | with_reducible refine s_or ?_ | with_reducible refine s_ite ?_ | with_reducible refine s_isi ?_ | with_reducible refine s_app ?_ | with_reducible refine s_ext ?_ | with_reducible refine s_iseq ?_ | with_reducible refine s_ienum ?_ | with_reducible refine s_izip ?_ | with_reducible refine s_irng ?_ | with_reducible refine s_lrg ?_ | with_reducible refine s_slc ?_ | with_reducible refine s_rev ?_ | with_reducible refine s_add ?_ | with_reducible refine s_sub ?_
  | refine ⟨_, rfl, ?_⟩ | refine ⟨(Nat.le_of_ble_eq_true rfl : List.length _ ≤ 100000), ?_⟩)

theorem s_list {h : Hp} {Q : D → Hp → Prop} {d : D} {l : List D} (e : items? d h = some l) (q : Q (.ref h.next) (h.push (.lst l))) : Sat (blt1 9 [d] h) Q := by
  refine ⟨_, _, ?_, q⟩
  show (match items? d h with
    | some l => R.ok (D.ref h.next) (h.push (.lst l))
    | none => .bad) = _
  rw [e]
theorem has_zipTT {xs ys : List D} {h : Hp} (hl : xs.length = ys.length) : Has (.tup [.int 3, .tup xs, .tup ys]) ((xs.zip ys).map fun p => .tup [p.1, p.2]) h := by
  have a1 : ∀ (zs : List D) i, i ≤ zs.length → atS (.tup zs) i h = some (nth zs i) := fun zs i hi => by
    show (bif Nat.ble i zs.length then some (nth zs i) else none) = _
    rw [Nat.ble_eq_true_of_le hi]; rfl
  have ln : ((xs.zip ys).map fun p : D × D => D.tup [p.1, p.2]).length = xs.length := by simp [hl]
  refine ⟨fun i hi => ?_, ?_⟩
  · have hi' : i < xs.length := by rw [ln] at hi; exact hi
    show (match atS (.tup xs) i h, atS (.tup ys) i h with | some (some x), some (some y) => some (some (D.tup [x, y])) | some none, some _ => some none | some _, some none => some none | _, _ => none) = _
    rw [a1 xs i (by omega), a1 ys i (by omega), nth_some hi', nth_some (by omega : i < ys.length)]
    simp
  · rw [ln]
    show (match atS (.tup xs) xs.length h, atS (.tup ys) xs.length h with | some (some x), some (some y) => some (some (D.tup [x, y])) | some none, some _ => some none | some _, some none => some none | _, _ => none) = _
    rw [a1 xs _ (Nat.le_refl _), a1 ys _ (by omega), nth_none (Nat.le_refl _), nth_none (by omega : ys.length ≤ xs.length)]
theorem cut_first {α : Type} (x : α) (xs : List α) : cutL (x :: xs) (some 1) none = xs := by
  unfold cutL
  have a1 : cutAt (x :: xs).length 0 (some 1) = 1 := by
    show (bif Nat.ble 1 (xs.length + 1) then 1 else xs.length + 1) = 1
    rw [Nat.ble_eq_true_of_le (by omega)]; rfl
  have a2 : cutAt (x :: xs).length (x :: xs).length none = xs.length + 1 := rfl
  rw [a1, a2]
  simp
/-- bounds put together -/
def sN (b : Nat → Nat) : Nat → Nat
  | 0 => 0
  | i + 1 => sN b i + b i
theorem add_val {m : Nat} {s r : Row} {t : Int} {v : List Rat} : valR (s.1 + t * r.1, (List.range m).map fun j => s.2.getD j 0 + t * r.2.getD j 0) v m = valR s v m + (t : Rat) * valR r v m := by
  unfold valR
  have : (sm m fun u => ((((List.range m).map fun j => s.2.getD j 0 + t * r.2.getD j 0).getD u 0 : Int) : Rat) * v.getD u 0) = (sm m fun u => ((s.2.getD u 0 : Int) : Rat) * v.getD u 0) + (t : Rat) * sm m fun u => ((r.2.getD u 0 : Int) : Rat) * v.getD u 0 := by
    rw [← sm_mul, ← sm_add]
    refine sm_congr fun u hu => ?_
    have e : ((List.range m).map fun j => s.2.getD j 0 + t * r.2.getD j 0).getD u 0 = s.2.getD u 0 + t * r.2.getD u 0 := by
      rw [getD_at (by simp; exact hu)]; simp
    rw [e, Rat.intCast_add, Rat.intCast_mul]; grind
  show ((s.1 + t * r.1 : Int) : Rat) + _ = _
  rw [Rat.intCast_add, Rat.intCast_mul]
  show _ + (sm m fun u => ((((List.range m).map fun j => s.2.getD j 0 + t * r.2.getD j 0).getD u 0 : Int) : Rat) * v.getD u 0) = _
  rw [this]; grind
theorem abs_step {s t r : Int} {S R : Nat} (hs : s.natAbs ≤ S) (t0 : 0 ≤ t) (t3 : t < 3) (hr : r.natAbs ≤ R) : (s + t * r).natAbs ≤ S + 2 * R := by
  have : t = 0 ∨ t = 1 ∨ t = 2 := by omega
  rcases this with rfl | rfl | rfl <;> omega
section
variable {lf : Nat} (hl : 300000 ≤ lf)
include hl in
theorem r_together (k : Nat) {h : Hp} {n c m : Nat} {ws : List Row} {bd : Nat → Nat} (p : Pot h n c) (m4 : m ≤ 4) (c6 : c ≤ 90000) (wl : ws.length ≤ 9) (ok : ∀ i (hi : i < ws.length), Bd m (bd i) ws[i]) (big : 2 + 2 * sN bd ws.length ≤ 100000) (mono : ∀ i, i ≤ ws.length → sN bd i ≤ sN bd ws.length) : Sat (run gg lf (k + 2) 40 [.ref n, rowsD ws, .int (m : Int)] h) fun d h' => ∃ w, d = rowD w ∧ Bd m (2 + 2 * sN bd ws.length) w ∧ Gx [n] h h' ∧ Pot h' n (c + 10) ∧ Follows m ws w := by
  refine run_of (i := ⟨3, 8, b40⟩) rfl rfl ?_
  show SX (ex gg _ _ lf b40 [some (.ref n), some (.tup (ws.map rowD)), some (.int (m : Int)), none, none, none, none, none] h) _ _
  unfold b40
  have np : n < h.next := p.lt
  array_get_dec
  refine (r_take (lf := lf) (k + 1 - 1) (b := 3) p (by omega) (by omega) (by omega)).imp ?_
  rintro d h1 ⟨t0, rfl, t00, t01, g1, p1⟩
  array_get_dec
  refine s_intI ?_
  array_get_dec
  have g2 := Gr.push h1 (.lst [.int t0])
  have e2 := get_top h1 (.lst [.int t0])
  generalize h1.push (.lst [.int t0]) = h2 at *
  have g3 := Gr.push h2 (.lst [.int 0])
  refine s_mulL (get_top _ _) (by omega) (by simp; omega) ?_
  rw [rep_ints]
  have g4 := Gr.push (h2.push (.lst [.int 0])) (.lst (intsL (List.replicate m 0)))
  have e4 := get_top (h2.push (.lst [.int 0])) (.lst (intsL (List.replicate m 0)))
  generalize (h2.push (.lst [.int 0])).push (.lst (intsL (List.replicate m 0))) = h4 at *
  refine s_addL (g4.get (g3.get e2)) e4 (by simp [intsL]; omega) ?_
  have es : [D.int t0] ++ intsL (List.replicate m 0) = intsL (t0 :: List.replicate m 0) := rfl
  rw [es]
  have g5 := Gr.push h4 (.lst (intsL (t0 :: List.replicate m 0)))
  have e5 := get_top h4 (.lst (intsL (t0 :: List.replicate m 0)))
  have gA : Gr h1 (h4.push (.lst (intsL (t0 :: List.replicate m 0)))) := g2.trans (g3.trans (g4.trans g5))
  have un : n < h4.next := Nat.lt_of_lt_of_le p1.lt (g2.trans (g3.trans g4)).le
  generalize h4.push (.lst (intsL (t0 :: List.replicate m 0))) = h5 at *
  generalize h4.next = u0 at *
  have lw : (ws.map rowD).length = ws.length := by simp
  array_get_dec
  refine sx_frI ?_
  array_get_dec
  refine ⟨a0_tup, ?_⟩
  refine s_fr (xs := ws.map rowD) (fun i σ h' => ∃ (u : Nat) (o4 o5 : Option D) (s : Row), σ = [some (.ref n), some (.tup (ws.map rowD)), some (.int (m : Int)), some (.ref u), o4, o5, none, none] ∧ n < u ∧ h'.get u = some (.lst (intsL (s.1 :: s.2))) ∧ Bd m (2 + 2 * sN bd i) s ∧ Gx [n] h h' ∧ Pot h' n (c + 1 + i) ∧ ∀ v, (∀ w ∈ ws, HoldsAt m w v) → 0 ≤ valR s v m) hl (by omega) ?_ ?_ ⟨u0, none, none, (t0, List.replicate m 0), rfl, un, e5, ⟨by simp, by show t0.natAbs ≤ _; unfold sN; omega, fun f hf => by
    have : f = 0 := (List.mem_replicate.mp hf).2
    rw [this]; simp⟩, g1.trans gA.gx, p1.gr gA, fun v hv => by
      unfold valR
      rw [sm_zero' fun i hi => by rw [getD_at (l := (List.replicate m 0 : List Int)) (by simp; exact hi)]; simp]
      have : ((0 : Int) : Rat) ≤ ((t0 : Int) : Rat) := by exact_mod_cast t00
      have z : ((0 : Int) : Rat) = 0 := rfl
      rw [z] at this
      show 0 ≤ ((t0 : Int) : Rat) + 0
      grind⟩
  · rintro i hi σ h6 ⟨u, o4, o5, s, rfl, un, eu, bs, g6, p6, fo⟩
    have iw : i < ws.length := by omega
    have bi := ok i iw
    have SB := mono i (by omega)
    refine ⟨has_tup.1 i hi, [some (.ref n), some (.tup (ws.map rowD)), some (.int (m : Int)), some (.ref u), some (.tup [.int ws[i].1, .tup (intsL ws[i].2)]), o5, none, none], by rw [List.getElem_map]; rfl, ?_⟩
    array_get_dec
    refine (r_take (lf := lf) k (b := 3) p6 (by omega) (by omega) (by omega)).imp ?_
    rintro d h7 ⟨t, rfl, t0', t3, g7, p7⟩
    have eu7 := g7.keep eu (by simp; omega)
    array_get_dec
    refine s_intI ?_
    refine sx_seq (sx_set (s_compI ?_))
    array_get_dec
    have ga := Gr.push h7 (.lst [.int ws[i].1])
    have ea := get_top h7 (.lst [.int ws[i].1])
    generalize h7.push (.lst [.int ws[i].1]) = h8 at *
    refine s_list (show items? (.tup (intsL ws[i].2)) h8 = some (intsL ws[i].2) from rfl) ?_
    have gb := Gr.push h8 (.lst (intsL ws[i].2))
    have eb := get_top h8 (.lst (intsL ws[i].2))
    generalize h8.push (.lst (intsL ws[i].2)) = h9 at *
    have lr : ws[i].2.length = m := bi.len
    refine s_addL (gb.get ea) eb (by simp [intsL]; omega) ?_
    have er : [D.int ws[i].1] ++ intsL ws[i].2 = intsL (ws[i].1 :: ws[i].2) := rfl
    rw [er]
    have gc := Gr.push h9 (.lst (intsL (ws[i].1 :: ws[i].2)))
    have ec := get_top h9 (.lst (intsL (ws[i].1 :: ws[i].2)))
    generalize h9.push (.lst (intsL (ws[i].1 :: ws[i].2))) = h10 at *
    generalize h9.next = q at *
    have gB := ga.trans (gb.trans gc)
    have eu10 := gB.get eu7
    refine ⟨⟨_, a1_at (seq_of eu10)⟩, ⟨_, a1_at (seq_of ec)⟩, ?_⟩
    have ls : s.2.length = m := bs.len
    have ln : (((intsL (s.1 :: s.2)).zip (intsL (ws[i].1 :: ws[i].2))).map fun p : D × D => D.tup [p.1, p.2]).length = m + 1 := by simp [intsL, ls, lr]
    have sb : ∀ j, j < m + 1 → ((s.1 :: s.2).getD j 0).natAbs ≤ 2 + 2 * sN bd i := fun j hj => by
      rw [getD_at (by simp [ls]; omega)]
      cases j with
      | zero => exact bs.b1
      | succ j => exact bs.b2 _ (List.getElem_mem _)
    have rb : ∀ j, j < m + 1 → ((ws[i].1 :: ws[i].2).getD j 0).natAbs ≤ bd i := fun j hj => by
      rw [getD_at (by simp [lr]; omega)]
      cases j with
      | zero => exact bi.b1
      | succ j => exact bi.b2 _ (List.getElem_mem _)
    have bdi : bd i ≤ sN bd ws.length := by
      have := mono (i + 1) (by omega)
      have e : sN bd (i + 1) = sN bd i + bd i := rfl
      omega
    refine s_compP (fun j => .int ((s.1 :: s.2).getD j 0 + t * (ws[i].1 :: ws[i].2).getD j 0)) hl (xs := ((intsL (s.1 :: s.2)).zip (intsL (ws[i].1 :: ws[i].2))).map fun p => .tup [p.1, p.2]) (by omega) (fun h' g => has_zip (g.get eu10) (g.get ec) (by simp [intsL, ls, lr])) (fun j hj => ?_) fun h11 g11 e11 => ?_
    · have j1 : j < m + 1 := by omega
      have js : j < (s.1 :: s.2).length := by simp [ls]; omega
      have jr : j < (ws[i].1 :: ws[i].2).length := by simp [lr]; omega
      have e1 := sb j j1
      have e2 := rb j j1
      rw [getD_at js] at e1
      rw [getD_at jr] at e2
      have ej : (((intsL (s.1 :: s.2)).zip (intsL (ws[i].1 :: ws[i].2))).map fun p : D × D => D.tup [p.1, p.2])[j] = .tup [.int (s.1 :: s.2)[j], .int (ws[i].1 :: ws[i].2)[j]] := by
        rw [List.getElem_map, List.getElem_zip]
        simp only [intsL, List.getElem_map]
      refine ⟨_, by rw [ej]; rfl, fun h' g => ?_⟩
      array_get_dec
      refine s_mul (int_lt (b := 100000) (by omega)) (int_lt (b := 100000) (by omega)) ?_
      array_get_dec
      rw [getD_at js, getD_at jr]
      exact ⟨Gr.refl _, rfl⟩
    rw [ln] at e11
    have el : (List.range (m + 1)).map (fun j => D.int ((s.1 :: s.2).getD j 0 + t * (ws[i].1 :: ws[i].2).getD j 0)) = intsL ((s.1 + t * ws[i].1) :: (List.range m).map fun j => s.2.getD j 0 + t * ws[i].2.getD j 0) := by
      rw [List.range_succ_eq_map]
      simp [intsL]
    rw [el] at e11
    have gC := gB.trans g11
    array_get_dec
    refine ⟨h10.next, _, _, (s.1 + t * ws[i].1, (List.range m).map fun j => s.2.getD j 0 + t * ws[i].2.getD j 0), rfl, ?_, e11, ⟨by simp, ?_, fun f hf => ?_⟩, g6.trans (g7.trans gC.gx), (p7.gr gC).up (by omega), fun v hv => ?_⟩
    · have := p7.lt; have := gB.le; omega
    · have := abs_step bs.b1 t0' t3 bi.b1
      show (s.1 + t * ws[i].1).natAbs ≤ 2 + 2 * (sN bd i + bd i)
      omega
    · obtain ⟨j, hj, rfl⟩ := List.mem_map.mp hf
      have jm : j < m := List.mem_range.mp hj
      have := abs_step (s := s.2.getD j 0) (S := 2 + 2 * sN bd i) (by rw [getD_at (by omega)]; exact bs.b2 _ (List.getElem_mem _)) t0' t3 (r := ws[i].2.getD j 0) (R := bd i) (by rw [getD_at (by omega)]; exact bi.b2 _ (List.getElem_mem _))
      show _ ≤ 2 + 2 * (sN bd i + bd i)
      omega
    · rw [add_val]
      have a1 := fo v hv
      have a2 := hv _ (List.getElem_mem iw)
      have tr : (0 : Rat) ≤ (t : Rat) := by exact_mod_cast t0'
      have a3 := Rat.mul_nonneg tr a2
      generalize valR s v m = X at *
      generalize (t : Rat) * valR ws[i] v m = Y at *
      grind
  · rintro σ h6 ⟨u, o4, o5, s, rfl, un, eu, bs, g6, p6, fo⟩
    rw [lw] at bs p6
    refine ⟨has_tup.2, ?_⟩
    array_get_dec
    refine ⟨_, idx_lst (i := 0) eu (by simp [intsL]), ?_⟩
    array_get_dec
    refine s_slcL eu ?_
    have ec : cutL (intsL (s.1 :: s.2)) (some 1) none = intsL s.2 := cut_first (.int s.1) (intsL s.2)
    rw [ec]
    array_get_dec
    refine s_tupl (get_top _ _) ?_
    array_get_dec
    exact ⟨bs, g6.trans (Gr.push _ _).gx, (p6.gr (Gr.push _ _)).up (by omega), fo⟩
end
end W57

set_option linter.all false
set_option maxRecDepth 100000
set_option exponentiation.threshold 20000
/-! XD: rows at spots. -/
namespace W57
open VI M57 L57
local macro_rules
  | `(tactic| array_get_dec) => `(tactic| repeat first
  | with_reducible refine sx_seq ?_ | with_reducible refine sx_set ?_ | with_reducible refine sx_ret ?_ | with_reducible refine sx_exp ?_ | with_reducible refine sx_nil ?_ | with_reducible refine sx_ifs ?_ | with_reducible refine sx_setI ?_ | with_reducible refine sx_setF ?_ | with_reducible refine sx_setT ?_
  | ((with_reducible apply s_slot); · rfl) | with_reducible refine s_cst ?_ | with_reducible refine s_nop ?_ | with_reducible refine s_nil ?_ | with_reducible refine s_cons ?_ | with_reducible refine s_idx ?_ | with_reducible refine s_cmp ?_ | with_reducible refine s_chain ?_ | with_reducible refine s_bin ?_ | with_reducible refine s_fld ?_ | with_reducible refine s_call ?_ | with_reducible refine s_blt ?_ | with_reducible refine s_meth ?_ | with_reducible refine s_tup ?_ | with_reducible refine s_lst ?_ | with_reducible refine s_star ?_ | with_reducible refine s_neg ?_ | with_reducible refine s_not ?_ | with_reducible refine s_and ?_ | with_reducible refine s_or ?_ | with_reducible refine s_ite ?_ | with_reducible refine s_isi ?_ | with_reducible refine s_app ?_ | with_reducible refine s_ext ?_ | with_reducible refine s_iseq ?_ | with_reducible refine s_ienum ?_ | with_reducible refine s_izip ?_ | with_reducible refine s_irng ?_ | with_reducible refine s_lrg ?_ | with_reducible refine s_slc ?_ | with_reducible refine s_rev ?_ | with_reducible refine s_add ?_ | with_reducible refine s_sub ?_
  | refine ⟨_, rfl, ?_⟩ | refine ⟨(Nat.le_of_ble_eq_true rfl : List.length _ ≤ 100000), ?_⟩)

instance (n : Nat) (w : Row) (v : List Rat) : Decidable (HoldsAt n w v) := inferInstanceAs (Decidable (0 ≤ valR w v n))
def pd (v : List Rat) : Nat → Int
  | 0 => 1
  | i + 1 => pd v i * ((v.getD i 0).den : Int)
theorem pd_pos (v : List Rat) : ∀ i, 0 < pd v i
  | 0 => show (0 : Int) < 1 by decide
  | i + 1 => Int.mul_pos (pd_pos v i) (den_pos _)
theorem pd_dvd (v : List Rat) : ∀ i j, j < i → ((v.getD j 0).den : Int) ∣ pd v i
  | 0, j, h => by omega
  | i + 1, j, h => by
    by_cases e : j = i
    · subst e; exact Int.dvd_mul_left ..
    · exact Int.dvd_mul_of_dvd_left (pd_dvd v i j (by omega))
theorem pd_lt {v : List Rat} (sz : ∀ q ∈ v, Sz 4000 q) : ∀ i, i ≤ v.length → (pd v i).natAbs < 2 ^ (4000 * i + 1)
  | 0, _ => show (1 : Int).natAbs < 2 ^ 1 by decide
  | i + 1, h => by
    have ih := pd_lt sz i (by omega)
    have z := (sz _ (List.getElem_mem (show i < v.length by omega))).2
    show (pd v i * ((v.getD i 0).den : Int)).natAbs < _
    rw [Int.natAbs_mul, getD_at (by omega)]
    have := lt_mul ih (show ((v[i]'(by omega)).den : Int).natAbs < 2 ^ 4000 by simpa using z)
    have e : 4000 * (i + 1) + 1 = 4000 * i + 1 + 4000 := by omega
    rw [e]; exact this
theorem sumI_snoc (l : List Int) (x : Int) : sumI (l ++ [x]) = sumI l + x := by
  induction l with
  | nil => show x + 0 = 0 + x; omega
  | cons a l ih =>
    show a + sumI (l ++ [x]) = a + sumI l + x
    rw [ih]; omega
theorem sumI_sm (f : Nat → Int) : ∀ n, ((sumI ((List.range n).map f) : Int) : Rat) = sm n fun j => ((f j : Int) : Rat)
  | 0 => rfl
  | n + 1 => by
    rw [List.range_succ, List.map_append]
    show ((sumI ((List.range n).map f ++ [f n]) : Int) : Rat) = sm n _ + _
    rw [sumI_snoc, Rat.intCast_add, sumI_sm f n]
section
variable {lf : Nat} (hl : 300000 ≤ lf)
include hl in
theorem r_at (k : Nat) {h : Hp} {n : Nat} {w : Row} {v : List Rat} (ok : RowOk n w) (vl : v.length = n) (n4 : n ≤ 4) (sz : ∀ q ∈ v, Sz 4000 q) : Sat (run gg lf (k + 1) 41 [rowD w, .tup (frs v)] h) fun d h' => Gr h h' ∧ d = .bl (decide (HoldsAt n w v)) := by
  refine run_of (i := ⟨2, 6, b41⟩) rfl rfl ?_
  show SX (ex gg _ _ lf b41 [some (.tup [.int w.1, .tup (intsL w.2)]), some (.tup (frs v)), none, none, none, none] h) _ _
  unfold b41
  array_get_dec
  refine sx_frI ?_
  array_get_dec
  refine ⟨a0_tup, ?_⟩
  have lv : (frs v).length = n := by simp; exact vl
  have lw : (intsL w.2).length = n := by simp [intsL]; exact ok.len
  have P20 : ∀ i, i ≤ n → (pd v i).natAbs < 2 ^ 20000 := fun i hi => Nat.lt_of_lt_of_le (pd_lt sz i (by omega)) (Nat.pow_le_pow_right (by omega) (by omega))
  have D9 : ∀ i (hi : i < v.length), ((v[i]).den : Int).natAbs < 2 ^ 9000 := fun i hi => by
    have z := (sz _ (List.getElem_mem hi)).2
    exact Nat.lt_of_lt_of_le (show ((v[i]).den : Int).natAbs < 2 ^ 4000 by simpa using z) (Nat.pow_le_pow_right (by omega) (by omega))
  have L9 : (2 : Nat) ^ 9000 ≤ 2 ^ 20000 := Nat.pow_le_pow_right (by omega) (by omega)
  refine s_fr (xs := frs v) (fun i σ h' => h' = h ∧ ∃ o3 o4, σ = [some (.tup [.int w.1, .tup (intsL w.2)]), some (.tup (frs v)), some (.int (pd v i)), o3, o4, none]) hl (by omega) ?_ ?_ ⟨rfl, none, none, rfl⟩
  · rintro i hi σ h2 ⟨rfl, o3, o4, rfl⟩
    have iv : i < v.length := by omega
    have ei : (frs v)[i] = fr v[i] := by simp
    refine ⟨has_tup.1 i hi, [some (.tup [.int w.1, .tup (intsL w.2)]), some (.tup (frs v)), some (.int (pd v i)), some (.int v[i].num), some (.int (v[i].den : Int)), none], by rw [ei]; rfl, ?_⟩
    array_get_dec
    refine s_mul (P20 i (by omega)) (Nat.lt_of_lt_of_le (D9 i iv) L9) ?_
    array_get_dec
    refine ⟨rfl, some (.int v[i].num), some (.int (v[i].den : Int)), ?_⟩
    have e : pd v (i + 1) = pd v i * (v[i].den : Int) := by show pd v i * ((v.getD i 0).den : Int) = _; rw [getD_at iv]
    rw [e]; rfl
  · rintro σ h2 ⟨rfl, o3, o4, rfl⟩
    refine ⟨has_tup.2, ?_⟩
    rw [lv]
    have pp := pd_pos v n
    have pl := P20 n (Nat.le_refl _)
    have pdv := pd_dvd v n
    have pdl := pd_lt sz n (by omega)
    generalize pd v n = b at *
    array_get_dec
    refine s_mul (int_lt (b := 1000) (by have := ok.b1; omega)) pl ?_
    refine s_blt (s_cons ?_)
    refine s_compI ?_
    array_get_dec
    refine ⟨a0_tup, a0_tup, ?_⟩
    have ln : (((intsL w.2).zip (frs v)).map fun p : D × D => D.tup [p.1, p.2]).length = n := by simp [lw, lv]
    refine s_compP (fun j => .int (w.2.getD j 0 * (v.getD j 0).num * (b / ((v.getD j 0).den : Int)))) hl (xs := ((intsL w.2).zip (frs v)).map fun p => .tup [p.1, p.2]) (by omega) (fun h' g => has_zipTT (by omega)) (fun j hj => ?_) fun h3 g3 t3 => ?_
    · have jn : j < n := by omega
      have jw : j < w.2.length := by have := ok.len; omega
      have jv : j < v.length := by omega
      have ej : (((intsL w.2).zip (frs v)).map fun p : D × D => D.tup [p.1, p.2])[j] = .tup [.int w.2[j], .tup [.int v[j].num, .int (v[j].den : Int)]] := by
        rw [List.getElem_map, List.getElem_zip]
        simp only [intsL, List.getElem_map]
        rfl
      have fb := ok.b2 _ (List.getElem_mem jw)
      have nb := (sz _ (List.getElem_mem jv)).1
      refine ⟨_, by rw [ej]; rfl, fun h' g => ?_⟩
      array_get_dec
      refine s_mul (int_lt (b := 1000) (by omega)) (Nat.lt_of_lt_of_le nb (Nat.pow_le_pow_right (by omega) (by omega))) ?_
      array_get_dec
      refine s_fdiv (den_pos _) (D9 j jv) ?_
      refine s_mul ?_ (Nat.lt_of_le_of_lt (Int.natAbs_ediv_le_natAbs ..) pl) ?_
      · rw [Int.natAbs_mul]
        have := lt_mul (n := 7) (m := 4000) (show (w.2[j]).natAbs < 2 ^ 7 by omega) nb
        exact Nat.lt_of_lt_of_le this (Nat.pow_le_pow_right (by omega) (by omega))
      · rw [getD_at jw, getD_at jv]
        exact ⟨Gr.refl _, rfl⟩
    rw [ln] at t3
    have ei : (List.range n).map (fun j => D.int (w.2.getD j 0 * (v.getD j 0).num * (b / ((v.getD j 0).den : Int)))) = intsL ((List.range n).map fun j => w.2.getD j 0 * (v.getD j 0).num * (b / ((v.getD j 0).den : Int))) := by simp [intsL]
    rw [ei] at t3
    array_get_dec
    refine s_sum t3 ?_
    array_get_dec
    refine ⟨g3, ?_⟩
    congr 1
    have bR : (0 : Rat) < (b : Rat) := by exact_mod_cast pp
    have key : ((w.1 * b + sumI ((List.range n).map fun j => w.2.getD j 0 * (v.getD j 0).num * (b / ((v.getD j 0).den : Int))) : Int) : Rat) = valR w v n * (b : Rat) := by
      rw [Rat.intCast_add, Rat.intCast_mul, sumI_sm]
      unfold valR
      have : (sm n fun j => ((w.2.getD j 0 * (v.getD j 0).num * (b / ((v.getD j 0).den : Int)) : Int) : Rat)) = (sm n fun u => ((w.2.getD u 0 : Int) : Rat) * v.getD u 0) * (b : Rat) := by
        rw [← sm_mulR]
        refine sm_congr fun j hj => ?_
        have dv := Int.ediv_mul_cancel (pdv j hj)
        have dv2 : ((b / ((v.getD j 0).den : Int) : Int) : Rat) * (((v.getD j 0).den : Int) : Rat) = (b : Rat) := by rw [← Rat.intCast_mul, dv]
        rw [Rat.intCast_mul, Rat.intCast_mul, ← dv2, ← mul_den (v.getD j 0)]
        grind
      rw [this]
      grind
    rw [decide_eq_decide]
    unfold HoldsAt
    constructor
    · intro c
      refine nonneg_of_mul bR ?_
      rw [← key]
      exact_mod_cast c
    · intro c
      have := Rat.mul_nonneg c (Rat.le_of_lt bR)
      rw [← key] at this
      exact_mod_cast this
end
end W57

set_option linter.all false
set_option maxRecDepth 100000
set_option exponentiation.threshold 20000
/-! XE: the law. -/
namespace W57
open VI M57 L57
local macro_rules
  | `(tactic| array_get_dec) => `(tactic| repeat first
  | with_reducible refine sx_seq ?_ | with_reducible refine sx_set ?_ | with_reducible refine sx_ret ?_ | with_reducible refine sx_exp ?_ | with_reducible refine sx_nil ?_ | with_reducible refine sx_ifs ?_ | with_reducible refine sx_setI ?_ | with_reducible refine sx_setF ?_ | with_reducible refine sx_setT ?_
  | ((with_reducible apply s_slot); · rfl) | with_reducible refine s_cst ?_ | with_reducible refine s_nop ?_ | with_reducible refine s_nil ?_ | with_reducible refine s_cons ?_ | with_reducible refine s_idx ?_ | with_reducible refine s_cmp ?_ | with_reducible refine s_chain ?_ | with_reducible refine s_bin ?_ | with_reducible refine s_fld ?_ | with_reducible refine s_call ?_ | with_reducible refine s_blt ?_ | with_reducible refine s_meth ?_ | with_reducible refine s_tup ?_ | with_reducible refine s_lst ?_ | with_reducible refine s_star ?_ | with_reducible refine s_neg ?_ | with_reducible refine s_not ?_ | with_reducible refine s_and ?_ | with_reducible refine s_or ?_ | with_reducible refine s_ite ?_ | with_reducible refine s_isi ?_ | with_reducible refine s_app ?_ | with_reducible refine s_ext ?_ | with_reducible refine s_iseq ?_ | with_reducible refine s_ienum ?_ | with_reducible refine s_izip ?_ | with_reducible refine s_irng ?_ | with_reducible refine s_lrg ?_ | with_reducible refine s_slc ?_ | with_reducible refine s_rev ?_ | with_reducible refine s_add ?_ | with_reducible refine s_sub ?_
  | refine ⟨_, rfl, ?_⟩ | refine ⟨(Nat.le_of_ble_eq_true rfl : List.length _ ≤ 100000), ?_⟩)

theorem idx_head {a : D} {xs : List D} {h : Hp} : idx2 (.tup (a :: xs)) (.int 0) h = some a := rfl
theorem idx_two {a b : D} {h : Hp} : idx2 (.tup [a, b]) (.int 1) h = some b := rfl
theorem cmp_eqS {s t : List Nat} {h : Hp} : cmp2 .eq (.str s) (.str t) h = some (s == t) := by
  show deq 64 (.str s) (.str t) = _
  unfold deq; rfl
theorem cmp_neS {s t : List Nat} {h : Hp} : cmp2 .ne (.str s) (.str t) h = some (!(s == t)) := by
  show (match deq 64 (.str s) (.str t) with
    | some b => some (!b)
    | none => none) = _
  unfold deq; rfl
theorem Bd.ok {n b : Nat} {w : Row} (x : Bd n b w) (hb : b ≤ 102) : RowOk n w := ⟨x.len, Nat.le_trans x.b1 hb, fun f hf => Nat.le_trans (x.b2 f hf) hb⟩
theorem Told.not {n : Nat} {ws : List Row} {w : Row} {d : D} (t : Told n ws w d) (f : Follows n ws w) : ∃ s xs, d = .tup (.str s :: xs) ∧ (s == sSpot) = false := by
  rcases t with ⟨v, _, _, _, h1, h2⟩ | ⟨s, xs, e, ne, _⟩
  · exact absurd (f v h1) h2
  · exact ⟨s, xs, e, by simpa using ne⟩
section
variable {lf : Nat} (hl : 300000 ≤ lf)
include hl in
theorem e_all (k : Nat) {ci : Nat → List D → Hp → R D} {env : Env} {h : Hp} {it es : E} {n : Nat} {L : List Row} {v : List Rat} {Q : D → Hp → Prop} (hit : Sat (ev gg (run gg lf (k + 1)) ci lf it env h) fun d h' => h' = h ∧ d = rowsD L)
    (hes : ∀ x h', ev gg (run gg lf (k + 1)) ci lf es (setS (wipeL env [9]) 9 x) h' = .ok (.tup (frs v)) h') (hs : ∀ x, getS (setS (wipeL env [9]) 9 x) 9 = some x) (ok : ∀ w ∈ L, RowOk n w) (ll : L.length ≤ 9) (vl : v.length = n) (n4 : n ≤ 4) (sz : ∀ q ∈ v, Sz 4000 q)
    (q : ∀ b h', Gr h h' → (b = true ↔ ∀ w ∈ L, HoldsAt n w v) → Q (.bl b) h') :
    Sat (ev gg (run gg lf (k + 1)) ci lf (.blt 5 (.cons (.comp [9] (.iseq it) (.nm 9) (.cst (.bl true)) (.call 41 (.cons (.slot 9) (.cons es .nil)))) .nil)) env h) Q := by
  refine s_blt (s_cons (s_compI (s_iseq (hit.imp ?_))))
  rintro d h1 ⟨rfl, rfl⟩
  refine ⟨a0_tup, ?_⟩
  have lw : (L.map rowD).length = L.length := by simp
  refine s_compP (fun i => .bl (decide (HoldsAt n (L.getD i (0, [])) v))) hl (xs := L.map rowD) (by omega) (fun h' g => has_tup) (fun i hi => ?_) fun h2 g2 t2 => ?_
  · have iw : i < L.length := by omega
    refine ⟨_, rfl, fun h' g => ?_⟩
    rw [List.getElem_map]
    refine s_call (s_cons (s_slot (hs _) (s_cons (s_of (hes _ _) (s_nil ⟨_, rfl, ⟨_, rfl, ⟨_, rfl, ?_⟩⟩⟩)))))
    rw [getD_at iw]
    exact r_at hl k (ok _ (List.getElem_mem iw)) vl n4 sz
  rw [lw] at t2
  refine s_nil ⟨_, rfl, _, rfl, s_all (p := fun i => decide (HoldsAt n (L.getD i (0, [])) v)) t2 ?_⟩
  refine q _ _ g2 ?_
  rw [allB_iff]
  constructor
  · intro a w hw
    obtain ⟨i, hi, rfl⟩ := List.getElem_of_mem hw
    have := a _ (List.mem_map.mpr ⟨i, List.mem_range.mpr hi, rfl⟩)
    rw [getD_at hi] at this
    exact of_decide_eq_true this
  · intro a b hb
    obtain ⟨i, hi, rfl⟩ := List.mem_map.mp hb
    have hi := List.mem_range.mp hi
    rw [getD_at hi]
    exact decide_eq_true (a _ (List.getElem_mem hi))
theorem sN_const {b : Nat → Nat} {c : Nat} : ∀ i, (∀ j, j < i → b j = c) → sN b i = i * c
  | 0, _ => by simp [sN]
  | i + 1, h => by
    show sN b i + b i = _
    rw [sN_const i (fun j hj => h j (by omega)), h i (by omega), Nat.add_mul]
    omega
theorem sN_mono {b : Nat → Nat} {N : Nat} : ∀ i, i ≤ N → sN b i ≤ sN b N := by
  induction N with
  | zero => intro i hi; have : i = 0 := by omega
            subst this; exact Nat.le_refl _
  | succ N ih =>
    intro i hi
    by_cases e : i = N + 1
    · rw [e]; exact Nat.le_refl _
    · have := ih i (by omega)
      show _ ≤ sN b N + b N
      omega
include hl in
theorem r_right (k : Nat) {h : Hp} {n c : Nat} (p : Pot h n c) (c6 : c ≤ 10000) : Sat (run gg lf (k + 13) 42 [.ref n] h) fun d h' => d = .bl true ∧ Gx [n] h h' ∧ Pot h' n (c + 200) := by
  refine run_of (i := ⟨1, 10, b42⟩) rfl rfl ?_
  show SX (ex gg _ _ lf b42 [some (.ref n), none, none, none, none, none, none, none, none, none] h) _ _
  unfold b42
  array_get_dec
  refine (r_take (lf := lf) (k + 11) (b := 4) p (by omega) (by omega) (by omega)).imp ?_
  rintro d h1 ⟨v, rfl, v0, v1, g1, p1⟩
  array_get_dec
  refine s_intI ?_
  obtain ⟨m, hm⟩ : ∃ m : Nat, 1 + v = (m : Int) := ⟨(1 + v).toNat, by omega⟩
  have m4 : m ≤ 4 := by omega
  rw [hm]
  refine sx_seq (sx_set (s_blt (s_cons (s_compI ?_))))
  array_get_dec
  refine (r_take (lf := lf) (k + 11) (b := 4) p1 (by omega) (by omega) (by omega)).imp ?_
  rintro d h2 ⟨u, rfl, u0, u1, g2, p2⟩
  array_get_dec
  obtain ⟨N, hN⟩ : ∃ N : Nat, 1 + u = (N : Int) := ⟨(1 + u).toNat, by omega⟩
  have N4 : N ≤ 4 := by omega
  have N1 : 0 < N := by omega
  rw [hN]
  refine ⟨_, _, rfl, rng_lt _ (by omega), ?_⟩
  have np : n < h2.next := p2.lt
  refine s_compJ (xs := rngL 0 N) (fun i acc h' => ∃ ws : List Row, acc = ws.map rowD ∧ (∀ w ∈ ws, Bd m 4 w) ∧ Gx [n] h2 h' ∧ Pot h' n (c + 2 + 10 * i)) hl (by rw [rngL_len]; omega) ?_ ?_ ⟨[], rfl, by simp, (Gr.push _ _).gx, (p2.gr (Gr.push _ _)).up (by omega)⟩
  · rintro i hi acc h3 ⟨ws, rfl, wb, g3, p3⟩ t3
    rw [rngL_len] at hi
    refine ⟨has_rng.1 i (by rw [rngL_len]; exact hi), _, rfl, ?_⟩
    array_get_dec
    refine (r_row hl (k + 10) p3 m4 (by omega)).imp ?_
    rintro d h4 ⟨w, rfl, bw, g4, p4⟩
    have t4 := g4.keep t3 (by simp; omega)
    refine ⟨t4, ws ++ [w], by simp, fun x hx => ?_, ⟨(g3.trans g4).le, fun a ha hb => ?_⟩, ?_⟩
    · rcases List.mem_append.mp hx with y | y
      · exact wb x y
      · have : x = w := by simpa using y
        rw [this]; exact bw
    · rw [Hp.get_set _ _ _ _ (Hp.lt_of_get t4), if_neg (by omega)]
      exact (g3.trans g4).eq a ha hb
    · obtain ⟨a, b, q, e, vv⟩ := p4
      exact ⟨a, b, q, by rw [Hp.get_set _ _ _ _ (Hp.lt_of_get t4), if_neg (by omega)]; exact e, { vv with m1 := by have := vv.m1; omega }⟩
  rintro acc h3 ⟨ws, rfl, wb, g3, p3⟩ t3
  refine ⟨has_rng.2, fun la => ?_⟩
  rw [rngL_len] at la p3
  have wl : ws.length = N := by simpa using la
  array_get_dec
  refine s_tupl t3 ?_
  -- three
  have s4 : sN (fun _ => 4) ws.length = ws.length * 4 := sN_const _ fun _ _ => rfl
  array_get_dec
  refine (r_together hl (k + 10) (bd := fun _ => 4) p3 m4 (by omega) (by omega) (fun i hi => wb _ (List.getElem_mem hi)) (by omega) (fun i hi => sN_mono i hi)).imp ?_
  rintro d h4 ⟨three, rfl, b3, g4, p4, f3⟩
  have b3' : Bd m 34 three := ⟨b3.len, Nat.le_trans b3.b1 (by omega), fun f hf => Nat.le_trans (b3.b2 f hf) (by omega)⟩
  -- four
  have e4 : sN (fun j => if j < ws.length then 4 else 34) (ws ++ [three]).length = ws.length * 4 + 34 := by
    rw [List.length_append]
    show sN _ ws.length + (if ws.length < ws.length then 4 else 34) = _
    rw [sN_const (c := 4) _ (fun j hj => if_pos hj), if_neg (by omega)]
  have em : ∀ xs : List Row, (ws.map rowD) ++ xs.map rowD = (ws ++ xs).map rowD := fun xs => by simp
  array_get_dec
  refine s_addT (by simp; omega) ?_
  array_get_dec
  rw [show (ws.map rowD) ++ [rowD three] = (ws ++ [three]).map rowD by simp]
  refine (r_together hl (k + 10) (ws := ws ++ [three]) (bd := fun j => if j < ws.length then 4 else 34) p4 m4 (by omega) (by simp; omega) (fun i hi => ?_) (by omega) (fun i hi => sN_mono i hi)).imp ?_
  · by_cases c : i < ws.length
    · rw [List.getElem_append_left c]
      show Bd m (if i < ws.length then 4 else 34) _
      rw [if_pos c]; exact wb _ (List.getElem_mem c)
    · have : i = ws.length := by simp at hi; omega
      subst this
      rw [List.getElem_append_right (by omega)]
      show Bd m (if ws.length < ws.length then 4 else 34) _
      rw [if_neg (by omega)]
      simpa using b3'
  rintro d h5 ⟨four, rfl, b4, g5, p5, f4'⟩
  have f4 : Follows m ws four := fun v hv => f4' v fun w hw => by
    rcases List.mem_append.mp hw with y | y
    · exact hv w y
    · have : w = three := by simpa using y
      rw [this]; exact f3 v hv
  have ok : ∀ w ∈ ws, RowOk m w := fun w hw => (wb w hw).ok (by omega)
  have ok3 := b3'.ok (by omega)
  have ok4 : RowOk m four := b4.ok (by omega)
  -- follows, twice
  array_get_dec
  refine (r_follows hl k m ok ok3 m4 (by omega) (by omega)).imp ?_
  rintro d h6 ⟨g6, t6⟩
  obtain ⟨s6, xs6, rfl, n6⟩ := t6.not f3
  refine s_cst ⟨_, idx_head, s_cst ⟨_, cmp_eqS, _, rfl, fun c => ?_, fun _ => ?_⟩⟩
  · exact absurd (n6.symm.trans c) (by decide)
  array_get_dec
  refine (r_follows hl k m ok ok4 m4 (by omega) (by omega)).imp ?_
  rintro d h7 ⟨g7, t7⟩
  obtain ⟨s7, xs7, rfl, n7⟩ := t7.not f4
  refine s_cst ⟨_, idx_head, s_cst ⟨_, cmp_eqS, _, rfl, fun c => ?_, fun _ => ?_⟩⟩
  · exact absurd (n7.symm.trans c) (by decide)
  -- a spot
  array_get_dec
  refine (r_holds hl (k + 1) m ok m4 (by omega)).imp ?_
  rintro d h8 ⟨g8, hd8⟩
  have p8 := p5.gr (g6.trans (g7.trans g8))
  array_get_dec
  refine (r_row hl (k + 10) p8 m4 (by omega)).imp ?_
  rintro d6 h9 ⟨other, rfl, bo, g9, p9⟩
  have oko := bo.ok (by omega)
  refine s_nil ⟨_, rfl, _, rfl, _, rfl, Nat.le_of_ble_eq_true rfl, _, rfl, ?_⟩
  have gA : Gx [n] h h9 := g1.trans (g2.trans (g3.trans (g4.trans (g5.trans ((g6.trans (g7.trans g8)).gx.trans g9)))))
  have all2 : ∀ v, (∀ w ∈ ws, HoldsAt m w v) → ∀ w ∈ ws ++ [three, four], HoldsAt m w v := fun v hv w hw => by
    rcases List.mem_append.mp hw with y | y
    · exact hv w y
    · have : w = three ∨ w = four := by simpa using y
      rcases this with rfl | rfl
      · exact f3 v hv
      · exact f4 v hv
  have okA : ∀ w ∈ ws ++ [three, four], RowOk m w := fun w hw => by
    rcases List.mem_append.mp hw with y | y
    · exact ok w y
    · have : w = three ∨ w = four := by simpa using y
      rcases this with rfl | rfl
      · exact ok3
      · exact ok4
  -- from here on
  have rest : ∀ h10, Gr h9 h10 → ∀ d5, SX (ex gg (run gg lf (k + 12)) (runAt gg lf (k + 12)) lf (.seq (.set 7 (.call 34 (.cons (.slot 1) (.cons (.slot 2) (.cons (.slot 6) .nil))))) (.seq (.ifs (.cmp .eq (.idx (.slot 7) (.cst (.int 0))) (.cst (.str [115, 112, 111, 116]))) (.seq (.ifs (.or (.not (.blt 5 (.cons (.comp [9] (.iseq (.bin .add (.slot 2) (.tup (.cons (.slot 3) (.cons (.slot 4) .nil))))) (.nm 9) (.cst (.bl true)) (.call 41 (.cons (.slot 9) (.cons (.idx (.slot 7) (.cst (.int 1))) .nil)))) .nil))) (.call 41 (.cons (.slot 6) (.cons (.idx (.slot 7) (.cst (.int 1))) .nil)))) (.seq (.ret (.cst (.bl false))) .nil) .nil) (.seq (.ret (.cmp .eq (.idx (.call 34 (.cons (.slot 1) (.cons (.bin .add (.slot 2) (.tup (.cons (.slot 3) (.cons (.slot 4) .nil)))) (.cons (.slot 6) .nil)))) (.cst (.int 0))) (.cst (.str [115, 112, 111, 116])))) .nil)) .nil) (.seq (.ret (.cmp .ne (.idx (.call 34 (.cons (.slot 1) (.cons (.bin .add (.rev (.slot 2)) (.tup (.cons (.slot 4) .nil))) (.cons (.slot 6) .nil)))) (.cst (.int 0))) (.cst (.str [115, 112, 111, 116])))) .nil)))
      [some (.ref n), some (.int (m : Int)), some (.tup (ws.map rowD)), some (rowD three), some (rowD four), some d5, some (rowD other), none, none, none] h10) (fun _ h' => D.non = .bl true ∧ Gx [n] h h' ∧ Pot h' n (c + 200)) (fun d h' => d = .bl true ∧ Gx [n] h h' ∧ Pot h' n (c + 200)) := by
    intro h10 g10 d5
    have fin : ∀ h', Gr h10 h' → Gx [n] h h' ∧ Pot h' n (c + 200) := fun h' g => ⟨gA.trans (g10.trans g).gx, (p9.gr (g10.trans g)).up (by omega)⟩
    array_get_dec
    refine (r_follows hl k m ok oko m4 (by omega) (by omega)).imp ?_
    rintro d h11 ⟨g11, t11⟩
    rcases t11 with ⟨v, rfl, vl, vsz, vh, vn⟩ | ⟨s, xs, rfl, sne, fo⟩
    · refine sx_seq (sx_ifs (s_cmp (s_idx (s_slot rfl (s_cst ⟨_, idx_head, s_cst ⟨_, cmp_eqS, _, rfl, fun _ => ?_, fun c => absurd c (by decide)⟩⟩)))))
      refine sx_seq (sx_ifs (s_or (s_not ?_)))
      refine e_all hl (k + 11) (L := ws ++ [three, four]) (v := v) (n := m) ?_ (fun x h' => v_idx (v_slot rfl) v_cst idx_two) (fun x => rfl) okA (by simp; omega) vl m4 vsz fun b h12 g12 hb => ?_
      · array_get_dec
        refine s_addT (by simp; omega) ?_
        exact ⟨rfl, by simp [rowsD]⟩
      have bt : b = true := hb.mpr (all2 v vh)
      subst bt
      refine ⟨_, rfl, _, rfl, fun z => absurd z (by decide), fun _ => ?_⟩
      refine s_call (s_cons (s_slot rfl (s_cons (s_idx (s_slot rfl (s_cst ⟨_, idx_two, s_nil ⟨_, rfl, _, rfl, _, rfl, ?_⟩⟩))))))
      refine (r_at hl (k + 11) oko vl m4 vsz).imp ?_
      rintro d h13 ⟨g13, rfl⟩
      rw [decide_eq_false vn]
      refine ⟨_, rfl, fun z => absurd z (by decide), fun _ => sx_nil ?_⟩
      array_get_dec
      refine s_addT (by simp; omega) ?_
      array_get_dec
      rw [show (ws.map rowD) ++ [rowD three, rowD four] = (ws ++ [three, four]).map rowD by simp]
      refine (r_follows hl k m okA oko m4 (by simp; omega) (by simp)).imp ?_
      rintro d h14 ⟨g14, t14⟩
      rcases t14 with ⟨v2, rfl, _, _, _, _⟩ | ⟨s, xs, rfl, sne, fo⟩
      · refine s_cst ⟨_, idx_head, s_cst ⟨_, cmp_eqS, ?_⟩⟩
        refine ⟨rfl, fin h14 (g11.trans (g12.trans (g13.trans g14)))⟩
      · exact absurd (fo v (all2 v vh)) vn
    · have sf : (s == sSpot) = false := by simpa using sne
      refine sx_seq (sx_ifs (s_cmp (s_idx (s_slot rfl (s_cst ⟨_, idx_head, s_cst ⟨_, cmp_eqS, _, rfl, fun c => absurd (sf.symm.trans c) (by decide), fun _ => sx_nil ?_⟩⟩)))))
      array_get_dec
      refine s_addT (by simp; omega) ?_
      array_get_dec
      rw [show (ws.map rowD).reverse ++ [rowD four] = (ws.reverse ++ [four]).map rowD by simp]
      refine (r_follows hl k m (ws := ws.reverse ++ [four]) (fun w hw => ?_) oko m4 (by simp; omega) (by simp)).imp ?_
      · rcases List.mem_append.mp hw with y | y
        · exact ok w (List.mem_reverse.mp y)
        · have : w = four := by simpa using y
          rw [this]; exact ok4
      rintro d h12 ⟨g12, t12⟩
      obtain ⟨s2, xs2, rfl, n2⟩ := t12.not fun v hv => fo v fun w hw => hv w (List.mem_append_left _ (List.mem_reverse.mpr hw))
      refine s_cst ⟨_, idx_head, s_cst ⟨_, cmp_neS, ?_⟩⟩
      refine ⟨?_, fin h12 (g11.trans g12)⟩
      show D.bl (!(s2 == sSpot)) = _
      rw [n2]; rfl
  rcases hd8 with rfl | ⟨v, rfl, vl, vsz, vh⟩
  · array_get_dec
    refine ⟨fun _ => ?_, fun z => absurd (show false = true from z) (by decide)⟩
    array_get_dec
    refine ⟨fun z => absurd z (by decide), fun _ => sx_nil ?_⟩
    exact rest h9 (Gr.refl _) _
  · refine sx_seq (sx_ifs (s_and (s_cmp (s_slot rfl (s_cst ⟨_, rfl, _, rfl, fun z => absurd (show true = false from z) (by decide), fun _ => s_not ?_⟩)))))
    refine e_all hl (k + 11) (L := [three, four] ++ ws) (v := v) (n := m) ?_ (fun x h' => v_slot rfl) (fun x => rfl) (fun w hw => okA w (List.mem_append.mpr (List.mem_append.mp hw).symm)) (by simp; omega) vl m4 vsz fun b h12 g12 hb => ?_
    · array_get_dec
      refine s_addT (by simp; omega) ?_
      exact ⟨rfl, by simp [rowsD]⟩
    have bt : b = true := hb.mpr fun w hw => all2 v vh w (List.mem_append.mpr (List.mem_append.mp hw).symm)
    subst bt
    refine ⟨_, rfl, _, rfl, fun z => absurd z (by decide), fun _ => sx_nil ?_⟩
    exact rest h12 g12 _
end
end W57

set_option linter.all false
set_option maxRecDepth 100000
set_option exponentiation.threshold 20000
/-! XF: the law, whole. -/
namespace W57
open VI M57 L57
local macro_rules
  | `(tactic| array_get_dec) => `(tactic| repeat first
  | with_reducible refine sx_seq ?_ | with_reducible refine sx_set ?_ | with_reducible refine sx_ret ?_ | with_reducible refine sx_exp ?_ | with_reducible refine sx_nil ?_ | with_reducible refine sx_ifs ?_ | with_reducible refine sx_setI ?_ | with_reducible refine sx_setF ?_ | with_reducible refine sx_setT ?_
  | ((with_reducible apply s_slot); · rfl) | with_reducible refine s_cst ?_ | with_reducible refine s_nop ?_ | with_reducible refine s_nil ?_ | with_reducible refine s_cons ?_ | with_reducible refine s_idx ?_ | with_reducible refine s_cmp ?_ | with_reducible refine s_chain ?_ | with_reducible refine s_bin ?_ | with_reducible refine s_fld ?_ | with_reducible refine s_call ?_ | with_reducible refine s_blt ?_ | with_reducible refine s_meth ?_ | with_reducible refine s_tup ?_ | with_reducible refine s_lst ?_ | with_reducible refine s_star ?_ | with_reducible refine s_neg ?_ | with_reducible refine s_not ?_ | with_reducible refine s_and ?_ | with_reducible refine s_or ?_ | with_reducible refine s_ite ?_ | with_reducible refine s_isi ?_ | with_reducible refine s_app ?_ | with_reducible refine s_ext ?_ | with_reducible refine s_iseq ?_ | with_reducible refine s_ienum ?_ | with_reducible refine s_izip ?_ | with_reducible refine s_irng ?_ | with_reducible refine s_lrg ?_ | with_reducible refine s_slc ?_ | with_reducible refine s_rev ?_ | with_reducible refine s_add ?_ | with_reducible refine s_sub ?_
  | refine ⟨_, rfl, ?_⟩ | refine ⟨(Nat.le_of_ble_eq_true rfl : List.length _ ≤ 100000), ?_⟩)

theorem upTo_len : ∀ (m : Nat) (i : Int), (upTo m i).length = m
  | 0, _ => rfl
  | m + 1, i => by show (upTo m (i + 1)).length + 1 = m + 1; rw [upTo_len m]
theorem upTo_get : ∀ (m : Nat) (i : Int) (j : Nat) (h : j < (upTo m i).length), (upTo m i)[j] = .int (i + j)
  | 0, _, _, h => by simp [upTo] at h
  | m + 1, i, 0, _ => by show D.int i = _; simp
  | m + 1, i, j + 1, h => by
    show (upTo m (i + 1))[j]'(by simpa [upTo] using h) = _
    rw [upTo_get m (i + 1) j]
    congr 1
    omega
section
variable {lf : Nat} (hl : 300000 ≤ lf)
include hl in
theorem r_law (k : Nat) {h : Hp} {ns : List Int} (e : seqOf h 0 = some (intsL ns)) (e0 : ∃ o, h.get 0 = some o) (nl : ns.length ≤ 63) : Sat (run gg lf (k + 14) 43 [.ref 0] h) fun d h' => d = .bl true := by
  refine run_of (i := ⟨1, 4, b43⟩) rfl rfl ?_
  show SX (ex gg _ _ lf b43 [some (.ref 0), none, none, none] h) _ _
  unfold b43
  have sq : ∀ h', Gr h h' → seqOf h' 0 = some (intsL ns) := fun h' g => by
    obtain ⟨o, eo⟩ := e0
    unfold seqOf at e ⊢
    rw [g.eq 0 (Hp.lt_of_get eo)]
    exact e
  refine sx_seq (sx_frI ?_)
  array_get_dec
  refine (r_cells (k + 12) e nl).imp ?_
  rintro d h1 ⟨n, m, rfl, m2, g1, t1⟩
  refine ⟨⟨_, a1_at (seq_of t1)⟩, ?_⟩
  have ul := upTo_len m 0
  refine s_fr (xs := upTo m 0) (fun i σ h' => Gr h1 h' ∧ ∃ o1 o2, σ = [some (.ref 0), o1, o2, none]) hl (by omega) ?_ ?_ ⟨Gr.refl _, none, none, rfl⟩
  · rintro i hi σ h2 ⟨g2, o1, o2, rfl⟩
    have ei : (upTo m 0)[i] = .int (i : Int) := by rw [upTo_get]; simp
    refine ⟨(has_lst (g2.get t1)).1 i hi, [some (.ref 0), some (.int (i : Int)), o2, none], by rw [ei]; rfl, ?_⟩
    array_get_dec
    refine (r_pot (k + 12) (sq h2 (g1.trans g2)) (by omega)).imp ?_
    rintro d h3 ⟨u, rfl, ule, g3, p3⟩
    refine sx_seq (sx_ifs (s_not (s_blt (s_cons (s_compI ?_)))))
    array_get_dec
    refine ⟨_, _, rfl, rng_lt 8 (by omega), ?_⟩
    have un : u < h3.next := p3.lt
    refine s_compJ (xs := rngL 0 8) (fun i acc h' => acc = (List.range i).map (fun _ => D.bl true) ∧ Gx [u] h3 h' ∧ Pot h' u (200 * i)) hl (by rw [rngL_len]; omega) ?_ ?_ ⟨rfl, (Gr.push _ _).gx, p3.gr (Gr.push _ _)⟩
    · rintro j hj acc h4 ⟨rfl, g4, p4⟩ t4
      rw [rngL_len] at hj
      refine ⟨has_rng.1 j (by rw [rngL_len]; exact hj), _, rfl, ?_⟩
      array_get_dec
      refine (r_right hl k p4 (by omega)).imp ?_
      rintro d h5 ⟨rfl, g5, p5⟩
      have t5 := g5.keep t4 (by simp; omega)
      refine ⟨t5, by rw [List.range_succ, List.map_append]; rfl, ⟨(g4.trans g5).le, fun a ha hb => ?_⟩, ?_⟩
      · rw [Hp.get_set _ _ _ _ (Hp.lt_of_get t5), if_neg (by omega)]
        exact (g4.trans g5).eq a ha hb
      · obtain ⟨a, b, q, e, vv⟩ := p5
        exact ⟨a, b, q, by rw [Hp.get_set _ _ _ _ (Hp.lt_of_get t5), if_neg (by omega)]; exact e, { vv with m1 := by have := vv.m1; omega }⟩
    rintro acc h4 ⟨rfl, g4, p4⟩ t4
    refine ⟨has_rng.2, fun _ => ?_⟩
    rw [rngL_len] at t4
    array_get_dec
    refine s_allT t4 ?_
    array_get_dec
    refine ⟨fun c => absurd c (by decide), fun _ => ?_⟩
    array_get_dec
    refine ⟨g2.trans ⟨Nat.le_trans g3.le g4.le, fun a ha => ?_⟩, _, _, rfl⟩
    rw [g4.eq a (Nat.lt_of_lt_of_le ha g3.le) (by simp; omega)]
    exact g3.eq a ha
  · rintro σ h2 ⟨g2, o1, o2, rfl⟩
    refine ⟨(has_lst (g2.get t1)).2, ?_⟩
    array_get_dec
    rfl
end
theorem keeps (ns : List Int) (nl : ns.length ≤ 63) (h : Hp) (e : seqOf h 0 = some (ns.map .int)) (e0 : ∃ o, h.get 0 = some o) : ∃ lf h', run gg lf 40 43 [.ref 0] h = .ok (.bl true) h' := by
  obtain ⟨d, h', r, rfl⟩ := r_law (lf := 300000) (Nat.le_refl _) 26 (h := h) (ns := ns) e e0 nl
  exact ⟨_, h', r⟩
end W57

set_option Elab.async false
set_option linter.all false
set_option maxRecDepth 100000
/-! VC: how the interpreter's data lie in the abstract heap. -/
namespace VI
open PySem PySem.Spec PyProof.Rows L2

/-- the fixed tables: the written part, attributes' names, classes' addresses -/
structure Tb where
  K : PySem.W.Frag
  an : Nat → Str
  ca : Nat → Addr
  g : G

abbrev HpA := L2.Hp
abbrev In := Nat → Option Addr

mutual
inductive RelD (K : PySem.W.Frag) (ι : In) (H : HpA) : D → V → Prop
  | non : RelD K ι H .non .non
  | bl (b : Bool) : RelD K ι H (.bl b) (.bl b)
  | int (i : Int) : RelD K ι H (.int i) (.int i)
  | str (s : List Nat) : RelD K ι H (.str s) (.str ⟨s.toArray⟩)
  | tup {xs : List D} {a : Addr} {ys : List V} : SqT K H a ys → RelL K ι H xs ys → RelD K ι H (.tup xs) (.ref a)
  | ref {n : Nat} {a : Addr} : ι n = some a → RelD K ι H (.ref n) (.ref a)
inductive RelL (K : PySem.W.Frag) (ι : In) (H : HpA) : List D → List V → Prop
  | nil : RelL K ι H [] []
  | cons {d : D} {v : V} {ds : List D} {vs : List V} : RelD K ι H d v → RelL K ι H ds vs → RelL K ι H (d :: ds) (v :: vs)
end

/-- what later heaps keep -/
structure Ext (ι : In) (H : HpA) (ι' : In) (H' : HpA) : Prop where
  io : ∀ n a, ι n = some a → ι' n = some a
  tu : ∀ b xs, H b = some (.tup xs) → H' b = some (.tup xs)
  fz : ∀ b o u, H b = some (.frz o u) → H' b = some (.frz o u)
theorem Ext.refl (ι : In) (H : HpA) : Ext ι H ι H := ⟨fun _ _ h => h, fun _ _ h => h, fun _ _ _ h => h⟩
theorem Ext.trans {ι ι1 ι2 : In} {H H1 H2 : HpA} (a : Ext ι H ι1 H1) (b : Ext ι1 H1 ι2 H2) : Ext ι H ι2 H2 :=
  ⟨fun n x h => b.io n x (a.io n x h), fun c x h => b.tu c x (a.tu c x h), fun c o x h => b.fz c o x (a.fz c o x h)⟩
theorem Ext.rdT {ι ι' : In} {H H' : HpA} {a : Addr} {xs : List V} (e : Ext ι H ι' H') (h : Rd H a (.tup xs)) : Rd H' a (.tup xs) := by
  rcases h with h | ⟨o, h⟩
  · exact .inl (e.tu _ _ h)
  · exact .inr ⟨o, e.fz _ _ _ h⟩
theorem Ext.sqT {K : PySem.W.Frag} {ι ι' : In} {H H' : HpA} {a : Addr} {xs : List V} (e : Ext ι H ι' H') (h : SqT K H a xs) : SqT K H' a xs := by
  rcases h with h | h
  · exact .inl (e.rdT h)
  · exact .inr h
section
variable {K : PySem.W.Frag} {ι ι' : In} {H H' : HpA}
mutual
theorem RelD.mono (e : Ext ι H ι' H') : ∀ {d : D} {v : V}, RelD K ι H d v → RelD K ι' H' d v
  | _, _, .non => .non
  | _, _, .bl b => .bl b
  | _, _, .int i => .int i
  | _, _, .str s => .str s
  | _, _, .tup h r => .tup (e.sqT h) (RelL.mono e r)
  | _, _, .ref h => .ref (e.io _ _ h)
theorem RelL.mono (e : Ext ι H ι' H') : ∀ {ds : List D} {vs : List V}, RelL K ι H ds vs → RelL K ι' H' ds vs
  | _, _, .nil => .nil
  | _, _, .cons h r => .cons (RelD.mono e h) (RelL.mono e r)
end
theorem RelL.length : ∀ {ds : List D} {vs : List V}, RelL K ι H ds vs → ds.length = vs.length
  | _, _, .nil => rfl
  | _, _, .cons _ r => congrArg Nat.succ (RelL.length r)
theorem RelL.append : ∀ {ds es : List D} {vs ws : List V}, RelL K ι H ds vs → RelL K ι H es ws → RelL K ι H (ds ++ es) (vs ++ ws)
  | _, _, _, _, .nil, q => q
  | _, _, _, _, .cons h r, q => .cons h (RelL.append r q)
theorem RelL.get : ∀ {ds : List D} {vs : List V} {i : Nat} {d : D}, RelL K ι H ds vs → nth ds i = some d → ∃ v, vs[i]? = some v ∧ RelD K ι H d v
  | _, _, _, _, .nil, e => by simp [nth] at e
  | _, _, 0, _, .cons h r, e => by simp [nth] at e; subst e; exact ⟨_, rfl, h⟩
  | _, _, i + 1, d, .cons h r, e => by
    obtain ⟨v, h1, h2⟩ := RelL.get (i := i) (d := d) r (by simpa [nth] using e)
    exact ⟨v, by simpa using h1, h2⟩
theorem RelL.getN : ∀ {ds : List D} {vs : List V} {i : Nat}, RelL K ι H ds vs → nth ds i = none → vs.length ≤ i
  | _, _, _, .nil, _ => by simp
  | _, _, 0, .cons h r, e => by simp [nth] at e
  | _, _, i + 1, .cons h r, e => by
    have := RelL.getN (i := i) r (by simpa [nth] using e)
    simp; omega
theorem RelL.set {d : D} {v : V} (q : RelD K ι H d v) : ∀ {ds : List D} {vs : List V} (i : Nat), RelL K ι H ds vs → RelL K ι H (ds.set i d) (vs.set i v)
  | _, _, _, .nil => .nil
  | _, _, 0, .cons _ r => .cons q r
  | _, _, i + 1, .cons h r => .cons h (RelL.set q i r)
theorem RelL.take : ∀ {ds : List D} {vs : List V} (n : Nat), RelL K ι H ds vs → RelL K ι H (ds.take n) (vs.take n)
  | _, _, 0, _ => by simpa using .nil
  | _, _, _ + 1, .nil => .nil
  | _, _, n + 1, .cons h r => .cons h (RelL.take n r)
theorem RelL.drop : ∀ {ds : List D} {vs : List V} (n : Nat), RelL K ι H ds vs → RelL K ι H (ds.drop n) (vs.drop n)
  | _, _, 0, r => by simpa using r
  | _, _, _ + 1, .nil => .nil
  | _, _, n + 1, .cons _ r => RelL.drop n r
theorem RelL.reverse : ∀ {ds : List D} {vs : List V}, RelL K ι H ds vs → RelL K ι H ds.reverse vs.reverse
  | _, _, .nil => .nil
  | _, _, .cons h r => by
    rw [List.reverse_cons, List.reverse_cons]
    exact RelL.append (RelL.reverse r) (.cons h .nil)
theorem RelL.rep {ds : List D} {vs : List V} (r : RelL K ι H ds vs) : ∀ n : Nat, RelL K ι H (List.replicate n ds).flatten (List.replicate n vs).flatten
  | 0 => .nil
  | n + 1 => by
    rw [List.replicate_succ, List.replicate_succ, List.flatten_cons, List.flatten_cons]
    exact RelL.append r (RelL.rep r n)
theorem RelL.ints : ∀ {ds : List D} {vs : List V} {is : List Int}, RelL K ι H ds vs → ints? ds = some is → vs = is.map V.int
  | _, _, _, .nil, e => by simp [ints?] at e; subst e; rfl
  | d :: ds, _, is, .cons h r, e => by
    cases h with
    | int i =>
      simp only [ints?] at e
      cases q : ints? ds with
      | none => rw [q] at e; cases e
      | some l =>
        rw [q] at e
        cases e
        rw [RelL.ints r q]
        rfl
    | _ => simp [ints?] at e
theorem RelL.bls : ∀ {ds : List D} {vs : List V} {is : List Bool}, RelL K ι H ds vs → bls? ds = some is → vs = is.map V.bl
  | _, _, _, .nil, e => by simp [bls?] at e; subst e; rfl
  | d :: ds, _, is, .cons h r, e => by
    cases h with
    | bl i =>
      simp only [bls?] at e
      cases q : bls? ds with
      | none => rw [q] at e; cases e
      | some l =>
        rw [q] at e
        cases e
        rw [RelL.bls r q]
        rfl
    | _ => simp [bls?] at e
end

/-- fields, in their sequence -/
inductive FldR (K : PySem.W.Frag) (an : Nat → Str) (ι : In) (H : HpA) : List (Nat × D) → List (Str × V) → Prop
  | nil : FldR K an ι H [] []
  | cons {f : Nat} {d : D} {v : V} {fs : List (Nat × D)} {gs : List (Str × V)} : RelD K ι H d v → FldR K an ι H fs gs → FldR K an ι H ((f, d) :: fs) ((an f, v) :: gs)
theorem FldR.mono {K : PySem.W.Frag} {an : Nat → Str} {ι ι' : In} {H H' : HpA} (e : Ext ι H ι' H') {fs : List (Nat × D)} {gs : List (Str × V)} (h : FldR K an ι H fs gs) : FldR K an ι' H' fs gs := by
  induction h with
  | nil => exact .nil
  | cons h _ ih => exact .cons (h.mono e) ih
def keysIn : List (Nat × D) → List Nat → Prop
  | [], _ => True
  | (f, _) :: r, l => memN f l = true ∧ keysIn r l

/-- a list of the written part -/
def KL (K : PySem.W.Frag) (a : Addr) (ys : List V) : Prop := ∃ (o : Obj) (its : Array Value) (n : Nat), K.lookup a = some o ∧ o.cls = .type "list" ∧ o.dict = none ∧ o.data = .seq its n ∧ its.size ≤ sizeLine ∧ Vals ys its.toList
/-- an object where it stands -/
def ObjR (T : Tb) (ι : In) (H : HpA) : O → Addr → Prop
  | .lst xs, a => ∃ ys, H a = some (.lst ys) ∧ RelL T.K ι H xs ys
  | .frz xs, a => ∃ ys, ((∃ o, H a = some (.frz o (.lst ys))) ∨ KL T.K a ys) ∧ RelL T.K ι H xs ys
  | .ins c fs, a => ∃ k dx gs, nth T.g.cls c = some k ∧ keysIn fs k.flds ∧ H a = some (.ins (T.ca c) dx gs) ∧ FldR T.K T.an ι H fs gs
/-- o is of the written part -/
def IsK (T : Tb) (ι : In) (H : HpA) (o : O) (a : Addr) : Prop := ∃ xs ys, o = .frz xs ∧ KL T.K a ys ∧ RelL T.K ι H xs ys
theorem IsK.mono {T : Tb} {ι ι' : In} {H H' : HpA} {o : O} {a : Addr} (h : IsK T ι H o a) (x : Ext ι H ι' H') : IsK T ι' H' o a := by
  obtain ⟨xs, ys, e, k, r⟩ := h
  exact ⟨xs, ys, e, k, r.mono x⟩
theorem IsK.ob {T : Tb} {ι : In} {H : HpA} {o : O} {a : Addr} (h : IsK T ι H o a) : ObjR T ι H o a := by
  obtain ⟨xs, ys, rfl, k, r⟩ := h
  exact ⟨ys, .inr k, r⟩
theorem ObjR.there {T : Tb} {ι : In} {H : HpA} {o : O} {a : Addr} (h : ObjR T ι H o a) : H a ≠ none ∨ IsK T ι H o a := by
  cases o with
  | lst xs => obtain ⟨ys, e, _⟩ := h; rw [e]; exact .inl (by simp)
  | frz xs =>
    obtain ⟨ys, e, r⟩ := h
    rcases e with ⟨o, e⟩ | e
    · rw [e]; exact .inl (by simp)
    · exact .inr ⟨xs, ys, rfl, e, r⟩
  | ins c fs => obtain ⟨k, dx, gs, _, _, e, _⟩ := h; rw [e]; exact .inl (by simp)
theorem ObjR.notTup {T : Tb} {ι : In} {H : HpA} {o : O} {a : Addr} (h : ObjR T ι H o a) (nf : ∀ xs, o ≠ .frz xs) : ∀ xs, H a ≠ some (.tup xs) := by
  intro xs
  cases o with
  | lst xs => obtain ⟨ys, e, _⟩ := h; rw [e]; simp
  | frz xs => exact absurd rfl (nf xs)
  | ins c fs => obtain ⟨k, dx, gs, _, _, e, _⟩ := h; rw [e]; simp
/-- the same object where the heap is as it was at a -/
theorem ObjR.move {T : Tb} {ι ι' : In} {H H' : HpA} {o : O} {a : Addr} (h : ObjR T ι H o a) (x : Ext ι H ι' H') (e : H' a = H a) : ObjR T ι' H' o a := by
  cases o with
  | lst xs => obtain ⟨ys, q, r⟩ := h; exact ⟨ys, e.trans q, r.mono x⟩
  | frz xs =>
    obtain ⟨ys, q, r⟩ := h
    refine ⟨ys, ?_, r.mono x⟩
    rcases q with ⟨o, q⟩ | q
    · exact .inl ⟨o, e.trans q⟩
    · exact .inr q
  | ins c fs => obtain ⟨k, dx, gs, h1, h2, q, r⟩ := h; exact ⟨k, dx, gs, h1, h2, e.trans q, r.mono x⟩

/-- the interpreter's heap in the abstract heap -/
structure SR (T : Tb) (ι : In) (h : Hp) (H : HpA) : Prop where
  ob : ∀ n o, h.get n = some o → ∃ a, ι n = some a ∧ ObjR T ι H o a
  dom : ∀ n a, ι n = some a → ∃ o, h.get n = some o
  inj : ∀ n m a x y, ι n = some a → ι m = some a → h.get n = some x → h.get m = some y → n = m ∨ IsK T ι H x a ∨ IsK T ι H y a
section
variable {T : Tb} {ι : In} {h : Hp} {H : HpA}
theorem SR.at (s : SR T ι h H) {n : Nat} {a : Addr} {o : O} (e : ι n = some a) (q : h.get n = some o) : ObjR T ι H o a := by
  obtain ⟨b, e1, r⟩ := s.ob n o q
  rw [e] at e1; cases e1; exact r
theorem SR.next (s : SR T ι h H) : ι h.next = none := by
  cases e : ι h.next with
  | none => rfl
  | some a =>
    obtain ⟨o, q⟩ := s.dom _ a e
    rw [Hp.get_next] at q; cases q
/-- with one address more -/
def upI (ι : In) (n : Nat) (a : Addr) : In := fun m => if m = n then some a else ι m
/-- anything new that is no object of the interpreter's (a tuple) -/
theorem Ext.new {ι : In} {H : HpA} {p : Addr} {u : HO} (hp : H p = none) : Ext ι H ι (upd H p u) :=
  ⟨fun _ _ e => e, fun b xs e => by rw [upd_ne (ne_of_none e hp)]; exact e, fun b o x e => by rw [upd_ne (ne_of_none e hp)]; exact e⟩
theorem ObjR.past {ι' : In} {o : O} {a p : Addr} {u : HO} (r : ObjR T ι H o a) (hp : H p = none) (x : Ext ι H ι' (upd H p u)) : ObjR T ι' (upd H p u) o a := by
  rcases r.there with q | q
  · exact r.move x (upd_ne fun z => q (z ▸ hp))
  · exact (q.mono x).ob
theorem SR.new (s : SR T ι h H) {p : Addr} {u : HO} (hp : H p = none) : SR T ι h (upd H p u) :=
  ⟨fun n o q => by
    obtain ⟨a, e, r⟩ := s.ob n o q
    exact ⟨a, e, r.past hp (.new hp)⟩, s.dom, fun n m a x y e1 e2 q1 q2 => by
    rcases s.inj n m a x y e1 e2 q1 q2 with z | z | z
    · exact .inl z
    · exact .inr (.inl (z.mono (.new hp)))
    · exact .inr (.inr (z.mono (.new hp)))⟩
theorem Ext.push (s : SR T ι h H) {p : Addr} {u : HO} (hp : H p = none) : Ext ι H (upI ι h.next p) (upd H p u) :=
  ⟨fun n a e => by
    have : n ≠ h.next := fun z => by rw [z, s.next] at e; cases e
    simp [upI, this, e], fun b xs e => by rw [upd_ne (ne_of_none e hp)]; exact e, fun b o x e => by rw [upd_ne (ne_of_none e hp)]; exact e⟩
theorem SR.fresh (s : SR T ι h H) {p : Addr} (hp : H p = none) {n : Nat} {o : O} (e : ι n = some p) (q : h.get n = some o) : IsK T ι H o p := by
  rcases (s.at e q).there with z | z
  · exact absurd hp z
  · exact z
theorem SR.push (s : SR T ι h H) {p : Addr} {u : HO} {o : O} (hp : H p = none) (ho : ObjR T (upI ι h.next p) (upd H p u) o p) : SR T (upI ι h.next p) (h.push o) (upd H p u) := by
  refine ⟨fun n x q => ?_, fun n a e => ?_, fun n m a x y e1 e2 q1 q2 => ?_⟩
  · rw [Hp.get_push] at q
    by_cases hn : n = h.next
    · rw [if_pos hn] at q
      cases q
      exact ⟨p, by simp [upI, hn], ho⟩
    · rw [if_neg hn] at q
      obtain ⟨a, e, r⟩ := s.ob n x q
      exact ⟨a, by simp [upI, hn, e], r.past hp (Ext.push s hp)⟩
  · rw [Hp.get_push]
    by_cases hn : n = h.next
    · exact ⟨o, by rw [if_pos hn]⟩
    · rw [if_neg hn]
      unfold upI at e
      rw [if_neg hn] at e
      exact s.dom n a e
  · rw [Hp.get_push] at q1 q2
    unfold upI at e1 e2
    by_cases hn : n = h.next
    · rw [if_pos hn] at e1
      cases e1
      by_cases hm : m = h.next
      · exact .inl (by rw [hn, hm])
      · rw [if_neg hm] at e2 q2
        exact .inr (.inr ((s.fresh hp e2 q2).mono (Ext.push s hp)))
    · rw [if_neg hn] at e1 q1
      by_cases hm : m = h.next
      · rw [if_pos hm] at e2
        cases e2
        exact .inr (.inl ((s.fresh hp e1 q1).mono (Ext.push s hp)))
      · rw [if_neg hm] at e2 q2
        rcases s.inj n m a x y e1 e2 q1 q2 with z | z | z
        · exact .inl z
        · exact .inr (.inl (z.mono (Ext.push s hp)))
        · exact .inr (.inr (z.mono (Ext.push s hp)))
/-- an object that may change -/
theorem Ext.write {n : Nat} {a : Addr} {o : O} {u : HO} (s : SR T ι h H) (e : ι n = some a) (q : h.get n = some o) (nf : ∀ xs, o ≠ .frz xs) : Ext ι H ι (upd H a u) := by
  have r := s.at e q
  refine ⟨fun _ _ e => e, fun b xs z => ?_, fun b ob x z => ?_⟩
  · rw [upd_ne (fun y : b = a => r.notTup nf xs (by rw [← y]; exact z))]; exact z
  · refine (upd_ne fun y => ?_).trans z
    subst y
    cases o with
    | lst xs => obtain ⟨ys, e, _⟩ := r; rw [e] at z; cases z
    | frz xs => exact nf xs rfl
    | ins c fs => obtain ⟨k, dx, gs, _, _, e, _⟩ := r; rw [e] at z; cases z
theorem SR.write {n : Nat} {a : Addr} {o o' : O} {u : HO} (s : SR T ι h H) (e : ι n = some a) (q : h.get n = some o) (nf : ∀ xs, o ≠ .frz xs) (ho : ObjR T ι (upd H a u) o' a) : SR T ι (h.set n o') (upd H a u) := by
  have hn := Hp.lt_of_get q
  have x := Ext.write (u := u) s e q nf
  have nk : ¬ IsK T ι H o a := fun ⟨xs, ys, z, _⟩ => nf xs z
  refine ⟨fun m y z => ?_, fun m b z => ?_, fun m k b y z e1 e2 q1 q2 => ?_⟩
  · rw [Hp.get_set _ _ _ _ hn] at z
    by_cases hm : m = n
    · rw [if_pos hm] at z
      cases z
      exact ⟨a, by rw [hm]; exact e, ho⟩
    · rw [if_neg hm] at z
      obtain ⟨b, e2, r⟩ := s.ob m y z
      refine ⟨b, e2, ?_⟩
      by_cases w : b = a
      · subst w
        rcases s.inj m n b y o e2 e z q with w | w | w
        · exact absurd w hm
        · exact (w.mono x).ob
        · exact absurd w nk
      · exact r.move x (upd_ne w)
  · rw [Hp.get_set _ _ _ _ hn]
    by_cases hm : m = n
    · exact ⟨o', by rw [if_pos hm]⟩
    · rw [if_neg hm]; exact s.dom m b z
  · rw [Hp.get_set _ _ _ _ hn] at q1 q2
    by_cases hm : m = n
    · by_cases hk : k = n
      · exact .inl (by rw [hm, hk])
      · rw [if_neg hk] at q2
        subst hm
        rw [e] at e1
        cases e1
        rcases s.inj m k a o z e e2 q q2 with w | w | w
        · exact .inl w
        · exact absurd w nk
        · exact .inr (.inr (w.mono x))
    · rw [if_neg hm] at q1
      by_cases hk : k = n
      · subst hk
        rw [e] at e2
        cases e2
        rcases s.inj m k a y o e1 e q1 q with w | w | w
        · exact .inl w
        · exact .inr (.inl (w.mono x))
        · exact absurd w nk
      · rw [if_neg hk] at q2
        rcases s.inj m k b y z e1 e2 q1 q2 with w | w | w
        · exact .inl w
        · exact .inr (.inl (w.mono x))
        · exact .inr (.inr (w.mono x))
/-- what seqOf tells -/
theorem SR.seq (s : SR T ι h H) {n : Nat} {a : Addr} {xs : List D} (e : ι n = some a) (q : seqOf h n = some xs) : ∃ ys, SqL T.K H a ys ∧ RelL T.K ι H xs ys := by
  unfold seqOf at q
  cases z : h.get n with
  | none => rw [z] at q; cases q
  | some o =>
    rw [z] at q
    have r := s.at e z
    cases o with
    | lst l => cases q; obtain ⟨ys, e, r⟩ := r; exact ⟨ys, .inl (.inl e), r⟩
    | frz l =>
      cases q
      obtain ⟨ys, e, r⟩ := r
      rcases e with ⟨o, e⟩ | e
      · exact ⟨ys, .inl (.inr ⟨o, e⟩), r⟩
      · exact ⟨ys, .inr e, r⟩
    | ins c fs => cases q
end

/-- the names' values -/
inductive EnvR (K : PySem.W.Frag) (ι : In) (H : HpA) : Env → L2.St → Prop
  | nil : EnvR K ι H [] []
  | none {σ : Env} {τ : L2.St} {o : Option V} : EnvR K ι H σ τ → EnvR K ι H (Option.none :: σ) (o :: τ)
  | some {d : D} {v : V} {σ : Env} {τ : L2.St} : RelD K ι H d v → EnvR K ι H σ τ → EnvR K ι H (Option.some d :: σ) (Option.some v :: τ)
section
variable {K : PySem.W.Frag} {ι ι' : In} {H H' : HpA}
theorem EnvR.mono (x : Ext ι H ι' H') {σ : Env} {τ : L2.St} (h : EnvR K ι H σ τ) : EnvR K ι' H' σ τ := by
  induction h with
  | nil => exact .nil
  | none _ ih => exact .none ih
  | some r _ ih => exact .some (r.mono x) ih
theorem EnvR.get {σ : Env} {τ : L2.St} (h : EnvR K ι H σ τ) : ∀ {i : Nat} {d : D}, getS σ i = Option.some d → ∃ v, τ[i]? = Option.some (Option.some v) ∧ RelD K ι H d v := by
  induction h with
  | nil => intro i d e; simp [getS, nth] at e
  | none _ ih =>
    intro i d e
    cases i with
    | zero => simp [getS, nth] at e
    | succ i => exact ih (i := i) (d := d) (by simpa [getS, nth] using e)
  | some r _ ih =>
    intro i d e
    cases i with
    | zero => simp [getS, nth] at e; subst e; exact ⟨_, rfl, r⟩
    | succ i => exact ih (i := i) (d := d) (by simpa [getS, nth] using e)
theorem EnvR.set {σ : Env} {τ : L2.St} {d : D} {v : V} (h : EnvR K ι H σ τ) (r : RelD K ι H d v) : ∀ i, EnvR K ι H (setS σ i d) (τ.set i (Option.some v)) := by
  induction h with
  | nil => intro i; cases i <;> exact .nil
  | none h ih =>
    intro i
    cases i with
    | zero => exact .some r h
    | succ i => exact .none (ih i)
  | some q h ih =>
    intro i
    cases i with
    | zero => exact .some r h
    | succ i => exact .some q (ih i)
theorem EnvR.wipe1 {σ : Env} {τ : L2.St} (h : EnvR K ι H σ τ) : ∀ i, EnvR K ι H (wipeS σ i) (τ.set i Option.none) := by
  induction h with
  | nil => intro i; cases i <;> exact .nil
  | none h ih =>
    intro i
    cases i with
    | zero => exact .none h
    | succ i => exact .none (ih i)
  | some q h ih =>
    intro i
    cases i with
    | zero => exact .none h
    | succ i => exact .some q (ih i)
theorem EnvR.wipe {σ : Env} {τ : L2.St} (h : EnvR K ι H σ τ) : ∀ vs : List Nat, EnvR K ι H (wipeL σ vs) (wipe τ vs)
  | [] => h
  | v :: vs => (EnvR.wipe h vs).wipe1 v
theorem EnvR.length {σ : Env} {τ : L2.St} (h : EnvR K ι H σ τ) : σ.length = τ.length := by
  induction h with
  | nil => rfl
  | none _ ih => exact congrArg Nat.succ ih
  | some _ _ ih => exact congrArg Nat.succ ih
theorem EnvR.begin : ∀ {ds : List D} {vs : List V} (N : List Str), RelL K ι H ds vs → EnvR K ι H (VI.begin ds N.length) (L2.start N vs) := by
  intro ds vs N r
  unfold VI.begin L2.start
  rw [r.length]
  generalize N.length - vs.length = m
  have hr : ∀ m, EnvR K ι H (List.replicate m Option.none) (List.replicate m Option.none) := fun m => by
    induction m with
    | zero => exact .nil
    | succ m ih => exact .none ih
  have go : ∀ {ds : List D} {vs : List V}, RelL K ι H ds vs → EnvR K ι H (ds.map Option.some ++ List.replicate m Option.none) (vs.map Option.some ++ List.replicate m Option.none) := by
    intro ds
    induction ds with
    | nil => intro vs r; cases r; exact hr m
    | cons d ds ih =>
      intro vs r
      cases r with
      | cons h r => exact .some h (ih r)
  exact go r
end
end VI

set_option Elab.async false
set_option linter.all false
set_option maxRecDepth 100000
/-! VD: operations on values do what the interpreter's do. -/
namespace VI
open PySem PySem.Spec PyProof.Rows L2

def toOp : Op2 → Operator
  | .add => .Add | .sub => .Sub | .mul => .Mult | .fdiv => .FloorDiv | .mod => .Mod | .pow => .Pow
def toCp : Cp → CmpOp
  | .eq => .Eq | .ne => .NotEq | .lt => .Lt | .le => .LtE | .gt => .Gt | .ge => .GtE | .is => .Is | .isn => .IsNot

/-- all values and heaps that the interpreter's answer stands for -/
def Fin (T : Tb) (ι : In) (H : HpA) (d : D) (h : Hp) (Q : VK) : Prop := ∀ (ι' : In) (v : V) (H' : HpA), Ext ι H ι' H' → SR T ι' h H' → RelD T.K ι' H' d v → Q v H'
theorem Fin.here {T : Tb} {ι : In} {H : HpA} {d : D} {h : Hp} {Q : VK} (k : Fin T ι H d h Q) (s : SR T ι h H) {v : V} (r : RelD T.K ι H d v) : Q v H := k ι v H (.refl ι H) s r
theorem Fin.after {T : Tb} {ι ι1 : In} {H H1 : HpA} {d : D} {h : Hp} {Q : VK} (k : Fin T ι H d h Q) (x : Ext ι H ι1 H1) : Fin T ι1 H1 d h Q := fun ι' v H' e s r => k ι' v H' (x.trans e) s r
/-- a new list -/
theorem Fin.list {T : Tb} {ι : In} {H : HpA} {h : Hp} {Q : VK} {ds : List D} {vs : List V} (k : Fin T ι H (.ref h.next) (h.push (.lst ds)) Q) (s : SR T ι h H) (r : RelL T.K ι H ds vs) : ∀ p, H p = none → Q (.ref p) (upd H p (.lst vs)) := fun p hp =>
  k (upI ι h.next p) (.ref p) _ (Ext.push s hp) (s.push hp ⟨vs, upd_same, r.mono (Ext.push s hp)⟩) (.ref (by simp [upI]))
/-- a new tuple -/
theorem Fin.tup {T : Tb} {ι : In} {H : HpA} {h : Hp} {Q : VK} {ds : List D} {vs : List V} (k : Fin T ι H (.tup ds) h Q) (s : SR T ι h H) (r : RelL T.K ι H ds vs) : ∀ p, H p = none → Q (.ref p) (upd H p (.tup vs)) := fun p hp =>
  k ι (.ref p) _ (.new hp) (s.new hp) (.tup (.inl (.inl upd_same)) (r.mono (.new hp)))

theorem bif_ok {α : Type} {c : Bool} {r : R α} {d : α} {h : Hp} (e : (bif c then r else .bad) = .ok d h) : c = true ∧ r = .ok d h := by
  cases c with
  | true => exact ⟨rfl, e⟩
  | false => cases e

theorem line_eq : line = sizeLine := by rw [sizeLine_eq]; rfl

/-- t * 1 is t -/
theorem tuple_mul1 (l : Addr) (items : Array Value) (n : Nat) (dd : Option Addr) (sl : Array (Option Value)) (x : Int) (u : Tok) (c0 : (decide (x < -(2 ^ 63)) || decide (x ≥ 2 ^ 63)) = false) (c1 : (items.isEmpty || x == 1) = true) :
    Meets (Builtin.«tuple.__mul__» ⟨[.ref l, .int x u], []⟩) (fun _ R s => s.heap.get? l = some { cls := .type "tuple", dict := dd, data := .seq items n, slots := sl } ∧
      R (.ok (.ret (Value.ref l))) s) :=
  .of_wp fun prog w A R s h => by
    obtain ⟨hp, g, d, tk, os⟩ := s
    obtain ⟨hl, h⟩ := h
    have f1 := AutoSeq1.idx_int
    wp_walk using wpAny_loadPart' hl
    repeat (first
      | (refine wpAny_ite_false (decide_eq_false (by rw [c0]; exact Bool.false_ne_true)) ?_; wp_walk using wpAny_loadPart' hl)
      | (refine wpAny_ite_true (decide_eq_true (by rw [c1])) ?_; wp_walk using wpAny_loadPart' hl))
    exact ⟨_, rfl, h⟩
theorem op_one {X : Cx} : OpR X (binaryOp .Mult) (fun x y H Q => ∃ l xs, x = .ref l ∧ y = .int 1 ∧ SqT X.K H l xs ∧ Q (.ref l) H) := by
  intro pins s σ H x y v u Q I rx ry h
  obtain ⟨l, xs, rfl, rfl, hT, q⟩ := h
  cases rx
  obtain ⟨t, rfl⟩ := ry
  obtain ⟨its, r, ⟨⟨cls, dd, data, sl⟩, ho, hc, n, hd⟩, hs⟩ := I.tuple hT
  simp only at hc hd
  subst hc hd
  refine wpAny_binaryOp_repeat_ref (T := "tuple") (U := "int") (by decide) ⟨_, ho, rfl⟩ (fun s' => typeIs_int s' 1 t) noFill_tuple_mul F.fills_int_mul F.slot_int_rmul repeat_tuple F.slot_int_index.lookup
    (call_meets F.slot_int_rmul (typeIs_int s 1 t) F.entry_int_rmul (F.args_int_rmul_2 _ _) (int_rmul_tuple 1 t l its.toArray n dd sl)
      ⟨ho, rfl, ⟨_, ho, rfl⟩, call_meets F.slot_tuple_mul ⟨_, ho, rfl⟩ F.entry_tuple_mul (F.args_tuple_mul_2 _ _) (tuple_mul1 l its.toArray n dd sl 1 t (by decide) (by simp)) ⟨ho, ?_⟩⟩)
  exact ⟨.ref l, H, I, rfl, q⟩

section
variable {X : Cx} {T : Tb}
def rBin (T : Tb) (o : Op2) : R2 := fun x y H Q => ∃ (ι : In) (h : Hp) (dx dy d : D) (h' : Hp), SR T ι h H ∧ RelD T.K ι H dx x ∧ RelD T.K ι H dy y ∧ bin2 o dx dy h = .ok d h' ∧ Fin T ι H d h' Q

theorem op_bin (hK : X.K = T.K) (o : Op2) : OpR X (binaryOp (toOp o)) (rBin T o) := by
  intro pins s σ H x y v u Q I rx ry q
  obtain ⟨ι, h, dx, dy, d, h', sr, r1, r2, e, k⟩ := q
  cases r1 with
  | int i =>
    cases r2 with
    | int j =>
      cases o with
      | add => cases e; exact op_add pins s σ H _ _ v u Q I rx ry ⟨i, j, rfl, rfl, k.here sr (.int _)⟩
      | sub => cases e; exact op_sub pins s σ H _ _ v u Q I rx ry ⟨i, j, rfl, rfl, k.here sr (.int _)⟩
      | mul =>
        obtain ⟨c, e⟩ := bif_ok e
        cases e
        exact op_mulW pins s σ H _ _ v u Q I rx ry ⟨i, j, rfl, rfl, by unfold CMulW; simpa [bits, Nat.blt_eq] using c, k.here sr (.int _)⟩
      | fdiv =>
        cases j with
        | negSucc k => cases e
        | ofNat m =>
          cases m with
          | zero => cases e
          | succ m =>
            obtain ⟨c, e⟩ := bif_ok e
            cases e
            refine op_fdivW pins s σ H _ _ v u Q I rx ry ⟨i, _, rfl, rfl, ⟨?_, ?_⟩, k.here sr (.int _)⟩
            · exact Int.ofNat_lt.mpr (Nat.succ_pos m)
            · show (m+1).log2 < 9000; simpa [Nat.blt_eq] using c
      | mod =>
        cases j with
        | negSucc k => cases e
        | ofNat m =>
          cases m with
          | zero => cases e
          | succ m =>
            cases e
            exact op_mod pins s σ H _ _ v u Q I rx ry ⟨i, _, rfl, rfl, Int.ofNat_lt.mpr (Nat.succ_pos m), k.here sr (.int _)⟩
      | pow =>
        cases j with
        | negSucc k => cases e
        | ofNat m =>
          obtain ⟨c, e⟩ := bif_ok e
          cases e
          rw [Bool.and_eq_true] at c
          obtain ⟨c1, c2⟩ := c
          have c2' : (bits i + 1) * m < 1000000 := by simpa [Nat.blt_eq] using c2
          obtain ⟨t, rfl⟩ := (show ∃ t, v = Value.int i t from rx)
          obtain ⟨t', rfl⟩ := (show ∃ t', u = Value.int (Int.ofNat m) t' from ry)
          have b : Builtin.Int.intBits i ≤ bits i + 1 := by
            unfold Builtin.Int.intBits bits
            split <;> omega
          refine pow_int (Int.natCast_nonneg m) ?_ ⟨.int (i ^ m), H, I.tok _, ⟨_, rfl⟩, k.here sr (.int _)⟩
          have b2 : Builtin.Int.intBits i * m ≤ (bits i + 1) * m := Nat.mul_le_mul_right m b
          have b3 : ((Builtin.Int.intBits i * m : Nat) : Int) ≤ 1000000 := by omega
          have b4 : ((Builtin.Int.intBits i : Nat) : Int) * Int.ofNat m = ((Builtin.Int.intBits i * m : Nat) : Int) := by
            rw [Int.natCast_mul]; rfl
          rw [b4]
          have : (2 : Int) ^ 27 = 134217728 := by decide
          omega
    | _ => cases o <;> cases e
  | tup t1 l1 =>
    rename_i xs a ys
    cases r2 with
    | tup t2 l2 =>
      rename_i xs2 b ys2
      cases o with
      | add =>
        obtain ⟨c, e⟩ := bif_ok e
        cases e
        have c' : xs.length + xs2.length ≤ line := by simpa [Nat.ble_eq] using c
        rw [l1.length, l2.length, line_eq] at c'
        refine op_catA pins s σ H _ _ v u Q I rx ry ⟨a, b, ys, ys2, rfl, rfl, by rw [hK]; exact t1, by rw [hK]; exact t2, c', fun z => ?_, fun z z2 => ?_, fun z z2 => ?_⟩
        · subst z
          cases l1
          exact k.here sr (.tup t2 l2)
        · subst z2
          cases l2
          rw [List.append_nil] at k
          exact k.here sr (.tup t1 l1)
        · exact k.tup sr (l1.append l2)
      | _ => cases e
    | int j =>
      cases o with
      | mul =>
        cases l1 with
        | nil => cases e
        | cons d0 l1 =>
          rename_i d0' v0 ds0 vs0
          cases j with
          | negSucc m => cases e
          | ofNat m =>
            cases m with
            | zero => cases e
            | succ m =>
              obtain ⟨c, e⟩ := bif_ok e
              cases e
              rw [Bool.and_eq_true] at c
              obtain ⟨c1, c2⟩ := c
              have c1' : m + 1 ≤ 1000 := by simpa [Nat.ble_eq] using c1
              have c2' : ds0.length + 1 ≤ 1000 := by simpa [Nat.ble_eq] using c2
              rw [l1.length] at c2'
              cases m with
              | zero =>
                refine op_one pins s σ H _ _ v u Q I rx ry ⟨a, v0 :: vs0, rfl, rfl, by rw [hK]; exact t1, ?_⟩
                have e : (List.replicate (0 + 1) (d0' :: ds0)).flatten = d0' :: ds0 := by simp
                rw [e] at k
                exact k.here sr (.tup t1 (.cons d0 l1))
              | succ m =>
                refine op_repT pins s σ H _ _ v u Q I rx ry ⟨a, _, v0 :: vs0, rfl, rfl, by rw [hK]; exact t1, by simp, ?_, ?_, by simpa using c2', k.tup sr ((RelL.cons d0 l1).rep _)⟩
                · show (2 : Int) ≤ ((m + 1 + 1 : Nat) : Int); omega
                · show ((m + 1 + 1 : Nat) : Int) ≤ 1000; omega
      | _ => cases e
    | _ => cases o <;> cases e
  | ref e1 =>
    rename_i n a
    cases r2 with
    | ref e2 =>
      rename_i m b
      cases o with
      | add =>
        simp only [bin2] at e
        cases g1 : h.get n with
        | none => rw [g1] at e; cases e
        | some o1 =>
          cases g2 : h.get m with
          | none => rw [g1, g2] at e; cases o1 <;> cases e
          | some o2 =>
            rw [g1, g2] at e
            cases o1 with
            | lst xs =>
              cases o2 with
              | lst ys =>
                obtain ⟨c, e⟩ := bif_ok e
                cases e
                obtain ⟨zs, h1, l1⟩ := sr.at e1 g1
                obtain ⟨ws, h2, l2⟩ := sr.at e2 g2
                have c' : xs.length + ys.length ≤ line := by simpa [Nat.ble_eq] using c
                rw [l1.length, l2.length, line_eq] at c'
                exact op_cat pins s σ H _ _ v u Q I rx ry ⟨a, b, zs, ws, rfl, rfl, h1, h2, c', k.list sr (l1.append l2)⟩
              | _ => cases e
            | _ => cases e
      | _ => cases e
    | int j =>
      cases o with
      | mul =>
        simp only [bin2] at e
        cases g1 : h.get n with
        | none => rw [g1] at e; cases e
        | some o1 =>
          rw [g1] at e
          cases o1 with
          | lst xs =>
            cases j with
            | negSucc m => cases e
            | ofNat m =>
              obtain ⟨c, e⟩ := bif_ok e
              cases e
              rw [Bool.and_eq_true] at c
              obtain ⟨c1, c2⟩ := c
              have c1' : m ≤ 1000 := by simpa [Nat.ble_eq] using c1
              have c2' : xs.length * m ≤ line := by simpa [Nat.ble_eq] using c2
              obtain ⟨zs, h1, l1⟩ := sr.at e1 g1
              rw [l1.length, line_eq] at c2'
              refine op_rep pins s σ H _ _ v u Q I rx ry ⟨a, _, zs, rfl, rfl, h1, ?_, ?_, c2', k.list sr (l1.rep _)⟩
              · show -(2 ^ 63) ≤ ((m : Nat) : Int); omega
              · show ((m : Nat) : Int) < 2 ^ 63; omega
          | _ => cases e
      | _ => cases e
    | _ => cases o <;> cases e
  | _ => cases o <;> cases e
end
end VI

set_option Elab.async false
set_option linter.all false
set_option maxRecDepth 100000
/-! VE: comparisons, subscripts, slices, built-ins, truth. -/
namespace VI
open PySem PySem.Spec PyProof.Rows L2

/-! ### data that can be compared -/
section
variable {K : PySem.W.Frag} {ι : In} {H : HpA}
def Cd (K : PySem.W.Frag) (H : HpA) (f : Nat) (x y : V) (b : Bool) : Prop := ∃ d e, Dp K H x d ∧ Dp K H y e ∧ d.plain = true ∧ e.plain = true ∧ d.depth ≤ f ∧ e.depth ≤ f ∧ PyData.eqv d e = b
def CdL (K : PySem.W.Frag) (H : HpA) (f : Nat) (xs ys : List V) (b : Bool) : Prop := ∃ ds es, DpAll K H xs ds ∧ DpAll K H ys es ∧ PyData.plainAll ds = true ∧ PyData.plainAll es = true ∧ PyData.depthAll ds ≤ f ∧ PyData.depthAll es ≤ f ∧ PyData.eqvAll ds es = b
theorem deq_ok : ∀ f : Nat, (∀ (x y : D) (v u : V) (b : Bool), RelD K ι H x v → RelD K ι H y u → deq f x y = some b → Cd K H f v u b) ∧
    (∀ (xs ys : List D) (vs us : List V) (b : Bool), RelL K ι H xs vs → RelL K ι H ys us → deqL f xs ys = some b → CdL K H f vs us b) := by
  intro f
  induction f with
  | zero => exact ⟨fun x y v u b _ _ e => (by simp [deq] at e), fun xs ys vs us b _ _ e => (by simp [deqL] at e)⟩
  | succ f ih =>
    refine ⟨fun x y v u b r1 r2 e => ?_, fun xs ys vs us b r1 r2 e => ?_⟩
    · cases r1 with
      | non => cases r2 <;> simp only [deq, Option.some.injEq, reduceCtorEq] at e <;> subst e
               · exact ⟨_, _, .non, .non, rfl, rfl, Nat.zero_le _, Nat.zero_le _, rfl⟩
               · exact ⟨_, _, .non, .bl _, rfl, rfl, Nat.zero_le _, Nat.zero_le _, rfl⟩
               · exact ⟨_, _, .non, .int _, rfl, rfl, Nat.zero_le _, Nat.zero_le _, rfl⟩
               · exact ⟨_, _, .non, .str _, rfl, rfl, Nat.zero_le _, Nat.zero_le _, rfl⟩
      | bl a => cases r2 <;> simp only [deq, Option.some.injEq, reduceCtorEq] at e <;> subst e
                · exact ⟨_, _, .bl _, .non, rfl, rfl, Nat.zero_le _, Nat.zero_le _, rfl⟩
                · exact ⟨_, _, .bl _, .bl _, rfl, rfl, Nat.zero_le _, Nat.zero_le _, rfl⟩
                · exact ⟨_, _, .bl _, .str _, rfl, rfl, Nat.zero_le _, Nat.zero_le _, rfl⟩
      | int a => cases r2 <;> simp only [deq, Option.some.injEq, reduceCtorEq] at e <;> subst e
                 · exact ⟨_, _, .int _, .non, rfl, rfl, Nat.zero_le _, Nat.zero_le _, rfl⟩
                 · exact ⟨_, _, .int _, .int _, rfl, rfl, Nat.zero_le _, Nat.zero_le _, rfl⟩
                 · exact ⟨_, _, .int _, .str _, rfl, rfl, Nat.zero_le _, Nat.zero_le _, rfl⟩
      | str a => cases r2 <;> simp only [deq, Option.some.injEq, reduceCtorEq] at e <;> subst e
                 · exact ⟨_, _, .str _, .non, rfl, rfl, Nat.zero_le _, Nat.zero_le _, rfl⟩
                 · exact ⟨_, _, .str _, .bl _, rfl, rfl, Nat.zero_le _, Nat.zero_le _, rfl⟩
                 · exact ⟨_, _, .str _, .int _, rfl, rfl, Nat.zero_le _, Nat.zero_le _, rfl⟩
                 · refine ⟨_, _, .str _, .str _, rfl, rfl, Nat.zero_le _, Nat.zero_le _, ?_⟩
                   simp only [PyData.eqv]
                   rename_i t
                   by_cases q : a = t
                   · subst q; simp
                   · have : (⟨a.toArray⟩ : Str) ≠ ⟨t.toArray⟩ := fun z => q (by simpa using congrArg Str.cps z)
                     rw [beq_eq_false_iff_ne.mpr q, beq_eq_false_iff_ne.mpr this]
      | tup t1 l1 =>
        cases r2 with
        | tup t2 l2 =>
          simp only [deq] at e
          obtain ⟨ds, es, a1, a2, p1, p2, b1, b2, q⟩ := ih.2 _ _ _ _ _ l1 l2 e
          exact ⟨_, _, .tup t1 a1, .tup t2 a2, p1, p2, Nat.succ_le_succ b1, Nat.succ_le_succ b2, q⟩
        | _ => simp [deq] at e
      | ref _ => cases r2 <;> simp [deq] at e
    · cases r1 with
      | nil =>
        cases r2 with
        | nil => simp [deqL] at e; subst e; exact ⟨_, _, .nil, .nil, rfl, rfl, Nat.zero_le _, Nat.zero_le _, rfl⟩
        | cons _ _ => simp [deqL] at e
      | cons h1 q1 =>
        cases r2 with
        | nil => simp [deqL] at e
        | cons h2 q2 =>
          simp only [deqL] at e
          split at e
          · rename_i a c e1 e2
            cases e
            obtain ⟨d, d', a1, a2, p1, p2, b1, b2, z⟩ := ih.1 _ _ _ _ _ h1 h2 e1
            obtain ⟨ds, es, a3, a4, p3, p4, b3, b4, z2⟩ := ih.2 _ _ _ _ _ q1 q2 e2
            refine ⟨_, _, .cons a1 a3, .cons a2 a4, ?_, ?_, ?_, ?_, ?_⟩
            · simp only [PyData.plainAll, p1, p3, Bool.and_self]
            · simp only [PyData.plainAll, p2, p4, Bool.and_self]
            · exact Nat.max_le.mpr ⟨Nat.le_succ_of_le b1, Nat.le_succ_of_le b3⟩
            · exact Nat.max_le.mpr ⟨Nat.le_succ_of_le b2, Nat.le_succ_of_le b4⟩
            · simp only [PyData.eqvAll, z, z2]
          · cases e
end

/-- what a context keeps for the operations -/
structure XOk (X : Cx) (T : Tb) : Prop where
  hK : X.K = T.K
  hu : X.A.units + 64 < cLine
  hc : X.calm = true

section
variable {X : Cx} {T : Tb}
def rCmp (T : Tb) (o : Cp) : R2 := fun x y H Q => ∃ (ι : In) (h : Hp) (dx dy : D) (b : Bool), SR T ι h H ∧ RelD T.K ι H dx x ∧ RelD T.K ι H dy y ∧ cmp2 o dx dy h = some b ∧ Q (.bl b) H
def isNonD : D → Bool
  | .non => true
  | _ => false
theorem relD_non {K : PySem.W.Frag} {ι : In} {H : HpA} {d : D} {v : V} (r : RelD K ι H d v) : isNonD d = decide (v = V.non) := by
  cases r <;> simp [isNonD]
theorem op_cmp (k : XOk X T) (o : Cp) : OpR X (compareOp (toCp o)) (rCmp T o) := by
  intro pins s σ H x y v u Q I rx ry q
  obtain ⟨ι, h, dx, dy, b, sr, r1, r2, e, q⟩ := q
  have hle : ∀ (m n : Nat), m ≤ 64 → X.A.units + min m n < cLine := fun m n z => by
    have := k.hu
    have : min m n ≤ m := Nat.min_le_left _ _
    omega
  cases o with
  | eq =>
    obtain ⟨d, d', a1, a2, p1, p2, b1, b2, z⟩ := (deq_ok 64).1 _ _ _ _ _ r1 r2 e
    rw [← k.hK] at a1 a2
    obtain ⟨as, w1⟩ := Dp.reads I d x v a1 rx
    obtain ⟨bs, w2⟩ := Dp.reads I d' y u a2 ry
    exact PySem.SeqAt.eq_plain w1 w2 p1 p2 (hle _ _ b1) ⟨.bl _, H, I, rfl, by rw [z]; exact q⟩
  | ne =>
    simp only [cmp2] at e
    cases z0 : deq 64 dx dy with
    | none => rw [z0] at e; cases e
    | some b0 =>
      rw [z0] at e
      cases e
      obtain ⟨d, d', a1, a2, p1, p2, b1, b2, z⟩ := (deq_ok 64).1 _ _ _ _ _ r1 r2 z0
      rw [← k.hK] at a1 a2
      obtain ⟨as, w1⟩ := Dp.reads I d x v a1 rx
      obtain ⟨bs, w2⟩ := Dp.reads I d' y u a2 ry
      exact PySem.SeqAt.ne_plain w1 w2 p1 p2 (hle _ _ b1) ⟨.bl _, H, I, rfl, by rw [z]; exact q⟩
  | lt =>
    cases r1 <;> cases r2 <;> simp only [cmp2, Option.some.injEq, reduceCtorEq] at e
    subst e
    exact op_lt pins s σ H _ _ v u Q I rx ry ⟨_, _, rfl, rfl, q⟩
  | le =>
    cases r1 <;> cases r2 <;> simp only [cmp2, Option.some.injEq, reduceCtorEq] at e
    subst e
    exact op_le pins s σ H _ _ v u Q I rx ry ⟨_, _, rfl, rfl, q⟩
  | gt =>
    cases r1 <;> cases r2 <;> simp only [cmp2, Option.some.injEq, reduceCtorEq] at e
    subst e
    exact op_gt pins s σ H _ _ v u Q I rx ry ⟨_, _, rfl, rfl, q⟩
  | ge =>
    cases r1 <;> cases r2 <;> simp only [cmp2, Option.some.injEq, reduceCtorEq] at e
    subst e
    exact op_ge pins s σ H _ _ v u Q I rx ry ⟨_, _, rfl, rfl, q⟩
  | is =>
    cases r2 <;> simp only [cmp2, Option.some.injEq, reduceCtorEq] at e
    have e' : b = decide (x = V.non) := by rw [← relD_non r1, ← e]; cases dx <;> rfl
    subst e'
    exact op_isN pins s σ H _ _ v u Q I rx ry ⟨rfl, q⟩
  | isn =>
    cases r2 <;> simp only [cmp2, Option.some.injEq, reduceCtorEq] at e
    have e' : b = !decide (x = V.non) := by rw [← relD_non r1, ← e]; cases dx <;> rfl
    subst e'
    exact op_notN pins s σ H _ _ v u Q I rx ry ⟨rfl, q⟩

/-! ### subscripts -/
theorem place_ixN {n : Nat} {i : Int} {k : Nat} (h : place n i = some k) : ixN n i = some k ∧ k < n := by
  unfold place at h
  cases i with
  | ofNat m =>
    simp only at h
    cases c : Nat.blt m n with
    | false => rw [c] at h; cases h
    | true =>
      rw [c] at h
      cases h
      have : k < n := by simpa [Nat.blt_eq] using c
      refine ⟨?_, this⟩
      unfold ixN
      rw [if_pos (show (0 : Int) ≤ Int.ofNat k from Int.natCast_nonneg k), if_pos (show Int.ofNat k < (n : Int) from Int.ofNat_lt.mpr this)]
      rfl
  | negSucc m =>
    simp only at h
    cases c : Nat.blt m n with
    | false => rw [c] at h; cases h
    | true =>
      rw [c] at h
      cases h
      have : m < n := by simpa [Nat.blt_eq] using c
      refine ⟨?_, by omega⟩
      unfold ixN
      rw [if_neg (by omega), if_pos (by omega)]
      congr 1
      omega
theorem place_atI {K : PySem.W.Frag} {ι : In} {H : HpA} {xs : List D} {ys : List V} {i : Int} {k : Nat} {d : D} (r : RelL K ι H xs ys) (h : place xs.length i = some k) (e : nth xs k = some d) : ∃ v, atI ys i = some v ∧ RelD K ι H d v := by
  obtain ⟨v, e1, r1⟩ := r.get e
  refine ⟨v, ?_, r1⟩
  rw [r.length] at h
  unfold atI
  rw [(place_ixN h).1]
  exact e1
def rIx2 (T : Tb) : R2 := fun x y H Q => ∃ (ι : In) (h : Hp) (dx dy d : D), SR T ι h H ∧ RelD T.K ι H dx x ∧ RelD T.K ι H dy y ∧ idx2 dx dy h = some d ∧ Fin T ι H d h Q
theorem ix_ok (k : XOk X T) : IxR X (rIx2 T) := by
  intro value slice pins s σ H x y v u Q I rx ry q hs
  obtain ⟨ι, h, dx, dy, d, sr, r1, r2, e, f⟩ := q
  cases r2 with
  | int i =>
    cases r1 with
    | tup t l =>
      simp only [idx2] at e
      split at e
      · rename_i k' hk
        obtain ⟨w, e1, r⟩ := place_atI l hk e
        exact ix_tup value slice pins s σ H _ _ v u Q I rx ry ⟨_, _, _, _, rfl, rfl, k.hK ▸ t, e1, f.here sr r⟩ hs
      · cases e
    | ref e0 =>
      simp only [idx2] at e
      split at e
      · rename_i xs hx
        split at e
        · rename_i k' hk
          obtain ⟨ys, l, rl⟩ := sr.seq e0 hx
          obtain ⟨w, e1, r⟩ := place_atI rl hk e
          exact ix_list value slice pins s σ H _ _ v u Q I rx ry ⟨_, _, _, _, rfl, rfl, k.hK ▸ l, e1, f.here sr r⟩ hs
        · cases e
      · cases e
    | _ => cases e
  | _ => cases r1 <;> cases e

/-! ### slices -/
theorem cutAt_sIx (n d : Nat) (o : Option Int) : cutAt n d o = HT.sIx n d o := by
  cases o with
  | none => rfl
  | some i =>
    cases i with
    | ofNat k =>
      show (bif Nat.ble k n then k else n) = HT.sIx n d (some (k : Int))
      rw [HT.sIx_nat]
      cases c : Nat.ble k n with
      | true => have : k ≤ n := Nat.le_of_ble_eq_true c; show k = _; omega
      | false => have : ¬ k ≤ n := fun z => by rw [Nat.ble_eq_true_of_le z] at c; cases c
                 show n = _; omega
    | negSucc k =>
      show n - 1 - k = (if Int.negSucc k < 0 then (Int.negSucc k + (n : Int)).toNat else _)
      rw [if_pos (Int.negSucc_lt_zero k)]
      omega
theorem RelL.cut {K : PySem.W.Frag} {ι : In} {H : HpA} {xs : List D} {ys : List V} (r : RelL K ι H xs ys) (lo hi : Option Int) : RelL K ι H (cutL xs lo hi) (cutV ys lo hi) := by
  unfold cutL cutV
  simp only [cutAt_sIx, r.length]
  exact (r.drop _).take _
theorem cutV_all (ys : List V) (lo hi : Option Int) (h : HT.sIx ys.length 0 lo = 0 ∧ HT.sIx ys.length ys.length hi = ys.length) : cutV ys lo hi = ys := by
  unfold cutV
  rw [h.1, h.2]
  simp
def rSl3 (T : Tb) : V → Option Int → Option Int → HpA → VK → Prop := fun x lo hi H Q => ∃ (ι : In) (h : Hp) (dx d : D) (h' : Hp), SR T ι h H ∧ RelD T.K ι H dx x ∧ slc3 dx lo hi h = .ok d h' ∧ Fin T ι H d h' Q
theorem RelD.tupV {K : PySem.W.Frag} {ι : In} {H : HpA} {xs ys' : List D} {a : Addr} {ys : List V} (t : SqT K H a ys) (r : RelL K ι H xs ys) : RelD K ι H (.tup xs) (.ref a) := .tup t r
theorem sl_ok (k : XOk X T) : SlR X (rSl3 T) := by
  intro pins s σ H x v vl vu lo hi sl Q I rx hs pl pu q
  obtain ⟨ι, h, dx, d, h', sr, r1, e, f⟩ := q
  cases r1 with
  | tup t l =>
    rename_i xs a ys
    cases e
    refine sl_tupA pins s σ H _ v vl vu lo hi sl Q I rx hs pl pu ⟨a, ys, rfl, k.hK ▸ t, fun z => ?_, fun z => ?_⟩
    · have c := l.cut lo hi
      rw [cutV_all ys lo hi z] at c
      exact f.here sr (.tup t c)
    · exact f.tup sr (l.cut lo hi)
  | ref e0 =>
    rename_i n a
    simp only [slc3] at e
    split at e
    · rename_i xs hx
      cases e
      obtain ⟨ys, l, rl⟩ := sr.seq e0 hx
      exact sl_list pins s σ H _ v vl vu lo hi sl Q I rx hs pl pu ⟨a, ys, rfl, k.hK ▸ l, f.list sr (rl.cut lo hi)⟩
    · cases e
  | _ => cases e

/-! ### truth -/
theorem seq_isEmpty {K : PySem.W.Frag} {ι : In} {H : HpA} {xs : List D} {ys : List V} (r : RelL K ι H xs ys) : xs.isEmpty = ys.isEmpty := by cases r <;> rfl
theorem str_line {c : Nat} : c = c := rfl
theorem truth_ok (k : XOk X T) {ι : In} {h : Hp} {H : HpA} (sr : SR T ι h H) {d : D} {v : V} {b : Bool} (r : RelD T.K ι H d v) (e : truth d h = some b) : TruV X.K v H b := by
  cases r with
  | non => cases e; rfl
  | bl a => cases e; rfl
  | int i => cases e; rfl
  | str s =>
    simp only [truth] at e
    cases c : Nat.ble s.length line with
    | false => rw [c] at e; cases e
    | true =>
      rw [c] at e
      cases e
      refine ⟨?_, ?_⟩
      · rw [← line_eq]
        exact Nat.le_of_ble_eq_true c
      · show _ = (((s.toArray.size : Nat) : Int) != 0)
        cases s with
        | nil => rfl
        | cons a r =>
          show true = _
          symm
          rw [bne_iff_ne]
          simp
          omega
  | tup t l =>
    cases e
    exact .inr (.inl ⟨_, k.hK ▸ t, by rw [seq_isEmpty l]⟩)
  | ref e0 =>
    simp only [truth] at e
    split at e
    · rename_i xs hx
      cases e
      obtain ⟨ys, l, rl⟩ := sr.seq e0 hx
      exact .inl ⟨_, k.hK ▸ l, by rw [seq_isEmpty rl]⟩
    · cases e
end
end VI

set_option Elab.async false
set_option linter.all false
set_option maxRecDepth 100000
/-! VF: built-ins, isinstance, stores. -/
namespace VI
open PySem PySem.Spec PyProof.Rows L2
section
variable {X : Cx} {T : Tb}
def fvOf : Nat → Value
  | 0 => .builtin "len" | 1 => .builtin "abs" | 2 => .type "int" | 3 => .builtin "max" | 4 => .builtin "min" | 5 => .builtin "all" | 6 => .builtin "any" | 7 => .builtin "sum" | 8 => .type "tuple" | _ => .type "list"
def rBlt (T : Tb) (b : Nat) : List V → HpA → VK → Prop := fun vs H Q => ∃ (ι : In) (h : Hp) (ds : List D) (d : D) (h' : Hp), SR T ι h H ∧ RelL T.K ι H ds vs ∧ blt1 b ds h = .ok d h' ∧ Fin T ι H d h' Q
theorem allB_all (l : List Bool) : allB l = l.all id := by
  induction l with
  | nil => rfl
  | cons b r ih => simp [allB, ih]
theorem anyB_any (l : List Bool) : anyB l = l.any id := by
  induction l with
  | nil => rfl
  | cons b r ih => simp [anyB, ih]
theorem sumI_sum (l : List Int) : sumI l = l.sum := by
  induction l with
  | nil => rfl
  | cons b r ih => simp [sumI, ih]
theorem items_ok (k : XOk X T) {ι : In} {h : Hp} {H : HpA} (sr : SR T ι h H) {d : D} {v : V} {l : List D} (r : RelD T.K ι H d v) (e : items? d h = some l) : ∃ p ys, v = .ref p ∧ (SqL X.K H p ys ∨ SqT X.K H p ys) ∧ RelL T.K ι H l ys := by
  cases r with
  | tup t l => cases e; exact ⟨_, _, rfl, .inr (k.hK ▸ t), l⟩
  | ref e0 =>
    obtain ⟨ys, q, rl⟩ := sr.seq e0 e
    exact ⟨_, _, rfl, .inl (k.hK ▸ q), rl⟩
  | _ => cases e
theorem vs1 {K : PySem.W.Frag} {ι : In} {H : HpA} {d : D} {vs : List V} (r : RelL K ι H [d] vs) : ∃ v, vs = [v] ∧ RelD K ι H d v := by
  cases r with
  | cons a r => cases r; exact ⟨_, rfl, a⟩
theorem blt_ok (k : XOk X T) (b : Nat) : CallR X (fvOf b) (rBlt T b) := by
  intro pins s σ H vs us Q I rs q
  obtain ⟨ι, h, ds, d, h', sr, rl, e, f⟩ := q
  unfold blt1 at e
  split at e
  · -- len
    obtain ⟨v, rfl, r⟩ := vs1 rl
    rename_i d0
    split at e
    · rename_i l hl
      cases e
      obtain ⟨p, ys, rfl, hq, rr⟩ := items_ok k sr r hl
      refine call_len_seq pins s σ H _ us Q I rs ⟨p, ys, rfl, hq, ?_⟩
      rw [← rr.length]
      exact f.here sr (.int _)
    · split at e
      · rename_i z
        cases r
        obtain ⟨c, e⟩ := bif_ok e
        cases e
        refine call_len_str pins s σ H _ us Q I rs ⟨_, rfl, ?_, ?_⟩
        · rw [← line_eq]; exact Nat.le_of_ble_eq_true c
        · exact f.here sr (.int _)
      · cases e
  · obtain ⟨v, rfl, r⟩ := vs1 rl
    cases r
    cases e
    exact call_abs pins s σ H _ us Q I rs ⟨_, rfl, f.here sr (.int _)⟩
  · obtain ⟨v, rfl, r⟩ := vs1 rl
    cases r
    cases e
    exact call_int1 pins s σ H _ us Q I rs (.inl ⟨_, rfl, f.here sr (.int _)⟩)
  · obtain ⟨v, rfl, r⟩ := vs1 rl
    cases r
    cases e
    exact call_int1 pins s σ H _ us Q I rs (.inr ⟨_, rfl, f.here sr (.int _)⟩)
  · cases rl with
    | cons r1 rl =>
      obtain ⟨v, rfl, r2⟩ := vs1 rl
      cases r1
      cases r2
      cases e
      exact call_max2 k.hc pins s σ H _ us Q I rs ⟨_, _, rfl, f.here sr (.int _)⟩
  · cases rl with
    | cons r1 rl =>
      obtain ⟨v, rfl, r2⟩ := vs1 rl
      cases r1
      cases r2
      cases e
      exact call_min2 k.hc pins s σ H _ us Q I rs ⟨_, _, rfl, f.here sr (.int _)⟩
  · obtain ⟨v, rfl, r⟩ := vs1 rl
    cases r with
    | ref e0 =>
      split at e
      · rename_i l hl
        split at e
        · rename_i bs hb
          cases e
          obtain ⟨ys, q, rr⟩ := sr.seq e0 hl
          have := rr.bls hb
          subst this
          refine cr_all k.hc pins s σ H _ us Q I rs ⟨_, bs, rfl, k.hK ▸ q, ?_⟩
          rw [← allB_all]
          exact f.here sr (.bl _)
        · cases e
      · cases e
  · obtain ⟨v, rfl, r⟩ := vs1 rl
    cases r with
    | ref e0 =>
      split at e
      · rename_i l hl
        split at e
        · rename_i bs hb
          cases e
          obtain ⟨ys, q, rr⟩ := sr.seq e0 hl
          have := rr.bls hb
          subst this
          refine cr_any k.hc pins s σ H _ us Q I rs ⟨_, bs, rfl, k.hK ▸ q, ?_⟩
          rw [← anyB_any]
          exact f.here sr (.bl _)
        · cases e
      · cases e
  · obtain ⟨v, rfl, r⟩ := vs1 rl
    cases r with
    | ref e0 =>
      split at e
      · rename_i l hl
        split at e
        · rename_i bs hb
          cases e
          obtain ⟨ys, q, rr⟩ := sr.seq e0 hl
          have := rr.ints hb
          subst this
          refine cr_sum k.hc pins s σ H _ us Q I rs ⟨_, bs, rfl, k.hK ▸ q, ?_⟩
          rw [← sumI_sum]
          exact f.here sr (.int _)
        · cases e
      · cases e
  · obtain ⟨v, rfl, r⟩ := vs1 rl
    split at e
    · cases e
      cases r with
      | tup t l =>
        exact call_tuple_of pins s σ H _ us Q I rs ⟨_, _, rfl, .inr ⟨k.hK ▸ t, f.here sr (.tup t l)⟩⟩
    · cases r with
      | ref e0 =>
        split at e
        · rename_i l hl
          cases e
          obtain ⟨ys, q, rr⟩ := sr.seq e0 hl
          exact call_tuple_of pins s σ H _ us Q I rs ⟨_, _, rfl, .inl ⟨k.hK ▸ q, f.tup sr rr⟩⟩
        · cases e
    · cases e
  · obtain ⟨v, rfl, r⟩ := vs1 rl
    split at e
    · rename_i l hl
      cases e
      obtain ⟨p, ys, rfl, hq, rr⟩ := items_ok k sr r hl
      exact call_list_of pins s σ H _ us Q I rs ⟨p, ys, rfl, hq, f.list sr rr⟩
    · cases e
  · cases e

/-! ### stores -/
def rSetD (T : Tb) : V → V → V → HpA → (HpA → Prop) → Prop := fun o i v H Q => ∃ (ι : In) (h : Hp) (n : Nat) (k : Int) (d : D) (xs : List D) (p : Nat), SR T ι h H ∧ RelD T.K ι H (.ref n) o ∧ RelD T.K ι H (.int k) i ∧ RelD T.K ι H d v ∧ h.get n = some (.lst xs) ∧ place xs.length k = some p ∧
  ∀ H', Ext ι H ι H' → SR T ι (h.set n (.lst (xs.set p d))) H' → Q H'
theorem set_ok (k : XOk X T) : PSet X (rSetD T) := by
  intro pins s σ H o i v ov iv u Q I ro ri rv q
  obtain ⟨ι, h, n, j, d, xs, p, sr, r1, r2, r3, e, hp, f⟩ := q
  cases r1 with
  | ref e0 =>
    cases r2
    obtain ⟨ys, ha, rl⟩ := sr.at e0 e
    have x : Ext ι H ι (upd H _ (.lst (ys.set p v))) := Ext.write sr e0 e (fun xs z => by cases z)
    have hp' := (place_ixN hp).1
    rw [rl.length] at hp'
    refine set_list pins s σ H _ _ v ov iv u Q I ro ri rv ⟨_, ys, j, p, rfl, rfl, ha, hp', f _ x ?_⟩
    exact sr.write e0 e (fun xs z => by cases z) ⟨_, upd_same, (rl.set r3 p).mono x⟩
def rAppD (T : Tb) : V → List V → HpA → VK → Prop := fun x vs H Q => ∃ (ι : In) (h : Hp) (n : Nat) (d : D) (xs : List D), SR T ι h H ∧ RelD T.K ι H (.ref n) x ∧ RelL T.K ι H [d] vs ∧ h.get n = some (.lst xs) ∧ xs.length < line ∧ Fin T ι H .non (h.set n (.lst (xs ++ [d]))) Q
theorem app_ok (k : XOk X T) : MtM X "list.append" (rAppD T) := by
  intro pins s σ H x vs v us Q I rx rv q
  obtain ⟨ι, h, n, d, xs, sr, r1, r2, e, hl, f⟩ := q
  cases r1 with
  | ref e0 =>
    obtain ⟨y, rfl, r3⟩ := vs1 r2
    obtain ⟨ys, ha, rl⟩ := sr.at e0 e
    have x : Ext ι H ι (upd H _ (.lst (ys ++ [y]))) := Ext.write sr e0 e (fun xs z => by cases z)
    refine mt_append pins s σ H _ _ v us Q I rx rv ⟨_, ys, y, rfl, rfl, ha, by rw [← rl.length, ← line_eq]; exact hl, ?_⟩
    exact f ι .non _ x (sr.write e0 e (fun xs z => by cases z) ⟨_, upd_same, (rl.append r2).mono x⟩) .non
def rExtD (T : Tb) : V → List V → HpA → VK → Prop := fun x vs H Q => ∃ (ι : In) (h : Hp) (n m : Nat) (xs ys : List D), SR T ι h H ∧ RelD T.K ι H (.ref n) x ∧ RelL T.K ι H [.ref m] vs ∧ h.get n = some (.lst xs) ∧ h.get m = some (.lst ys) ∧ xs.length + ys.length ≤ line ∧ Fin T ι H .non (h.set n (.lst (xs ++ ys))) Q
theorem ext_ok (k : XOk X T) : MtM X "list.extend" (rExtD T) := by
  intro pins s σ H x vs v us Q I rx rv q
  obtain ⟨ι, h, n, m, xs, ys, sr, r1, r2, e1, e2, hl, f⟩ := q
  cases r1 with
  | ref e0 =>
    obtain ⟨y, rfl, r3⟩ := vs1 r2
    cases r3 with
    | ref e3 =>
      obtain ⟨zs, ha, rl⟩ := sr.at e0 e1
      obtain ⟨ws, hb, rm⟩ := sr.at e3 e2
      have x : Ext ι H ι (upd H _ (.lst (zs ++ ws))) := Ext.write sr e0 e1 (fun xs z => by cases z)
      refine mt_extend pins s σ H _ _ v us Q I rx rv ⟨_, _, zs, ws, rfl, rfl, ha, hb, by rw [← rl.length, ← rm.length, ← line_eq]; exact hl, ?_⟩
      exact f ι .non _ x (sr.write e0 e1 (fun xs z => by cases z) ⟨_, upd_same, (rl.append rm).mono x⟩) .non
end
end VI

set_option Elab.async false
set_option linter.all false
set_option maxRecDepth 100000
/-! VG: expressions. -/
namespace VI
open PySem PySem.Spec PyProof.Rows L2

theorem bd_ok {α β : Type} {r : R α} {f : α → Hp → R β} {b : β} {h' : Hp} (e : r.bd f = .ok b h') : ∃ a h1, r = .ok a h1 ∧ f a h1 = .ok b h' := by
  cases r with
  | ok a h => exact ⟨a, h, rfl, e⟩
  | exc c v h => cases e
  | bad => cases e
theorem ofO_ok {α : Type} {o : Option α} {h h' : Hp} {a : α} (e : ofO o h = .ok a h') : o = some a ∧ h' = h := by
  cases o with
  | none => cases e
  | some b => cases e; exact ⟨rfl, rfl⟩

/-- the tables and what stands below -/
structure Pm where
  T : Tb
  cf : Nat → List D → Hp → R D
  ci : Nat → List D → Hp → R D
  lf : Nat
abbrev Pm.ev (P : Pm) (e : E) (env : Env) (h : Hp) : R D := VI.ev P.T.g P.cf P.ci P.lf e env h

def dE (P : Pm) (e : E) : TE := fun σ H Q => ∃ (ι : In) (h : Hp) (env : Env) (d : D) (h' : Hp), EnvR P.T.K ι H env σ ∧ SR P.T ι h H ∧ P.ev e env h = .ok d h' ∧ Fin P.T ι H d h' Q
def dT (P : Pm) (e : E) : TT := fun σ H Q => ∃ (ι : In) (h : Hp) (env : Env) (d : D) (h' : Hp) (b : Bool), EnvR P.T.K ι H env σ ∧ SR P.T ι h H ∧ P.ev e env h = .ok d h' ∧ truth d h' = some b ∧ ∀ (ι' : In) (H' : HpA), Ext ι H ι' H' → SR P.T ι' h' H' → Q b H'
def dA (P : Pm) (e : E) : TA := fun σ H Q => ∃ (ι : In) (h : Hp) (env : Env) (ds : List D) (h' : Hp), EnvR P.T.K ι H env σ ∧ SR P.T ι h H ∧ P.ev e env h = .ok (.tup ds) h' ∧ ∀ (ι' : In) (vs : List V) (H' : HpA), Ext ι H ι' H' → SR P.T ι' h' H' → RelL P.T.K ι' H' ds vs → Q vs H'

theorem wkE {X : Cx} {e : Expr} {t t' : TE} (p : PE X e t) (w : ∀ σ H Q, t' σ H Q → t σ H Q) : PE X e t' := ⟨fun pins s σ H Q I q => p.run pins s σ H Q I (w σ H Q q)⟩
theorem wkT {X : Cx} {e : Expr} {t t' : TT} (p : PT X e t) (w : ∀ σ H Q, t' σ H Q → t σ H Q) : PT X e t' := ⟨fun pins s σ H Q I q => p.run pins s σ H Q I (w σ H Q q)⟩
theorem wkW {X : Cx} {e : Expr} {t t' : TT} (p : PW X e t) (w : ∀ σ H Q, t' σ H Q → t σ H Q) : PW X e t' := ⟨fun wh pins s σ H Q I q => p.run wh pins s σ H Q I (w σ H Q q)⟩
theorem wkA {X : Cx} {e : List Expr} {t t' : TA} (p : PA X e t) (w : ∀ σ H Q, t' σ H Q → t σ H Q) : PA X e t' := ⟨fun pos pins s σ H Q I q => p.run pos pins s σ H Q I (w σ H Q q)⟩

/-- one step: e, then what is wanted of its datum -/
theorem dE.step {P : Pm} {e : E} {ι : In} {h h1 : Hp} {env : Env} {d : D} {σ : L2.St} {H : HpA} {Q : VK} (E : EnvR P.T.K ι H env σ) (s : SR P.T ι h H) (x : P.ev e env h = .ok d h1)
    (k : ∀ (ι1 : In) (v : V) (H1 : HpA), Ext ι H ι1 H1 → SR P.T ι1 h1 H1 → RelD P.T.K ι1 H1 d v → EnvR P.T.K ι1 H1 env σ → Q v H1) : dE P e σ H Q :=
  ⟨ι, h, env, d, h1, E, s, x, fun ι1 v H1 y s1 r => k ι1 v H1 y s1 r (E.mono y)⟩
theorem dA.step {P : Pm} {e : E} {ι : In} {h h1 : Hp} {env : Env} {ds : List D} {σ : L2.St} {H : HpA} {Q : List V → HpA → Prop} (E : EnvR P.T.K ι H env σ) (s : SR P.T ι h H) (x : P.ev e env h = .ok (.tup ds) h1)
    (k : ∀ (ι1 : In) (vs : List V) (H1 : HpA), Ext ι H ι1 H1 → SR P.T ι1 h1 H1 → RelL P.T.K ι1 H1 ds vs → EnvR P.T.K ι1 H1 env σ → Q vs H1) : dA P e σ H Q :=
  ⟨ι, h, env, ds, h1, E, s, x, fun ι1 v H1 y s1 r => k ι1 v H1 y s1 r (E.mono y)⟩
theorem dT.step {P : Pm} {e : E} {ι : In} {h h1 : Hp} {env : Env} {d : D} {b : Bool} {σ : L2.St} {H : HpA} {Q : Bool → HpA → Prop} (E : EnvR P.T.K ι H env σ) (s : SR P.T ι h H) (x : P.ev e env h = .ok d h1) (t : truth d h1 = some b)
    (k : ∀ (ι1 : In) (H1 : HpA), Ext ι H ι1 H1 → SR P.T ι1 h1 H1 → EnvR P.T.K ι1 H1 env σ → Q b H1) : dT P e σ H Q :=
  ⟨ι, h, env, d, h1, b, E, s, x, t, fun ι1 H1 y s1 => k ι1 H1 y s1 (E.mono y)⟩

section
variable {X : Cx} {P : Pm} (k : XOk X P.T) {a b c : Expr} {ea eb ec : E} {pos : Pos}

/-! ### names, constants -/
theorem d_slot (i : Nat) {x : Str} (hN : X.N[i]? = some x := by rfl) (hv : Vis X.env.scope x := by first | exact Or.inl rfl | exact Or.inr (Or.inl rfl) | exact Or.inr (Or.inr rfl)) (hd : (x == ("__debug__" : Str)) = false := by decide) (hcd : (x == ("__classdict__" : Str)) = false := by decide) :
    PE X (.Name x pos) (dE P (.slot i)) := wkE (pe_var hN hv hd hcd) fun σ H Q ⟨ι, h, env, d, h', E, s, e, f⟩ => by
  obtain ⟨e0, e2⟩ := ofO_ok (show ofO (getS env i) h = .ok d h' from e)
  subst e2
  obtain ⟨v, e1, r⟩ := E.get e0
  exact ⟨v, e1, f.here s r⟩
theorem d_int {i : Int} {j} : PE X (.Constant (.int i) j pos) (dE P (.cst (.int i))) := wkE pe_int fun σ H Q ⟨ι, h, env, d, h', E, s, e, f⟩ => by
  cases e; exact f.here s (.int _)
theorem d_bl {i : Bool} {j} : PE X (.Constant (.bool i) j pos) (dE P (.cst (.bl i))) := wkE pe_bl fun σ H Q ⟨ι, h, env, d, h', E, s, e, f⟩ => by
  cases e; exact f.here s (.bl _)
theorem d_non {j} : PE X (.Constant .none j pos) (dE P (.cst .non)) := wkE pe_non fun σ H Q ⟨ι, h, env, d, h', E, s, e, f⟩ => by
  cases e; exact f.here s .non
theorem d_str {x : Str} {l : List Nat} {j} (hl : x.cps.toList = l) : PE X (.Constant (.str x) j pos) (dE P (.cst (.str l))) := wkE pe_str fun σ H Q ⟨ι, h, env, d, h', E, s, e, f⟩ => by
  cases e
  refine f.here s ?_
  have : x = ⟨l.toArray⟩ := by subst hl; cases x; rfl
  rw [this]
  exact .str l
theorem d_glob {x : Str} {v : V} {u : Value} {d0 : D} (hg : Gl X x) (hm : X.mg x = some u) (r : RelV v u) (rd : ∀ ι H, RelD P.T.K ι H d0 v) (hd : (x == ("__debug__" : Str)) = false := by decide) : PE X (.Name x pos) (dE P (.cst d0)) := wkE (pe_glob hg hm r hd) fun σ H Q ⟨ι, h, env, d, h', E, s, e, f⟩ => by
  cases e; exact f.here s (rd _ _)

/-! ### operators -/
include k
theorem d_bin (o : Op2) (ha : PE X a (dE P ea)) (hb : PE X b (dE P eb)) : PE X (.BinOp a (toOp o) b pos) (dE P (.bin o ea eb)) := wkE (pe_op (op_bin k.hK o) ha hb) fun σ H Q ⟨ι, h, env, d, h', E, s, e, f⟩ => by
  obtain ⟨x, h1, e1, e⟩ := bd_ok e
  obtain ⟨y, h2, e2, e⟩ := bd_ok e
  exact dE.step E s e1 fun ι1 v H1 x1 s1 r1 E1 => dE.step E1 s1 e2 fun ι2 w H2 x2 s2 r2 E2 => ⟨ι2, h2, x, y, d, h', s2, r1.mono x2, r2, e, f.after (x1.trans x2)⟩
omit k in
theorem d_neg (ha : PE X a (dE P ea)) : PE X (.UnaryOp .USub a pos) (dE P (.neg ea)) := wkE (pe_un un_neg ha) fun σ H Q ⟨ι, h, env, d, h', E, s, e, f⟩ => by
  obtain ⟨x, h1, e1, e⟩ := bd_ok e
  refine dE.step E s e1 fun ι1 v H1 x1 s1 r1 E1 => ?_
  cases r1 <;> simp only at e <;> cases e
  exact ⟨_, rfl, (f.after x1).here s1 (.int _)⟩
theorem d_notV (ha : PT X a (dT P ea)) : PT X (.UnaryOp .Not a pos) (dT P (.not ea)) := wkT (pt_not ha) fun σ H Q ⟨ι, h, env, d, h', b, E, s, e, t, f⟩ => by
  obtain ⟨x, h1, e1, e⟩ := bd_ok e
  split at e
  · rename_i b1 t1
    cases e
    cases t
    exact dT.step E s e1 t1 fun ι1 H1 x1 s1 E1 => f ι1 H1 x1 s1
  · cases e
theorem d_not (ha : PE X a (dE P ea)) : PE X (.UnaryOp .Not a pos) (dE P (.not ea)) := wkE (pe_notT ha) fun σ H Q ⟨ι, h, env, d, h', E, s, e, f⟩ => by
  obtain ⟨x, h1, e1, e⟩ := bd_ok e
  split at e
  · rename_i b1 t1
    cases e
    exact dE.step E s e1 fun ι1 v H1 x1 s1 r1 E1 => ⟨_, truth_ok k s1 r1 t1, (f.after x1).here s1 (.bl _)⟩
  · cases e
omit k in
theorem d_and {rest : List Expr} (ha : PE X a (dE P ea)) (hb : PE X (.BoolOp .And (b :: rest) pos) (dE P eb)) : PE X (.BoolOp .And (a :: b :: rest) pos) (dE P (.and ea eb)) := wkE (pe_and ha hb) fun σ H Q ⟨ι, h, env, d, h', E, s, e, f⟩ => by
  obtain ⟨x, h1, e1, e⟩ := bd_ok e
  refine dE.step E s e1 fun ι1 v H1 x1 s1 r1 E1 => ?_
  cases r1 with
  | bl b =>
    cases b with
    | true => exact ⟨_, rfl, iteT (dE.step E1 s1 e fun ι2 w H2 x2 s2 r2 E2 => (f.after (x1.trans x2)).here s2 r2)⟩
    | false => cases e; exact ⟨_, rfl, iteF ((f.after x1).here s1 (.bl _))⟩
  | _ => cases e
omit k in
theorem d_or {rest : List Expr} (ha : PE X a (dE P ea)) (hb : PE X (.BoolOp .Or (b :: rest) pos) (dE P eb)) : PE X (.BoolOp .Or (a :: b :: rest) pos) (dE P (.or ea eb)) := wkE (pe_or ha hb) fun σ H Q ⟨ι, h, env, d, h', E, s, e, f⟩ => by
  obtain ⟨x, h1, e1, e⟩ := bd_ok e
  refine dE.step E s e1 fun ι1 v H1 x1 s1 r1 E1 => ?_
  cases r1 with
  | bl b =>
    cases b with
    | false => exact ⟨_, rfl, iteF (dE.step E1 s1 e fun ι2 w H2 x2 s2 r2 E2 => (f.after (x1.trans x2)).here s2 r2)⟩
    | true => cases e; exact ⟨_, rfl, iteT ((f.after x1).here s1 (.bl _))⟩
  | _ => cases e
theorem d_cmp (o : Cp) (ha : PE X a (dE P ea)) (hb : PE X b (dE P eb)) (hm : behindInMarks (toCp o) b = false) : PE X (.Compare a [toCp o] [b] pos) (dE P (.cmp o ea eb)) := wkE (pe_cmpR (op_cmp k o) ha hb hm) fun σ H Q ⟨ι, h, env, d, h', E, s, e, f⟩ => by
  obtain ⟨x, h1, e1, e⟩ := bd_ok e
  obtain ⟨y, h2, e2, e⟩ := bd_ok e
  split at e
  · rename_i b eb
    cases e
    exact dE.step E s e1 fun ι1 v H1 x1 s1 r1 E1 => dE.step E1 s1 e2 fun ι2 w H2 x2 s2 r2 E2 => ⟨ι2, _, x, y, b, s2, r1.mono x2, r2, eb, (f.after (x1.trans x2)).here s2 (.bl b)⟩
  · cases e
theorem t_cmp (o : Cp) (ha : PE X a (dE P ea)) (hb : PE X b (dE P eb)) (hm : behindInMarks (toCp o) b = false) : PT X (.Compare a [toCp o] [b] pos) (dT P (.cmp o ea eb)) := wkT (pt_cmpR (op_cmp k o) ha hb hm) fun σ H Q ⟨ι, h, env, d, h', b, E, s, e, t, f⟩ => by
  obtain ⟨x, h1, e1, e⟩ := bd_ok e
  obtain ⟨y, h2, e2, e⟩ := bd_ok e
  split at e
  · rename_i b eb
    cases e
    cases t
    exact dE.step E s e1 fun ι1 v H1 x1 s1 r1 E1 => dE.step E1 s1 e2 fun ι2 w H2 x2 s2 r2 E2 => ⟨ι2, _, x, y, b, s2, r1.mono x2, r2, eb, b, rfl, f ι2 H2 (x1.trans x2) s2⟩
  · cases e
theorem d_chain (o p : Cp) (ha : PE X a (dE P ea)) (hb : PE X b (dE P eb)) (hc : PE X c (dE P ec)) (hm : lastMarks [toCp o, toCp p] [b, c] = false := by with_unfolding_all rfl) : PE X (.Compare a [toCp o, toCp p] [b, c] pos) (dE P (.chain o p ea eb ec)) :=
  wkE (pe_chain (op_cmp k o) (op_cmp k p) ha hb hc hm) fun σ H Q ⟨ι, h, env, d, h', E, s, e, f⟩ => by
  obtain ⟨x, h1, e1, e⟩ := bd_ok e
  obtain ⟨y, h2, e2, e⟩ := bd_ok e
  refine dE.step E s e1 fun ι1 v H1 x1 s1 r1 E1 => dE.step E1 s1 e2 fun ι2 w H2 x2 s2 r2 E2 => ?_
  split at e
  · rename_i q
    obtain ⟨z, h3, e3, e⟩ := bd_ok e
    refine ⟨ι2, _, x, y, true, s2, r1.mono x2, r2, q, true, rfl, iteT ?_⟩
    refine dE.step E2 s2 e3 fun ι3 w' H3 x3 s3 r3 E3 => ?_
    split at e
    · rename_i q2
      cases e
      exact ⟨ι3, _, y, z, _, s3, r2.mono x3, r3, q2, (f.after (x1.trans (x2.trans x3))).here s3 (.bl _)⟩
    · cases e
  · rename_i q
    cases e
    exact ⟨ι2, _, x, y, false, s2, r1.mono x2, r2, q, false, rfl, iteF ((f.after (x1.trans x2)).here s2 (.bl _))⟩
  · cases e

/-! ### tests -/
theorem t_val (ha : PE X a (dE P ea)) (he : ∀ whole, isTrue a X.env whole = (do let v ← whole; standAt a.pos; holding [v] (truthy v)) := by intro _; rfl) : PT X a (dT P ea) := wkT (pt_truth ha he) fun σ H Q ⟨ι, h, env, d, h', b, E, s, e, t, f⟩ =>
  dE.step E s e fun ι1 v H1 x1 s1 r1 E1 => ⟨b, truth_ok k s1 r1 t, f ι1 H1 x1 s1⟩
omit k in
theorem w_and {rest : List Expr} (ha : PT X a (dT P ea)) (hb : PW X (.BoolOp .And (b :: rest) pos) (dT P eb)) : PW X (.BoolOp .And (a :: b :: rest) pos) (dT P (.and ea eb)) := wkW (pw_and ha hb) fun σ H Q ⟨ι, h, env, d, h', b, E, s, e, t, f⟩ => by
  obtain ⟨x, h1, e1, e⟩ := bd_ok e
  split at e
  · exact dT.step E s e1 rfl fun ι1 H1 x1 s1 E1 => iteT (dT.step E1 s1 e t fun ι2 H2 x2 s2 E2 => f ι2 H2 (x1.trans x2) s2)
  · cases e
    cases t
    exact dT.step E s e1 rfl fun ι1 H1 x1 s1 E1 => iteF (f ι1 H1 x1 s1)
  · cases e
omit k in
theorem w_or {rest : List Expr} (ha : PT X a (dT P ea)) (hb : PW X (.BoolOp .Or (b :: rest) pos) (dT P eb)) : PW X (.BoolOp .Or (a :: b :: rest) pos) (dT P (.or ea eb)) := wkW (pw_or ha hb) fun σ H Q ⟨ι, h, env, d, h', b, E, s, e, t, f⟩ => by
  obtain ⟨x, h1, e1, e⟩ := bd_ok e
  split at e
  · cases e
    cases t
    exact dT.step E s e1 rfl fun ι1 H1 x1 s1 E1 => iteT (f ι1 H1 x1 s1)
  · exact dT.step E s e1 rfl fun ι1 H1 x1 s1 E1 => iteF (dT.step E1 s1 e t fun ι2 H2 x2 s2 E2 => f ι2 H2 (x1.trans x2) s2)
  · cases e
omit k in
theorem d_ite (hc : PT X c (dT P ec)) (ha : PE X a (dE P ea)) (hb : PE X b (dE P eb)) : PE X (.IfExp c a b pos) (dE P (.ite ec ea eb)) := wkE (pe_ifExp hc ha hb) fun σ H Q ⟨ι, h, env, d, h', E, s, e, f⟩ => by
  obtain ⟨x, h1, e1, e⟩ := bd_ok e
  split at e
  · rename_i t; exact dT.step E s e1 t fun ι1 H1 x1 s1 E1 => iteT (dE.step E1 s1 e fun ι2 w H2 x2 s2 r2 E2 => (f.after (x1.trans x2)).here s2 r2)
  · rename_i t; exact dT.step E s e1 t fun ι1 H1 x1 s1 E1 => iteF (dE.step E1 s1 e fun ι2 w H2 x2 s2 r2 E2 => (f.after (x1.trans x2)).here s2 r2)
  · cases e

/-! ### subscripts, slices -/
theorem d_idx (ha : PE X a (dE P ea)) (hb : PE X b (dE P eb)) (hs : PlainIx b) : PE X (.Subscript a b pos) (dE P (.idx ea eb)) := wkE (pe_ix (ix_ok k) ha hb hs) fun σ H Q ⟨ι, h, env, d, h', E, s, e, f⟩ => by
  obtain ⟨x, h1, e1, e⟩ := bd_ok e
  obtain ⟨y, h2, e2, e⟩ := bd_ok e
  obtain ⟨e, rfl⟩ := ofO_ok e
  exact dE.step E s e1 fun ι1 v H1 x1 s1 r1 E1 => dE.step E1 s1 e2 fun ι2 w H2 x2 s2 r2 E2 => ⟨ι2, _, x, y, d, s2, r1.mono x2, r2, e, f.after (x1.trans x2)⟩
omit k in
def dO (P : Pm) (p : Bool) (e : E) : TO := fun σ H Q => ∃ (ι : In) (h : Hp) (env : Env) (d : D) (h' : Hp) (o : Option Int), EnvR P.T.K ι H env σ ∧ SR P.T ι h H ∧ P.ev e env h = .ok d h' ∧ part? p d = some o ∧ ∀ (ι' : In) (H' : HpA), Ext ι H ι' H' → SR P.T ι' h' H' → Q o H'
omit k in
theorem wkO {e : Option Expr} {t t' : TO} (p : PO X e t) (w : ∀ σ H Q, t' σ H Q → t σ H Q) : PO X e t' := ⟨fun pins s σ H Q I q => p.run pins s σ H Q I (w σ H Q q)⟩
omit k in
theorem o_none : PO X none (dO P false .nop) := wkO po_none fun σ H Q ⟨ι, h, env, d, h', o, E, s, e, p, f⟩ => by
  cases e; cases p; exact f ι H (.refl ι H) s
omit k in
theorem o_some {e : Expr} (he : PE X e (dE P ea)) : PO X (some e) (dO P true ea) := wkO (po_some he) fun σ H Q ⟨ι, h, env, d, h', o, E, s, e, p, f⟩ => by
  refine dE.step E s e fun ι1 v H1 x1 s1 r1 E1 => ?_
  cases r1 with
  | int i => cases p; exact ⟨i, rfl, f ι1 H1 x1 s1⟩
  | _ => cases p
theorem d_slc {p q : Bool} {lo hi : Option Expr} {p2 : Pos} (ha : PE X a (dE P ea)) (hl : PO X lo (dO P p eb)) (hh : PO X hi (dO P q ec)) : PE X (.Subscript a (.Slice lo hi none p2) pos) (dE P (.slc p q ea eb ec)) := wkE (pe_slice (sl_ok k) ha hl hh) fun σ H Q ⟨ι, h, env, d, h', E, s, e, f⟩ => by
  obtain ⟨x, h1, e1, e⟩ := bd_ok e
  obtain ⟨y, h2, e2, e⟩ := bd_ok e
  split at e
  · rename_i l hl
    obtain ⟨z, h3, e3, e⟩ := bd_ok e
    split at e
    · rename_i u hu
      exact dE.step E s e1 fun ι1 v H1 x1 s1 r1 E1 => ⟨ι1, h1, env, y, h2, l, E1, s1, e2, hl, fun ι2 H2 x2 s2 => ⟨ι2, h2, env, z, h3, u, E1.mono x2, s2, e3, hu, fun ι3 H3 x3 s3 => ⟨ι3, h3, x, d, h', s3, r1.mono (x2.trans x3), e, f.after (x1.trans (x2.trans x3))⟩⟩⟩
    · cases e
  · cases e
end
end VI

set_option Elab.async false
set_option linter.all false
set_option maxRecDepth 100000
/-! VH: displays, fields, calls. -/
namespace VI
open PySem PySem.Spec PyProof.Rows L2

/-- the tables' facts -/
structure TOk (T : Tb) : Prop where
  cls : ∀ c k, nth T.g.cls c = some k → Cls T.K (T.ca c)
  fld : ∀ c k f, nth T.g.cls c = some k → memN f k.flds = true → NoAttr T.K (T.ca c) (T.an f)
  inj : ∀ c k f g, nth T.g.cls c = some k → memN f k.flds = true → T.an f = T.an g → f = g
  met : ∀ c k m f, nth T.g.cls c = some k → lookN k.meths m = some f → memN m k.flds = false

section
variable {X : Cx} {P : Pm} (k : XOk X P.T) {a b c : Expr} {ea eb ec : E} {es : List Expr} {er : E} {pos : Pos}

/-! ### lists of items -/
theorem a_nil : PA X [] (dA P .nil) := wkA pa_nil fun σ H Q ⟨ι, h, env, ds, h', E, s, e, f⟩ => by
  cases e; exact f ι [] H (.refl ι H) s .nil
theorem a_cons (ha : PE X a (dE P ea)) (hr : PA X es (dA P er)) (hs : starEach (a :: es) X.env = (false, eval a X.env) :: starEach es X.env := by rfl) : PA X (a :: es) (dA P (.cons ea er)) := wkA (pa_cons ha hr hs) fun σ H Q ⟨ι, h, env, ds, h', E, s, e, f⟩ => by
  obtain ⟨x, h1, e1, e⟩ := bd_ok e
  obtain ⟨y, h2, e2, e⟩ := bd_ok e
  split at e
  · cases e
    exact dE.step E s e1 fun ι1 v H1 x1 s1 r1 E1 => dA.step E1 s1 e2 fun ι2 vs H2 x2 s2 r2 E2 => f ι2 (v :: vs) H2 (x1.trans x2) s2 (.cons (r1.mono x2) r2)
  · cases e
include k in
theorem a_star {p : Pos} (ha : PE X a (dE P ea)) (hr : PA X es (dA P er)) (hs : starEach (.Starred a p :: es) X.env = (true, eval a X.env) :: starEach es X.env := by rfl) : PA X (.Starred a p :: es) (dA P (.star ea er)) := wkA (StX.pa_star ha hr hs) fun σ H Q ⟨ι, h, env, ds, h', E, s, e, f⟩ => by
  obtain ⟨x, h1, e1, e⟩ := bd_ok e
  split at e
  · rename_i xs hx
    obtain ⟨y, h2, e2, e⟩ := bd_ok e
    split at e
    · cases e
      refine dE.step E s e1 fun ι1 v H1 x1 s1 r1 E1 => ?_
      obtain ⟨p, ys, rfl, hq, rr⟩ := items_ok k s1 r1 hx
      exact ⟨p, ys, rfl, hq.symm, dA.step E1 s1 e2 fun ι2 vs H2 x2 s2 r2 E2 => f ι2 (ys ++ vs) H2 (x1.trans x2) s2 ((rr.mono x2).append r2)⟩
    · cases e
  · cases e
theorem d_tup {kk} (hr : PA X es (dA P er)) : PE X (.Tuple es kk pos) (dE P (.tup er)) := wkE (pe_tup hr) fun σ H Q ⟨ι, h, env, d, h', E, s, e, f⟩ => by
  obtain ⟨x, h1, e1, e⟩ := bd_ok e
  split at e
  · obtain ⟨c, e⟩ := bif_ok e
    cases e
    exact dA.step E s e1 fun ι1 vs H1 x1 s1 r1 E1 => ⟨by rw [← r1.length, ← line_eq]; exact Nat.le_of_ble_eq_true c, (f.after x1).tup s1 r1⟩
  · cases e
theorem d_lst (hr : PA X es (dA P er)) : PE X (.List es pos) (dE P (.lst er)) := wkE (pe_lst hr) fun σ H Q ⟨ι, h, env, d, h', E, s, e, f⟩ => by
  obtain ⟨x, h1, e1, e⟩ := bd_ok e
  split at e
  · obtain ⟨c, e⟩ := bif_ok e
    cases e
    exact dA.step E s e1 fun ι1 vs H1 x1 s1 r1 E1 => ⟨by rw [← r1.length, ← line_eq]; exact Nat.le_of_ble_eq_true c, (f.after x1).list s1 r1⟩
  · cases e

/-! ### fields -/
theorem fld_at {T : Tb} (t : TOk T) {ι : In} {H : HpA} {c : Nat} {kk : CI} (hc : nth T.g.cls c = some kk) {fs : List (Nat × D)} {gs : List (Str × V)} {f : Nat} {d : D} (ki : keysIn fs kk.flds) (rr : FldR T.K T.an ι H fs gs) (e : lookN fs f = some d) : memN f kk.flds = true ∧ ∃ v, gs.lookup (T.an f) = some v ∧ RelD T.K ι H d v := by
  induction rr with
  | nil => cases e
  | @cons g d0 v fs gs r rr ih =>
    obtain ⟨k1, k2⟩ := ki
    simp only [lookN] at e
    by_cases q : g = f
    · subst q
      rw [BEq.rfl] at e
      cases e
      exact ⟨k1, v, by simp, r⟩
    · rw [beq_eq_false_iff_ne.mpr q] at e
      obtain ⟨m, v, e1, r1⟩ := ih k2 e
      refine ⟨m, v, ?_, r1⟩
      rw [List.lookup_cons]
      have : (T.an f == T.an g) = false := beq_eq_false_iff_ne.mpr fun z => q (t.inj c kk f g hc m z).symm
      rw [this]
      exact e1
theorem d_fld (hk : X.K = P.T.K) (t : TOk P.T) {f : Nat} {x : Str} (hx : P.T.an f = x) (ha : PE X a (dE P ea)) (hb : attributeBase a x X.env (eval a X.env) = eval a X.env := by rfl) : PE X (.Attribute a x pos) (dE P (.fld ea f)) := wkE (pe_fld ha hb) fun σ H Q ⟨ι, h, env, d, h', E, s, e, q⟩ => by
  subst hx
  obtain ⟨x, h1, e1, e⟩ := bd_ok e
  split at e
  · split at e
    · rename_i n _ c fs g
      obtain ⟨e0, e3⟩ := ofO_ok (show ofO (lookN fs f) h1 = .ok d h' from e)
      subst e3
      refine dE.step E s e1 fun ι1 v H1 x1 s1 r1 E1 => ?_
      cases r1 with
      | ref e4 =>
        obtain ⟨kk, dx, gs, hc, ki, ha, rr⟩ := s1.at e4 g
        obtain ⟨m, w, l, rw'⟩ := fld_at t hc ki rr e0
        exact ⟨_, _, dx, gs, w, rfl, ha, hk ▸ t.cls c kk hc, hk ▸ t.fld c kk f hc m, l, (q.after x1).here s1 rw'⟩
    · cases e
  · cases e
theorem fldR_put {T : Tb} (t : TOk T) {ι : In} {H : HpA} {c : Nat} {kk : CI} (hc : nth T.g.cls c = some kk) {f : Nat} (hf : memN f kk.flds = true) {d : D} {v : V} (r : RelD T.K ι H d v) {fs : List (Nat × D)} {gs : List (Str × V)} (ki : keysIn fs kk.flds) (rr : FldR T.K T.an ι H fs gs) : keysIn (putN f d fs) kk.flds ∧ FldR T.K T.an ι H (putN f d fs) (putF (T.an f) v gs) := by
  induction rr with
  | nil => exact ⟨⟨hf, trivial⟩, .cons r .nil⟩
  | @cons g d0 w fs gs q rr ih =>
    obtain ⟨k1, k2⟩ := ki
    unfold putN putF
    by_cases z : g = f
    · subst z
      rw [BEq.rfl, if_pos rfl]
      exact ⟨⟨k1, k2⟩, .cons r rr⟩
    · have z2 : T.an g ≠ T.an f := fun y => z (t.inj c kk f g hc hf y.symm).symm
      obtain ⟨a1, a2⟩ := ih k2
      rw [beq_eq_false_iff_ne.mpr z, if_neg z2]
      exact ⟨⟨k1, a1⟩, .cons q a2⟩
end
end VI

set_option Elab.async false
set_option linter.all false
set_option maxRecDepth 100000
/-! VJ: calls. -/
namespace VI
open PySem PySem.Spec PyProof.Rows L2

/-- where the defs stand -/
structure Fs where
  fa : Nat → Addr
  fd : Nat → FuncData
  ps : Nat → List Str
/-- what a def promises: what the interpreter answers -/
def spC (T : Tb) (F : Fs) (cf : Nat → List D → Hp → R D) (fi : Nat) : Sp := fun vs H Q _ => vs.length = (F.ps fi).length ∧ ∃ (ι : In) (h : Hp) (ds : List D) (d : D) (h' : Hp), SR T ι h H ∧ RelL T.K ι H ds vs ∧ cf fi ds h = .ok d h' ∧ Fin T ι H d h' Q
/-- classes' methods -/
structure MOk (T : Tb) (F : Fs) : Prop where
  mth : ∀ c k m f, nth T.g.cls c = some k → lookN k.meths m = some f → Meth T.K (T.ca c) (T.an m) (F.fa f) ∧ ∃ i, nth T.g.fns f = some i
  mkr : ∀ c k f, nth T.g.cls c = some k → k.init = some f → Mk T.K (T.ca c) (F.fa f) ∧ ∃ i, nth T.g.fns f = some i
/-- what a body at level k + 1 may lean on -/
structure BOk (X : Cx) (P : Pm) (F : Fs) (k : Nat) : Prop where
  x : XOk X P.T
  t : TOk P.T
  m : MOk P.T F
  rm : Room k X.A
  bnd : ∀ fi i, nth P.T.g.fns fi = some i → Binds X.K (F.fd fi) (F.ps fi) []
  kp : ∀ fi i, nth P.T.g.fns fi = some i → PySem.W.keepIn X.K (.ref (F.fa fi)) = true
  cal : ∀ fi i, nth P.T.g.fns fi = some i → FnOk X.prog X.w X.K X.mg X.base CX0 k (F.fa fi) (F.fd fi) (F.ps fi) (spC P.T F P.cf fi)
  ini : ∀ fi i, nth P.T.g.fns fi = some i → (∀ ds h, P.ci fi ds h = .bad) ∨ ∃ j, j + 1 ≤ k ∧ FnOk X.prog X.w X.K X.mg X.base CX0 j (F.fa fi) (F.fd fi) (F.ps fi) (spC P.T F P.ci fi)
  lenC : ∀ fi i ds h d h', nth P.T.g.fns fi = some i → P.cf fi ds h = .ok d h' → ds.length = (F.ps fi).length
  lenI : ∀ fi i ds h d h', nth P.T.g.fns fi = some i → P.ci fi ds h = .ok d h' → ds.length = (F.ps fi).length

theorem peN {X : Cx} {e : Expr} {t : TE} (h : ∀ σ H Q, ¬ t σ H Q) : PE X e t := ⟨fun _ _ σ H Q _ q => (h σ H Q q).elim⟩

section
variable {X : Cx} {P : Pm} {F : Fs} {k : Nat} (B : BOk X P F k) {a b c e o : Expr} {ea eb ec : E} {es : List Expr} {er : E} {pos p apos : Pos} {x m : Str}

/-! ### a method, by the instance's class -/
def tMethD (X : Cx) (P : Pm) (F : Fs) (m : Str) (to : TE) (t : TA) : TE := fun σ H Q => to σ H fun x H1 => ∃ a C dx fs fi i, x = .ref a ∧ H1 a = some (.ins C dx fs) ∧ fs.lookup m = none ∧ Cls X.K C ∧ Meth X.K C m (F.fa fi) ∧ nth P.T.g.fns fi = some i ∧ t σ H1 fun vs H2 => spC P.T F P.cf fi (x :: vs) H2 Q E0
include B in
theorem pe_methD {to : TE} {t : TA} {pl : Sem Bool} (ho : PE X o to) (ha : PA X (e :: es) t)
    (hst : starEach (e :: es) X.env = (false, eval e X.env) :: starEach es X.env) (hpl : (backTo pos (starEach es X.env)).any (·.1) = false)
    (ht : eval (.Call (.Attribute o m apos) (e :: es) [] pos) X.env = (do
      let ov ← eval o X.env
      standAt apos.atName
      let (f, first) ← holding [ov] (getMethod ov m pl)
      callWith pos f first (backTo pos (starEach (e :: es) X.env)) (backToKw pos (keywordEach [] X.env)))) :
    PE X (.Call (.Attribute o m apos) (e :: es) [] pos) (tMethD X P F m to t) := by
  refine ⟨fun pins s σ H Q I h => ?_⟩
  refine PySem.W.methodCall_KW (pl := pl) (thn (ho.run pins s σ H _ I h) fun u s1 ⟨x, H1, I1, rx, a, C, dx, fs, fi, i, ex, ea, l, cl, me, hi, q⟩ => ?_) ht
  subst ex
  have : u = Value.ref a := rx
  subst this
  refine getmeth_ok I1 ea cl me l (PySem.W.callWith_K (first := [.ref a]) (h₀ := X.base) I.ok.mod.kin me.kp (thn (ha.run pos pins s1 σ H1 _ I1 q) fun us s2 ⟨vs, H2, I2, r, q2⟩ => ⟨I2.kIn, ?_⟩) hst hpl)
  refine run_fn (us := .ref a :: us) (vs := .ref a :: vs) (B.cal fi i hi) B.rm (B.bnd fi i hi) .nil pass0 I2 (.cons rfl r) ?_
  rw [List.append_nil]
  exact q2
include B in
theorem pe_methD0 {to : TE} {pl : Sem Bool} (ho : PE X o to)
    (ht : eval (.Call (.Attribute o m apos) [] [] pos) X.env = (do
      let ov ← eval o X.env
      standAt apos.atName
      let (f, first) ← holding [ov] (getMethod ov m pl)
      callWith pos f first (backTo pos (starEach [] X.env)) (backToKw pos (keywordEach [] X.env)))) :
    PE X (.Call (.Attribute o m apos) [] [] pos) (tMethD X P F m to tNil) := by
  refine ⟨fun pins s σ H Q I h => ?_⟩
  refine PySem.W.methodCall_KW (pl := pl) (thn (ho.run pins s σ H _ I h) fun u s1 ⟨x, H1, I1, rx, a, C, dx, fs, fi, i, ex, ea, l, cl, me, hi, q⟩ => ?_) ht
  subst ex
  have : u = Value.ref a := rx
  subst this
  refine getmeth_ok I1 ea cl me l (PySem.W.callWith_K0 (first := [.ref a]) I1.kIn me.kp (run_fn (us := [.ref a]) (vs := [.ref a]) (B.cal fi i hi) B.rm (B.bnd fi i hi) .nil pass0 I1 (.cons rfl .nil) q))

theorem fldR_none {T : Tb} (t : TOk T) {ι : In} {H : HpA} {c : Nat} {kk : CI} (hc : nth T.g.cls c = some kk) {m : Nat} (hm : memN m kk.flds = false) {fs : List (Nat × D)} {gs : List (Str × V)} (ki : keysIn fs kk.flds) (rr : FldR T.K T.an ι H fs gs) : gs.lookup (T.an m) = none := by
  induction rr with
  | nil => rfl
  | @cons g d0 v fs gs r rr ih =>
    obtain ⟨k1, k2⟩ := ki
    rw [List.lookup_cons]
    have : (T.an m == T.an g) = false := beq_eq_false_iff_ne.mpr fun z => by
      have := t.inj c kk g m hc k1 z.symm
      subst this
      rw [k1] at hm
      cases hm
    rw [this]
    exact ih k2
theorem methD_of (B : BOk X P F k) {mi : Nat} {σ : L2.St} {H : HpA} {Q : VK} {er : E} {t : TA} (ht : ∀ σ H Q, dA P er σ H Q → t σ H Q) (q : dE P (.meth mi ea er) σ H Q) : tMethD X P F (P.T.an mi) (dE P ea) t σ H Q := by
  obtain ⟨ι, h, env, d, h', E, s, e, f⟩ := q
  obtain ⟨x, h1, e1, e⟩ := bd_ok e
  refine dE.step E s e1 fun ι1 v H1 x1 s1 r1 E1 => ?_
  split at e
  · split at e
    · rename_i n _ c fs g
      split at e
      · rename_i kk hc
        split at e
        · rename_i fi hl
          obtain ⟨y, h2, e2, e⟩ := bd_ok e
          split at e
          · rename_i ys
            cases r1 with
            | ref e0 =>
              obtain ⟨kk', dx, gs, hc', ki, ha, rr⟩ := s1.at e0 g
              rw [hc] at hc'
              cases hc'
              obtain ⟨me, i, hi⟩ := B.m.mth c kk mi fi hc hl
              refine ⟨_, _, dx, gs, fi, i, rfl, ha, fldR_none B.t hc (B.t.met c kk mi fi hc hl) ki rr, B.x.hK ▸ B.t.cls c kk hc, B.x.hK ▸ me, hi, ?_⟩
              refine ht _ _ _ (dA.step E1 s1 e2 fun ι2 vs H2 x2 s2 r2 E2 => ?_)
              have rl : RelL P.T.K ι2 H2 (.ref n :: ys) (.ref _ :: vs) := .cons (.ref (x2.io _ _ e0)) r2
              refine ⟨?_, ι2, h2, _, d, h', s2, rl, e, f.after (x1.trans x2)⟩
              rw [← rl.length]
              exact B.lenC fi i _ _ _ _ hi e
          · cases e
        · cases e
      · cases e
    · cases e
  · cases e
include B in
theorem d_meth {mi : Nat} {pl : Sem Bool} (hm : P.T.an mi = m) (ho : PE X o (dE P ea)) (ha : PA X (e :: es) (dA P er))
    (ht : eval (.Call (.Attribute o m apos) (e :: es) [] pos) X.env = (do
      let ov ← eval o X.env
      standAt apos.atName
      let (f, first) ← holding [ov] (getMethod ov m pl)
      callWith pos f first (backTo pos (starEach (e :: es) X.env)) (backToKw pos (keywordEach [] X.env))) := by rfl)
    (hst : starEach (e :: es) X.env = (false, eval e X.env) :: starEach es X.env := by rfl) (hpl : (backTo pos (starEach es X.env)).any (·.1) = false := by rfl) :
    PE X (.Call (.Attribute o m apos) (e :: es) [] pos) (dE P (.meth mi ea er)) := by
  subst hm
  exact wkE (pe_methD (pl := pl) B ho ha hst hpl ht) fun σ H Q q => methD_of B (fun _ _ _ z => z) q
include B in
theorem d_meth0 {mi : Nat} {pl : Sem Bool} (hm : P.T.an mi = m) (ho : PE X o (dE P ea))
    (ht : eval (.Call (.Attribute o m apos) [] [] pos) X.env = (do
      let ov ← eval o X.env
      standAt apos.atName
      let (f, first) ← holding [ov] (getMethod ov m pl)
      callWith pos f first (backTo pos (starEach [] X.env)) (backToKw pos (keywordEach [] X.env))) := by rfl) :
    PE X (.Call (.Attribute o m apos) [] [] pos) (dE P (.meth mi ea .nil)) := by
  subst hm
  refine wkE (pe_methD0 (pl := pl) B ho ht) fun σ H Q q => methD_of B (fun σ H Q z => ?_) q
  obtain ⟨ι, h, env, ds, h', E, s, e, f⟩ := z
  cases e
  exact f ι [] H (.refl ι H) s .nil

/-! ### a def of the module -/
include B in
theorem d_call {f : Nat} {i : FI} (hi : nth P.T.g.fns f = some i) (hm : X.mg x = some (.ref (F.fa f))) (hg : Gl X x) (ha : PA X (e :: es) (dA P er)) (hdb : (x == ("__debug__" : Str)) = false := by decide)
    (hst : starEach (e :: es) X.env = (false, eval e X.env) :: starEach es X.env := by rfl) (hpl : (backTo pos (starEach es X.env)).any (·.1) = false := by rfl) :
    PE X (.Call (.Name x p) (e :: es) [] pos) (dE P (.call f er)) := wkE (pe_call (B.cal f i hi) B.rm hg hm (B.kp f i hi) (B.bnd f i hi) .nil pass0 ha hdb hst hpl) fun σ H Q ⟨ι, h, env, d, h', E, s, e, q⟩ => by
  obtain ⟨y, h2, e2, e⟩ := bd_ok e
  split at e
  · refine dA.step E s e2 fun ι2 vs H2 x2 s2 r2 E2 => ?_
    rw [List.append_nil]
    refine ⟨?_, ι2, h2, _, d, h', s2, r2, e, q.after x2⟩
    rw [← r2.length]
    exact B.lenC f i _ _ _ _ hi e
  · cases e
include B in
theorem d_make {cc f : Nat} {kk : CI} (hc : nth P.T.g.cls cc = some kk) (hf : kk.init = some f) (hm : X.mg x = some (.ref (P.T.ca cc))) (hg : Gl X x) (ha : PA X (e :: es) (dA P er)) (hdb : (x == ("__debug__" : Str)) = false := by decide)
    (hst : starEach (e :: es) X.env = (false, eval e X.env) :: starEach es X.env := by rfl) (hpl : (backTo pos (starEach es X.env)).any (·.1) = false := by rfl) :
    PE X (.Call (.Name x p) (e :: es) [] pos) (dE P (.make cc er)) := by
  obtain ⟨M, i, hi⟩ := B.m.mkr cc kk f hc hf
  rcases B.ini f i hi with bad | ⟨j, hj, G⟩
  · refine peN fun σ H Q ⟨ι, h, env, d, h', E, s, e, q⟩ => ?_
    obtain ⟨y, h2, e2, e⟩ := bd_ok e
    split at e
    · simp only [hc, hf, bad] at e
      cases e
    · cases e
  · refine wkE (pe_make (B.x.hK ▸ M) G (B.rm.mono hj) hg hm (B.bnd f i hi) .nil pass0 ha hdb hst hpl) fun σ H Q ⟨ι, h, env, d, h', E, s, e, q⟩ => ?_
    obtain ⟨y, h2, e2, e⟩ := bd_ok e
    split at e
    · simp only [hc, hf] at e
      obtain ⟨v, h3, e3, e⟩ := bd_ok e
      split at e
      · cases e
        refine dA.step E s e2 fun ι2 vs H2 x2 s2 r2 E2 => fun x dx nx nd ne => ?_
        rw [List.append_nil]
        have nx' : upd H2 dx (.own x) x = none := by rw [upd_ne (Ne.symm ne)]; exact nx
        have y1 : Ext ι2 H2 ι2 (upd H2 dx (.own x)) := Ext.new nd
        have s3 : SR P.T ι2 h2 (upd H2 dx (.own x)) := s2.new nd
        have y2 : Ext ι2 (upd H2 dx (.own x)) (upI ι2 h2.next x) (upd (upd H2 dx (.own x)) x (.ins (P.T.ca cc) dx [])) := Ext.push s3 nx'
        have s4 := s3.push (o := .ins cc []) nx' (u := .ins (P.T.ca cc) dx []) ⟨kk, dx, [], hc, trivial, upd_same, .nil⟩
        have rl : RelL P.T.K (upI ι2 h2.next x) (upd (upd H2 dx (.own x)) x (.ins (P.T.ca cc) dx [])) (.ref h2.next :: _) (.ref x :: vs) := .cons (.ref (by simp [upI])) (r2.mono (y1.trans y2))
        refine ⟨?_, _, _, _, .non, _, s4, rl, e3, fun ι5 v5 H5 y5 s5 r5 => ?_⟩
        · rw [← rl.length]
          exact B.lenI f i _ _ _ _ hi e3
        · cases r5
          refine ⟨rfl, q ι5 (.ref x) H5 (x2.trans (y1.trans (y2.trans y5))) s5 (.ref (y5.io _ _ (by simp [upI])))⟩
      · cases e
    · cases e

/-! ### built-ins -/
include B in
theorem d_bltB {bi : Nat} {id : String} (hb : fvOf bi = .builtin id) (hm : X.mg x = none) (hv : bootBuiltins x = some (.builtin id)) (hg : Gl X x) (ha : PA X (e :: es) (dA P er)) (hn : x ≠ "__name__" := by decide) (hdb : (x == ("__debug__" : Str)) = false := by decide)
    (hst : starEach (e :: es) X.env = (false, eval e X.env) :: starEach es X.env := by rfl) (hpl : (backTo pos (starEach es X.env)).any (·.1) = false := by rfl) :
    PE X (.Call (.Name x p) (e :: es) [] pos) (dE P (.blt bi er)) := wkE (pe_callB (hb ▸ blt_ok B.x bi) hg hm hv ha hn hdb hst hpl) fun σ H Q ⟨ι, h, env, d, h', E, s, e, q⟩ => by
  obtain ⟨y, h2, e2, e⟩ := bd_ok e
  split at e
  · exact dA.step E s e2 fun ι2 vs H2 x2 s2 r2 E2 => ⟨ι2, h2, _, d, h', s2, r2, e, q.after x2⟩
  · cases e
include B in
theorem d_bltT {bi : Nat} {id : String} (hb : fvOf bi = .type id) (hm : X.mg x = none) (hv : bootBuiltins x = some (.type id)) (hg : Gl X x) (ha : PA X (e :: es) (dA P er)) (hn : x ≠ "__name__" := by decide) (hdb : (x == ("__debug__" : Str)) = false := by decide)
    (hst : starEach (e :: es) X.env = (false, eval e X.env) :: starEach es X.env := by rfl) (hpl : (backTo pos (starEach es X.env)).any (·.1) = false := by rfl) :
    PE X (.Call (.Name x p) (e :: es) [] pos) (dE P (.blt bi er)) := wkE (pe_callTy (hb ▸ blt_ok B.x bi) hg hm hv ha hn hdb hst hpl) fun σ H Q ⟨ι, h, env, d, h', E, s, e, q⟩ => by
  obtain ⟨y, h2, e2, e⟩ := bd_ok e
  split at e
  · exact dA.step E s e2 fun ι2 vs H2 x2 s2 r2 E2 => ⟨ι2, h2, _, d, h', s2, r2, e, q.after x2⟩
  · cases e

/-! ### isinstance -/
def tyN : Nat → String
  | 0 => "int" | 1 => "bool" | 2 => "tuple" | _ => "str"
theorem isi_ok {T : Tb} {ι : In} {h : Hp} {H : HpA} {d : D} {v : V} {ty : Nat} {bb : Bool} (s : SR T ι h H) (r : RelD T.K ι H d v) (hty : ty ≤ 3) (e : isi2 d ty h = some bb) : ∃ t, TyX T.K H v t ∧ PySem.W.kitOne T.K t (.type (tyN ty)) = some bb := by
  have h4 : ty = 0 ∨ ty = 1 ∨ ty = 2 ∨ ty = 3 := by omega
  cases r with
  | non =>
    refine ⟨.type "NoneType", .base .non, ?_⟩
    rcases h4 with rfl | rfl | rfl | rfl <;> cases e <;> exact kit_ty (by decide +kernel)
  | bl b =>
    refine ⟨.type "bool", .base (.bl b), ?_⟩
    rcases h4 with rfl | rfl | rfl | rfl <;> cases e <;> exact kit_ty (by decide +kernel)
  | int i =>
    refine ⟨.type "int", .base (.int i), ?_⟩
    rcases h4 with rfl | rfl | rfl | rfl <;> cases e <;> exact kit_ty (by decide +kernel)
  | str z =>
    refine ⟨.type "str", .base (.str _), ?_⟩
    rcases h4 with rfl | rfl | rfl | rfl <;> cases e <;> exact kit_ty (by decide +kernel)
  | @tup xs a ys t l =>
    have : TyX T.K H (.ref a) (.type "tuple") := by
      rcases t with (t | ⟨o, t⟩) | ⟨o, its, n, t, c, _⟩
      · exact .base (.tup t)
      · exact .fTuple t
      · exact .kTuple t c
    refine ⟨.type "tuple", this, ?_⟩
    rcases h4 with rfl | rfl | rfl | rfl <;> cases e <;> exact kit_ty (by decide +kernel)
  | ref e0 =>
    simp only [isi2] at e
    split at e
    · rename_i g
      cases e
      obtain ⟨ys, ha, _⟩ := s.at e0 g
      refine ⟨.type "list", .base (.lst ha), ?_⟩
      rcases h4 with rfl | rfl | rfl | rfl <;> exact kit_ty (by decide +kernel)
    · cases e
include B in
theorem d_isi {ty : Nat} {tn : Str} {p2 : Pos} (hty : ty ≤ 3) (hm : X.mg "isinstance" = none) (hmt : X.mg tn = none) (hvt : bootBuiltins tn = some (.type (tyN ty))) (hgt : Gl X tn) (hg : Gl X "isinstance") (ha : PE X a (dE P ea)) (hn : tn ≠ "__name__" := by decide) (hd : (tn == ("__debug__" : Str)) = false := by decide)
    (hst : starEach [a, .Name tn p2] X.env = (false, eval a X.env) :: starEach [.Name tn p2] X.env := by rfl) (hst2 : starEach [.Name tn p2] X.env = [(false, eval (.Name tn p2) X.env)] := by rfl) (hpl : (backTo pos (starEach [.Name tn p2] X.env)).any (·.1) = false := by rfl) :
    PE X (.Call (.Name "isinstance" p) [a, .Name tn p2] [] pos) (dE P (.isi ea ty)) :=
  wkE (pe_callB call_isi hg hm (by decide +kernel) (pa_cons ha (pa_cons (pe_bltn hgt hmt hvt (v := .ty (tyN ty)) rfl hn hd) pa_nil hst2) hst) (by decide) (by decide) hst hpl) fun σ H Q ⟨ι, h, env, d, h', E, s, e, q⟩ => by
  obtain ⟨y, h2, e2, e⟩ := bd_ok e
  split at e
  · rename_i bb hb
    cases e
    refine dE.step E s e2 fun ι1 v H1 x1 s1 r1 E1 => ?_
    obtain ⟨t, ht, hk⟩ := isi_ok s1 r1 hty hb
    exact ⟨v, .ty (tyN ty), t, .type (tyN ty), bb, rfl, .ty _, B.x.hK ▸ ht, B.x.hK ▸ hk, (q.after x1).here s1 (.bl bb)⟩
  · cases e

/-! ### append, extend -/
theorem tyV_lst {K : PySem.W.Frag} {H : HpA} {a : Addr} {xs : List V} (h : H a = some (.lst xs)) : tyV K "list" (.ref a) H := Or.inl ⟨rfl, xs, .inl (.inl h)⟩
include B in
theorem d_app (ho : PE X o (dE P ea)) (ha : PE X e (dE P eb)) 
    (hbase : attributeBase o "append" X.env (eval o X.env) = eval o X.env := by rfl)
    (hfew : ((backTo pos (starEach [e] X.env)).all (fun x => !x.1) && (backToKw pos (keywordEach [] X.env)).all (fun x => x.1.isSome)
      && decide ([e].length + ([] : List Keyword).length + (if ([] : List Keyword).isEmpty then 0 else 1) < 30)) = true := by rfl)
    (hline : (apos.endLine == pos.line) = true := by rfl) (hs : starEach [e] X.env = (false, eval e X.env) :: starEach [] X.env := by rfl) (hplain : (backTo pos (starEach [] X.env)).any (·.1) = false := by rfl) :
    PE X (.Call (.Attribute o "append" apos) [e] [] pos) (dE P (.app ea eb)) :=
  wkE (pe_bm PySem.F.plainAttrs_list PySem.F.slot_list_append PySem.F.type_list_append (app_ok B.x) ho (pa_cons ha pa_nil hs) hbase hfew hline hs hplain) fun σ H Q ⟨ι, h, env, d, h', E, s, e, q⟩ => by
  obtain ⟨y, h2, e2, e⟩ := bd_ok e
  split at e
  · split at e
    · rename_i n _ xs0 g0
      obtain ⟨z, h3, e3, e⟩ := bd_ok e
      split at e
      · rename_i xs g
        obtain ⟨c, e⟩ := bif_ok e
        cases e
        refine dE.step E s e2 fun ι1 v H1 x1 s1 r1 E1 => ?_
        cases r1 with
        | ref e0 =>
          obtain ⟨ys, ha, _⟩ := s1.at e0 g0
          refine ⟨tyV_lst ha, dE.step E1 s1 e3 fun ι2 w H2 x2 s2 r2 E2 => ?_⟩
          exact ⟨ι2, h3, n, z, xs, s2, .ref (x2.io _ _ e0), .cons r2 .nil, g, by simpa [Nat.blt_eq] using c, q.after (x1.trans x2)⟩
      · cases e
    · cases e
  · cases e
include B in
theorem d_ext (ho : PE X o (dE P ea)) (ha : PE X e (dE P eb)) 
    (hbase : attributeBase o "extend" X.env (eval o X.env) = eval o X.env := by rfl)
    (hfew : ((backTo pos (starEach [e] X.env)).all (fun x => !x.1) && (backToKw pos (keywordEach [] X.env)).all (fun x => x.1.isSome)
      && decide ([e].length + ([] : List Keyword).length + (if ([] : List Keyword).isEmpty then 0 else 1) < 30)) = true := by rfl)
    (hline : (apos.endLine == pos.line) = true := by rfl) (hs : starEach [e] X.env = (false, eval e X.env) :: starEach [] X.env := by rfl) (hplain : (backTo pos (starEach [] X.env)).any (·.1) = false := by rfl) :
    PE X (.Call (.Attribute o "extend" apos) [e] [] pos) (dE P (.ext ea eb)) :=
  wkE (pe_bm PySem.F.plainAttrs_list PySem.F.slot_list_extend PySem.F.type_list_extend (ext_ok B.x) ho (pa_cons ha pa_nil hs) hbase hfew hline hs hplain) fun σ H Q ⟨ι, h, env, d, h', E, s, e, q⟩ => by
  obtain ⟨y, h2, e2, e⟩ := bd_ok e
  split at e
  · split at e
    · rename_i n _ xs0 g0
      obtain ⟨z, h3, e3, e⟩ := bd_ok e
      split at e
      · rename_i m
        split at e
        · rename_i xs ys g g2
          obtain ⟨c, e⟩ := bif_ok e
          cases e
          refine dE.step E s e2 fun ι1 v H1 x1 s1 r1 E1 => ?_
          cases r1 with
          | ref e0 =>
            obtain ⟨zs, ha, _⟩ := s1.at e0 g0
            refine ⟨tyV_lst ha, dE.step E1 s1 e3 fun ι2 w H2 x2 s2 r2 E2 => ?_⟩
            exact ⟨ι2, h3, n, m, xs, ys, s2, .ref (x2.io _ _ e0), .cons r2 .nil, g, g2, Nat.le_of_ble_eq_true c, q.after (x1.trans x2)⟩
        · cases e
      · cases e
    · cases e
  · cases e
end
end VI

set_option Elab.async false
set_option linter.all false
set_option maxRecDepth 100000
/-! VK: what loops walk. -/
namespace VI
open PySem PySem.Spec PyProof.Rows L2

/-! ### a list's iterator or a tuple's -/
def Sit (b : Bool) (h : Heap) (it a : Addr) (i : Nat) : Prop := match b with
  | false => h.IsListIter it a i
  | true => h.IsTupleIter it a i
def Sob (b : Bool) (h : Heap) (a : Addr) (its : Array Value) : Prop := match b with
  | false => h.IsList a its
  | true => h.IsTuple a its
def SqA (b : Bool) (K : PySem.W.Frag) (H : HpA) (a : Addr) (xs : List V) : Prop := match b with
  | false => SqL K H a xs
  | true => SqT K H a xs
def sitO (b : Bool) (a : Addr) : Obj := match b with
  | false => { cls := .type "list_iterator", data := .fields #[.ref a, .int 0 0] }
  | true => { cls := .type "tuple_iterator", data := .fields #[.ref a, .int 0 0] }
theorem draws_seq {prog : Program} {w : World} {A : Around} (b : Bool) (hh : A.handled = none) (it a : Addr) (ne : a ≠ it) (its : Array Value) : Draws prog w A it [it, a] its.size (fun i v => its[i]? = some v) (fun i h => Sit b h it a i ∧ Sob b h a its) := by
  cases b with
  | false => exact Draws.list hh it a ne its
  | true => exact Draws.tuple hh it a ne its
theorem begins_seq (b : Bool) (a : Addr) (its : Array Value) : Begins (.ref a) (sitO b a) fun h => Sob b h a its := by
  cases b with
  | false => exact begins_list a its
  | true => exact begins_tuple a its
theorem Sit.new {b : Bool} {h : Heap} {it a : Addr} (e : h.get? it = some (sitO b a)) : Sit b h it a 0 := by
  cases b with
  | false => exact ⟨_, e, rfl, rfl⟩
  | true => exact ⟨_, e, rfl, rfl⟩
theorem Sit.at {b : Bool} {h h' : Heap} {it a : Addr} {i : Nat} (s : Sit b h it a i) (e : ∀ o, h.get? it = some o → h'.get? it = some o) : Sit b h' it a i := by
  cases b with
  | false => exact Heap.IsListIter.at s e
  | true => exact Heap.IsTupleIter.at s e
theorem Sit.get {b : Bool} {h : Heap} {it a : Addr} {i : Nat} (s : Sit b h it a i) : ∃ o, h.get? it = some o ∧ ∀ v, o.data ≠ .cell v := by
  cases b with
  | false => obtain ⟨o, e, c, d⟩ := s; exact ⟨o, e, fun v z => by rw [d] at z; cases z⟩
  | true => obtain ⟨o, e, c, d⟩ := s; exact ⟨o, e, fun v z => by rw [d] at z; cases z⟩
section
variable {X : Cx} {pins : List (Addr × Obj)} {σ : L2.St} {H : HpA} {s : Shared}
theorem seq_inj (I : Inv X pins σ H s) {b : Bool} {a : Addr} {xs ys : List V} (h : SqA b X.K H a xs) (h' : SqA b X.K H a ys) : xs = ys := by
  cases b with
  | false => exact I.list_inj h h'
  | true => exact I.tuple_inj h h'
theorem seq_at (I : Inv X pins σ H s) {b : Bool} {a : Addr} {xs : List V} (h : SqA b X.K H a xs) : ∃ its : List Value, Vals xs its ∧ Sob b s.heap a its.toArray ∧ a < s.heap.objs.size := by
  cases b with
  | false =>
    obtain ⟨its, r, p, _⟩ := I.list h
    exact ⟨its, r, p.isList, p.lt⟩
  | true =>
    obtain ⟨its, r, p, _⟩ := I.tuple h
    obtain ⟨o, e, _⟩ := id p
    exact ⟨its, r, p, Heap.lt_size e⟩
end

/-! ### enumerate -/
def ItE (b : Bool) (K : PySem.W.Frag) (a : Addr) : It :=
  ⟨fun i H => ∃ (xs : List V) (x : V), SqA b K H a xs ∧ xs[i]? = some x, fun i H v H' => ∃ T x, v = .ref T ∧ H T = none ∧ H' = upd H T (.tup [.int (i : Nat), x]) ∧ ∀ xs, SqA b K H a xs → xs[i]? = some x, fun i H => ∃ xs : List V, SqA b K H a xs ∧ xs.length = i⟩
theorem turn_enumA {P : Program} {w : World} {K : PySem.W.Frag} {elts : List Expr} {kk : Nat} {tpos : Pos} (b : Bool) (a e it : Addr) (hai : a ≠ it) (hea : e ≠ a) (hei : e ≠ it) :
    Turn P w K (.Tuple elts kk tpos) (ItE b K a) [e, it] e (fun i h => (∃ old, IsEnum h e it ((i : Nat) : Int) old) ∧ Sit b h it a i) where
  mem := by simp
  obj := fun i h ⟨⟨old, he⟩, hs⟩ c hc => by
    have e' : c = e ∨ c = it := by simpa using hc
    rcases e' with z | z
    · rw [z]; exact ⟨_, he, fun v q => nomatch q⟩
    · rw [z]; exact hs.get
  keep := fun i h h' ⟨⟨old, he⟩, hs⟩ k => ⟨⟨old, k e (by simp) _ he⟩, hs.at fun o q => k it (by simp) o q⟩
  item := by
    intro X hP hw hK hc i pins s σ H E I hf st hg
    subst hP hw hK
    obtain ⟨⟨old, he⟩, hit⟩ := st
    obtain ⟨xs, x, hq, hx⟩ := hg
    obtain ⟨its, rv, ob, hal⟩ := seq_at I hq
    obtain ⟨u, hu, ru⟩ := rv.get hx
    have hel : e < s.heap.objs.size := Heap.lt_size he
    have hil : it < s.heap.objs.size := by obtain ⟨o, q, _⟩ := hit.get; exact Heap.lt_size q
    have hlt : i < its.toArray.size := by
      rw [List.size_toArray]
      exact (List.getElem?_eq_some_iff.mp hu).1
    refine wpAny_pyNext_enum_itemD (draws_seq (A := X.A.in1) b (I.ok.hd hc) it a hai its.toArray) he ⟨hit, ob⟩ hlt hei (by simp [hei, hea]) fun x' h' tk hP ho hs' hT hsz hk => ?_
    have hx' : x' = u := by
      rw [List.getElem?_toArray, hu] at hP
      exact (Option.some.inj hP).symm
    subst hx'
    refine ⟨_, rfl, wpAny_letOwnedTupleGo_enum (s := { s with heap := h', toks := tk + 1 }) ho fun h'' he' sb => ?_⟩
    have hT2 : h''.get? s.heap.objs.size = some { cls := .type "tuple", data := .seq #[.int i tk, x'] } := (sb.2 _ (Nat.ne_of_gt hel)).trans hT
    have new : ObjOk X.prog X.w (upd H s.heap.objs.size (.tup [.int (i : Nat), x])) h'' s.heap.objs.size (.tup [.int (i : Nat), x]) :=
      ⟨by show 2 ≤ sizeLine; decide, [.int i tk, x'], .cons ⟨_, rfl⟩ (.cons ru .nil), ⟨_, hT2, rfl, _, rfl⟩⟩
    have I1 : Inv X pins σ (upd H s.heap.objs.size (.tup [.int (i : Nat), x])) { s with heap := h'', toks := tk + 1 } :=
      I.turnedNew (ch := [e, it]) (fun c ob hb q => (sb.2 c (fun z => hb (by simp [z]))).trans (hk c ob (fun z => hb (by simp [z])) (fun z => hb (by simp [z])) q)) hf (Nat.le_refl _) new
    refine ⟨.ref s.heap.objs.size, _, I1, rfl, ⟨_, x, rfl, I.hok.fresh (Nat.le_refl _), rfl, fun ys hy => by rw [seq_inj I hy hq]; exact hx⟩, ⟨⟨x', ?_⟩, hs'.1.at fun o q => (sb.2 it (Ne.symm hei)).trans q⟩, fun c hc => ?_⟩
    · have e1 : ((i + 1 : Nat) : Int) = (i : Int) + 1 := by omega
      rw [e1]; exact he'
    · have hb' : c < s.heap.objs.size := by
        have e' : c = e ∨ c = it := by simpa using hc
        rcases e' with z | z
        · rw [z]; exact hel
        · rw [z]; exact hil
      rw [upd_ne (Nat.ne_of_lt hb')]
      exact (hf c hc).1
  done := by
    intro X hP hw hK hc i pins s σ H E I hf st hg
    subst hP hw hK
    obtain ⟨⟨old, he⟩, hit⟩ := st
    obtain ⟨xs, hq, hx⟩ := hg
    obtain ⟨its, rv, ob, hal⟩ := seq_at I hq
    obtain ⟨f0, f1, f2, f3, f4, f5⟩ := hf it (by simp)
    have hl : its.toArray.size = i := by rw [List.size_toArray, ← rv.length]; exact hx
    refine wpAny_pyNext_enum_endD (draws_seq (A := X.A.in1) b (I.ok.hd hc) it a hai its.toArray) he ⟨by rw [hl]; exact hit, ob⟩ fun h' eb => ⟨rfl, I.turned (t' := s.toks) (fun b o hb q => eb b o hb q) f0 f1 f3 f4 f5⟩
  self := fun A i s Q E ⟨⟨_, he⟩, _⟩ h => wpAny_pyIter_enum he h

set_option maxHeartbeats 1000000 in
theorem meets_enum1 {v : Value} {o : Obj} {H : Heap → Prop} (B : Begins v o H) :
    Meets (Builtin.«enumerate.__new__» ⟨[.type "enumerate", v], []⟩) (fun _ R s => H s.heap ∧
      R (.ok (.ret (.ref (s.heap.push o).objs.size))) { s with heap := (s.heap.push o).push { cls := .type "enumerate", data := .fields #[.none, .bool false, .ref s.heap.objs.size, rawInt 0, .none, .none] } }) :=
  .of_wp fun prog w A R s h => by
    obtain ⟨hp, g, d, tk, os⟩ := s; obtain ⟨h1, h⟩ := h
    have hsub := sub_enumerate
    have q1 : ∀ {A' : Around} {E : Value → Shared → Prop} {Q : Value → Shared → Prop}, Q (.ref hp.objs.size) ⟨hp.push o, g, d, tk, os⟩ → wpAny (model prog w) A' (pyIter v) Q E ⟨hp, g, d, tk, os⟩ :=
      fun q => B.iter prog w _ _ ⟨hp, g, d, tk, os⟩ _ h1 q
    wp_walk using q1
    refine wpAny_stack_any fun st => wpAny_pure ?_
    split
    · rename_i c _ _ _ _ _
      cases (c == Value.type "enumerate")
      · wp_walk using q1
        exact ⟨_, rfl, h⟩
      · wp_walk using q1
        exact ⟨_, rfl, h⟩
    · wp_walk using q1
      exact ⟨_, rfl, h⟩
theorem enum_begins1 {prog : Program} {w : World} {A : Around} {E : Value → Shared → Prop} {s : Shared} {v : Value} {o : Obj} {H : Heap → Prop} {Q : Value → Shared → Prop} (B : Begins v o H) (h1 : H s.heap)
    (h : ∀ h', IsEnum h' (s.heap.objs.size + 1) s.heap.objs.size 0 .none → h'.get? s.heap.objs.size = some o → h'.objs.size = s.heap.objs.size + 2 →
      (∀ b o, s.heap.get? b = some o → h'.get? b = some o) → Q (.ref (s.heap.objs.size + 1)) { s with heap := h' }) :
    wpAny (model prog w) A (call (.type "enumerate") [v]) Q E s := by
  refine callType_new F.called_enumerate (by decide) (F.typeCall_enumerate_1 _) (F.newCall_enumerate_1 _) (fun obj => F.args_object_init_2 obj _) F.entry_enumerate_new (meets_enum1 B) ⟨h1, ?_⟩
  have hz : (s.heap.push o).objs.size = s.heap.objs.size + 1 := Heap.size_push ..
  show _ ∧ _
  rw [hz]
  have he : IsEnum ((s.heap.push o).push { cls := .type "enumerate", data := .fields #[.none, .bool false, .ref s.heap.objs.size, rawInt 0, .none, .none] }) (s.heap.objs.size + 1) s.heap.objs.size 0 .none := by
    have := Heap.get?_push_size (s.heap.push o) (o := { cls := .type "enumerate", data := .fields #[.none, .bool false, .ref s.heap.objs.size, rawInt 0, .none, .none] }) rfl
    rw [hz] at this; exact this
  refine ⟨⟨_, he, rfl⟩, h _ he (Heap.get?_push_of_some _ (Heap.get?_push_size _ B.free)) (by rw [Heap.size_push, hz]) fun b o x => Heap.get?_push_of_some _ (Heap.get?_push_of_some _ x)⟩
def iEnumA (K : PySem.W.Frag) (ta : TA) : TI := fun σ H R => ta σ H fun vs H1 => ∃ b a xs, vs = [.ref a] ∧ SqA b K H1 a xs ∧ R (ItE b K a) H1
theorem pi_enumA {X : Cx} {e : Expr} {ta : TA} {p pos tpos : Pos} {elts : List Expr} {kk : Nat} (hg : Gl X "enumerate") (hm : X.mg "enumerate" = none) (ha : PA X [e] ta) (hs : starEach [e] X.env = [(false, eval e X.env)] := by rfl) :
    PI X (.Tuple elts kk tpos) (.Call (.Name "enumerate" p) [e] [] pos) (iEnumA X.K ta) := by
  refine ⟨fun pins s σ H R I h => ?_⟩
  refine Call_ (ld_blt I hg hm boot_enumerate (PyProof.Rows.callWith_type1 (thn (ha.run pos pins s σ H _ I h) fun us s1 ⟨vs, H1, I1, r1, q1⟩ => ?_) hs rfl))
  obtain ⟨b, a, xs, ex, hq, q⟩ := q1
  subst ex
  cases r1 with
  | cons r rr =>
    cases rr
    cases r
    obtain ⟨its, rv, ob, hal⟩ := seq_at I1 hq
    refine enum_begins1 (begins_seq b a its.toArray) ob fun h' he hit hsz hk => wpAny_pyIter_enum he ?_
    have I2 : Inv X pins σ H1 { s1 with heap := h' } := I1.kept (t' := s1.toks) hk
    refine ⟨s1.heap.objs.size + 1, [s1.heap.objs.size + 1, s1.heap.objs.size], _, _, H1, rfl, I2, turn_enumA b a (s1.heap.objs.size + 1) s1.heap.objs.size (Nat.ne_of_lt hal) (Ne.symm (Nat.ne_of_lt (Nat.lt_succ_of_lt hal))) (Nat.succ_ne_self _), ⟨⟨.none, he⟩, Sit.new hit⟩, fun c hc => ?_, q⟩
    have e' : c = s1.heap.objs.size + 1 ∨ c = s1.heap.objs.size := by simpa using hc
    have hle : s1.heap.objs.size ≤ c := by
      rcases e' with z | z
      · rw [z]; exact Nat.le_add_right _ _
      · rw [z]; exact Nat.le_refl _
    exact I1.fpOk hle (I1.hok.fresh hle)

/-! ### zip -/
def ItZ (b c : Bool) (K : PySem.W.Frag) (a d : Addr) : It :=
  ⟨fun i H => ∃ (xs ys : List V) (x y : V), SqA b K H a xs ∧ SqA c K H d ys ∧ xs[i]? = some x ∧ ys[i]? = some y,
    fun i H v H' => ∃ T x y, v = .ref T ∧ H T = none ∧ H' = upd H T (.tup [x, y]) ∧ (∀ xs, SqA b K H a xs → xs[i]? = some x) ∧ ∀ ys, SqA c K H d ys → ys[i]? = some y,
    fun i H => ∃ xs ys : List V, SqA b K H a xs ∧ SqA c K H d ys ∧ i ≤ xs.length ∧ i ≤ ys.length ∧ (i = xs.length ∨ i = ys.length)⟩
theorem turn_zipA {P : Program} {w : World} {K : PySem.W.Frag} {elts : List Expr} {kk : Nat} {tpos : Pos} (b c : Bool) (a d z TI TO i1 i2 : Addr) (S : ZipSep2 z TI TO i1 i2 [i1, a] [i2, d]) (h1 : a ≠ i1) (h2 : d ≠ i2) :
    Turn P w K (.Tuple elts kk tpos) (ItZ b c K a d) [z, TI, TO, i1, i2] z (fun i h => IsZip h z TI TO .none ∧ IsTupOf2 h TI (.ref i1) (.ref i2) ∧ (∃ x y, IsTupOf2 h TO x y) ∧ Sit b h i1 a i ∧ Sit c h i2 d i) where
  mem := by simp
  obj := fun i h st q hq => by
    obtain ⟨hz, hTI, ⟨x, y, hTO⟩, s1, s2⟩ := st
    have e' : q = z ∨ q = TI ∨ q = TO ∨ q = i1 ∨ q = i2 := by simpa using hq
    rcases e' with e | e | e | e | e <;> rw [e]
    · exact ⟨_, hz, fun v q => nomatch q⟩
    · exact ⟨_, hTI, fun v q => nomatch q⟩
    · exact ⟨_, hTO, fun v q => nomatch q⟩
    · exact s1.get
    · exact s2.get
  keep := fun i h h' st k => by
    obtain ⟨hz, hTI, ⟨x, y, hTO⟩, s1, s2⟩ := st
    exact ⟨k z (by simp) _ hz, k TI (by simp) _ hTI, ⟨x, y, k TO (by simp) _ hTO⟩, s1.at fun o q => k i1 (by simp) o q, s2.at fun o q => k i2 (by simp) o q⟩
  item := by
    intro X hP hw hK hc i pins s σ H E I hf st hg
    subst hP hw hK
    obtain ⟨hz, hTI, ⟨x0, y0, hTO⟩, t1, t2⟩ := st
    obtain ⟨xs, ys, x, y, hqx, hqy, hx, hy⟩ := hg
    obtain ⟨its, rv, ob, hal⟩ := seq_at I hqx
    obtain ⟨its2, rv2, ob2, hdl⟩ := seq_at I hqy
    obtain ⟨u, hu, ru⟩ := rv.get hx
    obtain ⟨u2, hu2, ru2⟩ := rv2.get hy
    have hzl : z < s.heap.objs.size := Heap.lt_size hz
    have l1 : i < its.toArray.size := by rw [List.size_toArray]; exact (List.getElem?_eq_some_iff.mp hu).1
    have l2 : i < its2.toArray.size := by rw [List.size_toArray]; exact (List.getElem?_eq_some_iff.mp hu2).1
    refine wpAny_pyNext_zipD2_item S (draws_seq (A := X.A.in1) b (I.ok.hd hc) i1 a h1 its.toArray) (draws_seq (A := X.A.in1) c (I.ok.hd hc) i2 d h2 its2.toArray) hz hTI hTO ⟨t1, ob⟩ ⟨t2, ob2⟩ l1 l2 fun x' y' h' tk p1 p2 z' TO' t1' t2' hT hsz hk => ?_
    have ex : x' = u := by
      rw [List.getElem?_toArray, hu] at p1
      exact (Option.some.inj p1).symm
    have ey : y' = u2 := by
      rw [List.getElem?_toArray, hu2] at p2
      exact (Option.some.inj p2).symm
    subst ex ey
    refine ⟨_, rfl, wpAny_letOwnedTupleGo_zip (s := { s with heap := h', toks := tk }) z' fun h'' z'' sb => ?_⟩
    have hT2 : h''.get? s.heap.objs.size = some { cls := .type "tuple", data := .seq #[x', y'] } := (sb.2 _ (Nat.ne_of_gt hzl)).trans hT
    have new : ObjOk X.prog X.w (upd H s.heap.objs.size (.tup [x, y])) h'' s.heap.objs.size (.tup [x, y]) :=
      ⟨by show 2 ≤ sizeLine; decide, [x', y'], .cons ru (.cons ru2 .nil), ⟨_, hT2, rfl, _, rfl⟩⟩
    have I1 : Inv X pins σ (upd H s.heap.objs.size (.tup [x, y])) { s with heap := h'', toks := tk } :=
      I.turnedNew (ch := [z, TI, TO, i1, i2]) (fun q o hb e => (sb.2 q (fun q' => hb (by simp [q']))).trans (hk q o (fun q' => hb (by simp [q'])) (fun q' => hb (by simp [q'])) (fun q' => hb (by simp [q'])) (fun q' => hb (by simp [q'])) e)) hf (Nat.le_refl _) new
    refine ⟨.ref s.heap.objs.size, _, I1, rfl, ⟨_, x, y, rfl, I.hok.fresh (Nat.le_refl _), rfl, fun l hl => by rw [seq_inj I hl hqx]; exact hx, fun l hl => by rw [seq_inj I hl hqy]; exact hy⟩, ⟨z'', ?_, ⟨x', y', ?_⟩, ?_, ?_⟩, fun q hq => ?_⟩
    · exact (sb.2 _ S.TIz).trans (hk _ _ S.TIz S.TITO S.TIi1 S.TIi2 hTI)
    · exact (sb.2 _ S.TOz).trans TO'
    · exact t1'.1.at fun o q => (sb.2 _ (Ne.symm S.zi1)).trans q
    · exact t2'.1.at fun o q => (sb.2 _ (Ne.symm S.zi2)).trans q
    · have hlt : q < s.heap.objs.size := by
        have e' : q = z ∨ q = TI ∨ q = TO ∨ q = i1 ∨ q = i2 := by simpa using hq
        rcases e' with e | e | e | e | e <;> rw [e]
        · exact hzl
        · exact Heap.lt_size hTI
        · exact Heap.lt_size hTO
        · obtain ⟨_, e1, _⟩ := t1.get; exact Heap.lt_size e1
        · obtain ⟨_, e1, _⟩ := t2.get; exact Heap.lt_size e1
      rw [upd_ne (Nat.ne_of_lt hlt)]
      exact (hf q hq).1
  done := by
    intro X hP hw hK hc i pins s σ H E I hf st hg
    subst hP hw hK
    obtain ⟨hz, hTI, ⟨x0, y0, hTO⟩, t1, t2⟩ := st
    obtain ⟨xs, ys, hqx, hqy, le1, le2, hend⟩ := hg
    obtain ⟨its, rv, ob, hal⟩ := seq_at I hqx
    obtain ⟨its2, rv2, ob2, hdl⟩ := seq_at I hqy
    have l1 : its.toArray.size = xs.length := by rw [List.size_toArray, ← rv.length]
    have l2 : its2.toArray.size = ys.length := by rw [List.size_toArray, ← rv2.length]
    exact wpAny_pyNext_zipD2_end S (draws_seq (A := X.A.in1) b (I.ok.hd hc) i1 a h1 its.toArray) (draws_seq (A := X.A.in1) c (I.ok.hd hc) i2 d h2 its2.toArray) hz hTI hTO ⟨t1, ob⟩ ⟨t2, ob2⟩ (by rw [l1]; exact le1) (by rw [l2]; exact le2) (by rw [l1, l2]; exact hend)
      fun h' tk hk => ⟨rfl, I.turnedL (t' := tk) (ch := [z, TI, TO, i1, i2]) (fun q o hb e => hk q o (fun q' => hb (by simp [q'])) (fun q' => hb (by simp [q'])) (fun q' => hb (by simp [q'])) (fun q' => hb (by simp [q'])) e) hf⟩
  self := fun A i s Q E st h => wpAny_pyIter_zip st.1 h
def iZipB (K : PySem.W.Frag) (ta : TA) : TI := fun σ H R => ta σ H fun vs H1 => ∃ b c a d xs ys, vs = [.ref a, .ref d] ∧ SqA b K H1 a xs ∧ SqA c K H1 d ys ∧ R (ItZ b c K a d) H1
theorem pi_zipB {X : Cx} {e e2 : Expr} {ta : TA} {p pos tpos : Pos} {elts : List Expr} {kk : Nat} (hg : Gl X "zip") (hm : X.mg "zip" = none) (ha : PA X [e, e2] ta)
    (hs : starEach [e, e2] X.env = (false, eval e X.env) :: starEach [e2] X.env := by rfl) (hpl : (backTo pos (starEach [e2] X.env)).any (·.1) = false := by rfl) :
    PI X (.Tuple elts kk tpos) (.Call (.Name "zip" p) [e, e2] [] pos) (iZipB X.K ta) := by
  refine ⟨fun pins s σ H R I h => ?_⟩
  refine Call_ (ld_blt I hg hm PyProof.Rows.boot_zip (PyProof.Rows.callWith_type1 (thn (ha.run pos pins s σ H _ I h) fun us s1 ⟨vs, H1, I1, r1, q1⟩ => ?_) hs hpl))
  obtain ⟨b, c, a, d, xs, ys, ex, hqx, hqy, q⟩ := q1
  subst ex
  cases r1 with
  | cons r rr =>
    cases rr with
    | cons r' rr =>
      cases rr
      cases r
      cases r'
      obtain ⟨its, rv, ob, hal⟩ := seq_at I1 hqx
      obtain ⟨its2, rv2, ob2, hdl⟩ := seq_at I1 hqy
      refine zip_begins2 (begins_seq b a its.toArray) (begins_seq c d its2.toArray) ob ob2 fun h' hz hTI hTO g1 g2 hsz hk => wpAny_pyIter_zip hz ?_
      have I2 : Inv X pins σ H1 { s1 with heap := h' } := I1.kept (t' := s1.toks) hk
      refine ⟨s1.heap.objs.size + 4, [s1.heap.objs.size + 4, s1.heap.objs.size + 2, s1.heap.objs.size + 3, s1.heap.objs.size, s1.heap.objs.size + 1], _, _, H1, rfl, I2, turn_zipA b c a d _ _ _ _ _ (zip_sep2 (N := s1.heap.objs.size) (fp1 := [a]) (fp2 := [d]) (fun q hq => by rw [List.mem_singleton.mp hq]; exact hal) (fun q hq => by rw [List.mem_singleton.mp hq]; exact hdl)) (Nat.ne_of_lt hal) (Nat.ne_of_lt (Nat.lt_succ_of_lt hdl)), ⟨hz, hTI, ⟨_, _, hTO⟩, Sit.new g1, Sit.new g2⟩, fun q hq => ?_, q⟩
      have e' : q = s1.heap.objs.size + 4 ∨ q = s1.heap.objs.size + 2 ∨ q = s1.heap.objs.size + 3 ∨ q = s1.heap.objs.size ∨ q = s1.heap.objs.size + 1 := by simpa using hq
      have hle : s1.heap.objs.size ≤ q := by
        rcases e' with z | z | z | z | z <;> rw [z]
        · exact Nat.le_add_right _ _
        · exact Nat.le_add_right _ _
        · exact Nat.le_add_right _ _
        · exact Nat.le_refl _
        · exact Nat.le_add_right _ _
      exact I1.fpOk hle (I1.hok.fresh hle)
end VI

set_option Elab.async false
set_option linter.all false
set_option maxRecDepth 100000
/-! VL: loops' iterators, comprehensions. -/
namespace VI
open PySem PySem.Spec PyProof.Rows L2

/-! ### a list or a tuple, walked -/
def ItS (b : Bool) (K : PySem.W.Frag) (a : Addr) : It := match b with
  | false => Itl K a
  | true => Itt K a
def iSeqA (K : PySem.W.Frag) (te : TE) : TI := fun σ H R => te σ H fun x H1 => ∃ b a xs, x = .ref a ∧ SqA b K H1 a xs ∧ R (ItS b K a) H1
theorem pi_seqA {X : Cx} {tg l : Expr} {tl : TE} (hl : PE X l tl) : PI X tg l (iSeqA X.K tl) := by
  refine ⟨fun pins s σ H R I h => ?_⟩
  refine thn (hl.run pins s σ H _ I h) fun v s1 ⟨x, H1, I1, r1, q1⟩ => ?_
  obtain ⟨b, a, xs, e, hq, q⟩ := q1
  subst e
  cases r1
  obtain ⟨its, rv, ob, hal⟩ := seq_at I1 hq
  have fr : ∀ c ∈ [s1.heap.objs.size], FpOk X pins H1 c := fun c hc => by
    have e : c = s1.heap.objs.size := by simpa using hc
    subst e
    exact I1.fpOk (Nat.le_refl _) (I1.hok.fresh (Nat.le_refl _))
  have I2 : ∀ o : Obj, Inv X pins σ H1 { s1 with heap := s1.heap.push o } := fun o => I1.kept (t' := s1.toks) fun b o e => Heap.get?_push_of_some _ e
  cases b with
  | false => exact wpAny_pyIter_list ob ⟨s1.heap.objs.size, [s1.heap.objs.size], _, _, H1, rfl, I2 _, turn_list a _, ⟨_, Heap.get?_push_size _ rfl, rfl, rfl⟩, fr, q⟩
  | true => exact wpAny_pyIter_tuple ob ⟨s1.heap.objs.size, [s1.heap.objs.size], _, _, H1, rfl, I2 _, turn_tuple a _, ⟨_, Heap.get?_push_size _ rfl, rfl, rfl⟩, fr, q⟩

/-! ### what an iterator of the interpreter stands for -/
def JOk (T : Tb) (ι : In) (H : HpA) (d : D) (J : It) : Prop := ∀ (ι' : In) (H' : HpA) (h : Hp) (i : Nat), Ext ι H ι' H' → SR T ι' h H' →
  (nxt d i h = some none → J.stop i H') ∧ (∀ x, nxt d i h = some (some x) → J.go i H' ∧ ∀ v H'', J.yld i H' v H'' → Ext ι' H' ι' H'' ∧ SR T ι' h H'' ∧ RelD T.K ι' H'' x v)
def dI (P : Pm) (e : E) : TI := fun σ H R => ∃ (ι : In) (h : Hp) (env : Env) (d : D) (h' : Hp), EnvR P.T.K ι H env σ ∧ SR P.T ι h H ∧ P.ev e env h = .ok d h' ∧ ∀ (ι' : In) (H' : HpA) (J : It), Ext ι H ι' H' → SR P.T ι' h' H' → JOk P.T ι' H' d J → R J H'
theorem wkI {X : Cx} {tg e : Expr} {t t' : TI} (p : PI X tg e t) (w : ∀ σ H R, t' σ H R → t σ H R) : PI X tg e t' := ⟨fun pins s σ H R I q => p.run pins s σ H R I (w σ H R q)⟩

def kd : D → Bool
  | .tup _ => true
  | _ => false
theorem SqA.mono {b : Bool} {K : PySem.W.Frag} {ι ι' : In} {H H' : HpA} {a : Addr} {xs : List V} (hb : b = true) (x : Ext ι H ι' H') (q : SqA b K H a xs) : SqA b K H' a xs := by
  subst hb
  exact x.sqT q
/-- what stands behind a walked datum -/
theorem items_at {T : Tb} {ι : In} {h : Hp} {H : HpA} (sr : SR T ι h H) {d : D} {a : Addr} {xs : List D} (r : RelD T.K ι H d (.ref a)) (e : items? d h = some xs) : ∃ ys, SqA (kd d) T.K H a ys ∧ RelL T.K ι H xs ys := by
  cases r with
  | tup t l => cases e; exact ⟨_, t, l⟩
  | ref e0 => exact sr.seq e0 e
theorem atS_ok {T : Tb} {ι : In} {h : Hp} {H : HpA} (sr : SR T ι h H) {d : D} {a : Addr} {i : Nat} {o : Option D} (r : RelD T.K ι H d (.ref a)) (e : atS d i h = some o) : ∃ xs ys, SqA (kd d) T.K H a ys ∧ RelL T.K ι H xs ys ∧ i ≤ ys.length ∧ nth xs i = o := by
  unfold atS at e
  split at e
  · rename_i xs hx
    obtain ⟨ys, q, l⟩ := items_at sr r hx
    cases c : Nat.ble i xs.length with
    | true =>
      rw [c] at e
      cases e
      exact ⟨xs, ys, q, l, by rw [← l.length]; exact Nat.le_of_ble_eq_true c, rfl⟩
    | false => rw [c] at e; cases e
  · cases e
theorem ref_of {T : Tb} {ι : In} {h : Hp} {H : HpA} {d : D} {v : V} {i : Nat} {o : Option D} (r : RelD T.K ι H d v) (e : atS d i h = some o) : ∃ a, v = .ref a := by
  cases r with
  | tup t l => exact ⟨_, rfl⟩
  | ref e0 => exact ⟨_, rfl⟩
  | _ => simp [atS, items?] at e
theorem JOk.seq {T : Tb} {ι : In} {H : HpA} {d : D} {a : Addr} (r : RelD T.K ι H d (.ref a)) : JOk T ι H (.tup [.int 0, d]) (ItS (kd d) T.K a) := by
  intro ι' H' h i x sr
  have r' := r.mono x
  refine ⟨fun e => ?_, fun y e => ?_⟩
  · obtain ⟨xs, ys, q, l, _, n⟩ := atS_ok sr r' (show atS d i h = some none from e)
    have := l.getN n
    cases hb : kd d with
    | false => rw [hb] at q; exact ⟨ys, q, this⟩
    | true => rw [hb] at q; exact ⟨ys, q, this⟩
  · obtain ⟨xs, ys, q, l, _, n⟩ := atS_ok sr r' (show atS d i h = some (some y) from e)
    obtain ⟨v, e1, r1⟩ := l.get n
    cases hb : kd d with
    | false =>
      rw [hb] at q
      refine ⟨⟨ys, v, q, e1⟩, fun w H'' yl => ?_⟩
      obtain ⟨eq, yl⟩ := yl
      subst eq
      have := yl ys q
      rw [e1] at this
      cases this
      exact ⟨.refl _ _, sr, r1⟩
    | true =>
      rw [hb] at q
      refine ⟨⟨ys, v, q, e1⟩, fun w H'' yl => ?_⟩
      obtain ⟨eq, yl⟩ := yl
      subst eq
      have := yl ys q
      rw [e1] at this
      cases this
      exact ⟨.refl _ _, sr, r1⟩
theorem JOk.rng {T : Tb} {ι : In} {H : HpA} (lo : Int) (n : Nat) : JOk T ι H (.tup [.int 1, .int lo, .int (.ofNat n)]) (Itr lo n) := by
  intro ι' H' h i x sr
  have e0 : nxt (.tup [.int 1, .int lo, .int (.ofNat n)]) i h = some (bif Nat.blt i n then some (.int (lo + i)) else none) := rfl
  rw [e0]
  refine ⟨fun e => ?_, fun y e => ?_⟩
  · cases c : Nat.blt i n with
    | true => rw [c] at e; cases e
    | false =>
      have : ¬ i < n := fun z => by
        have : Nat.blt i n = true := by simpa [Nat.blt_eq] using z
        rw [c] at this
        cases this
      show n ≤ i
      omega
  · cases c : Nat.blt i n with
    | false => rw [c] at e; cases e
    | true =>
      rw [c] at e
      cases e
      refine ⟨show i < n by simpa [Nat.blt_eq] using c, fun v H'' yl => ?_⟩
      obtain ⟨rfl, rfl⟩ := yl
      exact ⟨.refl _ _, sr, .int _⟩
theorem JOk.enum {T : Tb} {ι : In} {H : HpA} {d : D} {a : Addr} (r : RelD T.K ι H d (.ref a)) : JOk T ι H (.tup [.int 2, d]) (ItE (kd d) T.K a) := by
  intro ι' H' h i x sr
  have r' := r.mono x
  refine ⟨fun e => ?_, fun y e => ?_⟩
  · have e : (match atS d i h with | some (some x) => some (some (.tup [.int i, x])) | r => r) = some none := e
    split at e
    · cases e
    · obtain ⟨xs, ys, q, l, le, n⟩ := atS_ok sr r' e
      have := l.getN n
      exact ⟨ys, q, Nat.le_antisymm this le⟩
  · have e : (match atS d i h with | some (some x) => some (some (.tup [.int i, x])) | r => r) = some (some y) := e
    split at e
    · rename_i z hz
      cases e
      obtain ⟨xs, ys, q, l, le, n⟩ := atS_ok sr r' hz
      obtain ⟨v, e1, r1⟩ := l.get n
      refine ⟨⟨ys, v, q, e1⟩, fun w H'' yl => ?_⟩
      obtain ⟨T, v', rfl, hn, rfl, yl⟩ := yl
      have := yl ys q
      rw [e1] at this
      cases this
      exact ⟨.new hn, sr.new hn, .tup (.inl (.inl upd_same)) (.cons (.int _) (.cons (r1.mono (.new hn)) .nil))⟩
    · rename_i h0
      exact absurd e (h0 y)
theorem JOk.zip {T : Tb} {ι : In} {H : HpA} {d1 d2 : D} {a b : Addr} (r1 : RelD T.K ι H d1 (.ref a)) (r2 : RelD T.K ι H d2 (.ref b)) : JOk T ι H (.tup [.int 3, d1, d2]) (ItZ (kd d1) (kd d2) T.K a b) := by
  intro ι' H' h i x sr
  have r1' := r1.mono x
  have r2' := r2.mono x
  refine ⟨fun e => ?_, fun y e => ?_⟩
  · have e : (match atS d1 i h, atS d2 i h with | some (some x), some (some y) => some (some (D.tup [x, y])) | some none, some _ => some none | some _, some none => some none | _, _ => none) = some none := e
    split at e
    · cases e
    · rename_i o2 h1 h2
      obtain ⟨xs, ys, q, l, le, n⟩ := atS_ok sr r1' h1
      obtain ⟨xs2, ys2, q2, l2, le2, n2⟩ := atS_ok sr r2' h2
      exact ⟨ys, ys2, q, q2, le, le2, .inl (Nat.le_antisymm le (l.getN n))⟩
    · rename_i h1 h2
      obtain ⟨xs, ys, q, l, le, n⟩ := atS_ok sr r1' h1
      obtain ⟨xs2, ys2, q2, l2, le2, n2⟩ := atS_ok sr r2' h2
      exact ⟨ys, ys2, q, q2, le, le2, .inr (Nat.le_antisymm le2 (l2.getN n2))⟩
    · cases e
  · have e : (match atS d1 i h, atS d2 i h with | some (some x), some (some y) => some (some (D.tup [x, y])) | some none, some _ => some none | some _, some none => some none | _, _ => none) = some (some y) := e
    split at e
    · rename_i z1 z2 h1 h2
      cases e
      obtain ⟨xs, ys, q, l, le, n⟩ := atS_ok sr r1' h1
      obtain ⟨xs2, ys2, q2, l2, le2, n2⟩ := atS_ok sr r2' h2
      obtain ⟨v, e1, rv⟩ := l.get n
      obtain ⟨v2, e2, rv2⟩ := l2.get n2
      refine ⟨⟨ys, ys2, v, v2, q, q2, e1, e2⟩, fun w H'' yl => ?_⟩
      obtain ⟨T, v', w', rfl, hn, rfl, yl1, yl2⟩ := yl
      have t1 := yl1 ys q
      have t2 := yl2 ys2 q2
      rw [e1] at t1
      rw [e2] at t2
      cases t1
      cases t2
      exact ⟨.new hn, sr.new hn, .tup (.inl (.inl upd_same)) (.cons (rv.mono (.new hn)) (.cons (rv2.mono (.new hn)) .nil))⟩
    · cases e
    · cases e
    · cases e

section
variable {X : Cx} {P : Pm} {F : Fs} {k : Nat} (B : BOk X P F k) {a b : Expr} {ea eb er : E} {tg : Expr} {pos p tpos : Pos} {elts : List Expr} {kk : Nat}
include B
theorem i_seq (ha : PE X a (dE P ea)) : PI X tg a (dI P (.iseq ea)) := wkI (pi_seqA ha) fun σ H R ⟨ι, h, env, d, h', E, s, e, f⟩ => by
  obtain ⟨x, h1, e1, e⟩ := bd_ok e
  split at e
  · rename_i o ho
    cases e
    refine dE.step E s e1 fun ι1 v H1 x1 s1 r1 E1 => ?_
    obtain ⟨a, rfl⟩ := ref_of r1 ho
    obtain ⟨xs, ys, q, l, _⟩ := atS_ok s1 r1 ho
    refine ⟨kd x, a, ys, rfl, B.x.hK ▸ q, f ι1 H1 _ x1 s1 ?_⟩
    rw [B.x.hK]
    exact JOk.seq r1
  · cases e
theorem i_enum (hm : X.mg "enumerate" = none) (hg : Gl X "enumerate") (ha : PE X a (dE P ea)) (hs : starEach [a] X.env = [(false, eval a X.env)] := by rfl) : PI X (.Tuple elts kk tpos) (.Call (.Name "enumerate" p) [a] [] pos) (dI P (.ienum ea)) := wkI (pi_enumA hg hm (pa_cons ha pa_nil hs) hs) fun σ H R ⟨ι, h, env, d, h', E, s, e, f⟩ => by
  obtain ⟨x, h1, e1, e⟩ := bd_ok e
  split at e
  · rename_i o ho
    cases e
    refine dE.step E s e1 fun ι1 v H1 x1 s1 r1 E1 => ?_
    obtain ⟨a, rfl⟩ := ref_of r1 ho
    obtain ⟨xs, ys, q, l, _⟩ := atS_ok s1 r1 ho
    refine ⟨kd x, a, ys, rfl, B.x.hK ▸ q, f ι1 H1 _ x1 s1 ?_⟩
    rw [B.x.hK]
    exact JOk.enum r1
  · cases e
theorem i_zip (hm : X.mg "zip" = none) (hg : Gl X "zip") (ha : PE X a (dE P ea)) (hb : PE X b (dE P eb)) (hs : starEach [a, b] X.env = (false, eval a X.env) :: starEach [b] X.env := by rfl) (hs2 : starEach [b] X.env = (false, eval b X.env) :: starEach [] X.env := by rfl) (hpl : (backTo pos (starEach [b] X.env)).any (·.1) = false := by rfl) :
    PI X (.Tuple elts kk tpos) (.Call (.Name "zip" p) [a, b] [] pos) (dI P (.izip ea eb)) := wkI (pi_zipB hg hm (pa_cons ha (pa_cons hb pa_nil hs2) hs) hs hpl) fun σ H R ⟨ι, h, env, d, h', E, s, e, f⟩ => by
  obtain ⟨x, h1, e1, e⟩ := bd_ok e
  obtain ⟨y, h2, e2, e⟩ := bd_ok e
  split at e
  · rename_i o1 o2 ho1 ho2
    cases e
    refine dE.step E s e1 fun ι1 v H1 x1 s1 r1 E1 => dE.step E1 s1 e2 fun ι2 w H2 x2 s2 r2 E2 => ?_
    have r1' := r1.mono x2
    obtain ⟨a, rfl⟩ := ref_of r1' ho1
    obtain ⟨b, rfl⟩ := ref_of r2 ho2
    obtain ⟨xs, ys, q, l, _⟩ := atS_ok s2 r1' ho1
    obtain ⟨xs2, ys2, q2, l2, _⟩ := atS_ok s2 r2 ho2
    refine ⟨kd x, kd y, a, b, ys, ys2, rfl, B.x.hK ▸ q, B.x.hK ▸ q2, f ι2 H2 _ (x1.trans x2) s2 ?_⟩
    rw [B.x.hK]
    exact JOk.zip r1' r2
  · cases e
omit B
theorem small_ok {i : Int} (h : small i = true) : -(2 ^ 62) ≤ i ∧ i < 2 ^ 62 := by
  unfold small at h
  rw [Bool.and_eq_true] at h
  obtain ⟨h1, h2⟩ := h
  have h1 := of_decide_eq_true h1
  have h2 := of_decide_eq_true h2
  constructor
  · omega
  · omega
theorem i_rng1 (hm : X.mg "range" = none) (hg : Gl X "range") (ha : PE X a (dE P ea)) (hs : starEach [a] X.env = [(false, eval a X.env)] := by rfl) : PI X tg (.Call (.Name "range" p) [a] [] pos) (dI P (.irng (.cons ea .nil))) := by
  refine wkI (pi_range1 hg hm (pa_cons ha pa_nil hs) hs) fun σ H R ⟨ι, h, env, d, h', E, s, e, f⟩ => ?_
  obtain ⟨x, h1, e1, e⟩ := bd_ok e
  obtain ⟨y, h2, e2, e1⟩ := bd_ok e1
  cases e1
  refine dE.step E s e2 fun ι1 v H1 x1 s1 r1 E1 => ?_
  cases r1 with
  | int j =>
    obtain ⟨e0, e3⟩ := ofO_ok e
    subst e3
    simp only [rng?] at e0
    cases c : small j with
    | false => rw [c] at e0; cases e0
    | true =>
      rw [c] at e0
      cases e0
      obtain ⟨c1, c2⟩ := small_ok c
      exact ⟨j, rfl, c1, c2, f ι1 H1 _ x1 s1 (JOk.rng 0 j.toNat)⟩
  | _ => simp [rng?, ofO] at e
theorem i_rng2 (hm : X.mg "range" = none) (hg : Gl X "range") (ha : PE X a (dE P ea)) (hb : PE X b (dE P eb)) (hs : starEach [a, b] X.env = [(false, eval a X.env), (false, eval b X.env)] := by rfl) (hs2 : starEach [b] X.env = [(false, eval b X.env)] := by rfl) : PI X tg (.Call (.Name "range" p) [a, b] [] pos) (dI P (.irng (.cons ea (.cons eb .nil)))) := by
  refine wkI (pi_range2 hg hm (pa_cons ha (pa_cons hb pa_nil hs2) (by rw [hs, hs2])) hs hs2) fun σ H R ⟨ι, h, env, d, h', E, s, e, f⟩ => ?_
  obtain ⟨x, h1, e1, e⟩ := bd_ok e
  obtain ⟨y, h2, e2, e1⟩ := bd_ok e1
  obtain ⟨y2, h3, e3, e1⟩ := bd_ok e1
  obtain ⟨y3, h4, e4, e3⟩ := bd_ok e3
  cases e3
  cases e1
  refine dE.step E s e2 fun ι1 v H1 x1 s1 r1 E1 => dE.step E1 s1 e4 fun ι2 w H2 x2 s2 r2 E2 => ?_
  cases r1 with
  | int i =>
    cases r2 with
    | int j =>
      obtain ⟨e0, e3⟩ := ofO_ok e
      subst e3
      simp only [rng?] at e0
      cases c : small i && small j with
      | false => rw [c] at e0; cases e0
      | true =>
        rw [c] at e0
        cases e0
        rw [Bool.and_eq_true] at c
        obtain ⟨c1, c2⟩ := small_ok c.1
        obtain ⟨c3, c4⟩ := small_ok c.2
        exact ⟨i, j, rfl, ⟨c1, c2, c3, c4⟩, f ι2 H2 _ (x1.trans x2) s2 (JOk.rng i (j - i).toNat)⟩
    | _ => simp [rng?, ofO] at e
  | _ => simp [rng?, ofO] at e
end

/-! ### targets -/
mutual
def tgs : TG → List Nat
  | .nm i => [i]
  | .tp _ ts => tgsL ts
  | _ => []
def tgsL : TG → List Nat
  | .cons t ts => tgs t ++ tgsL ts
  | _ => []
end
/-- but for the names is, σ' is as σ -/
def Fr (is : List Nat) (σ σ' : L2.St) : Prop := ∀ vs : List Nat, (∀ i ∈ is, i ∈ vs) → wipe σ' vs = wipe σ vs
theorem Fr.refl (is : List Nat) (σ : L2.St) : Fr is σ σ := fun _ _ => rfl
theorem wipe_set {σ : L2.St} {i : Nat} {o : Option V} : ∀ {vs : List Nat}, i ∈ vs → wipe (σ.set i o) vs = wipe σ vs
  | v :: vs, h => by
    show (wipe (σ.set i o) vs).set v none = (wipe σ vs).set v none
    by_cases hi : i ∈ vs
    · rw [wipe_set hi]
    · have e : i = v := by
        rcases List.mem_cons.mp h with e | e
        · exact e
        · exact absurd e hi
      subst e
      have go : ∀ vs : List Nat, i ∉ vs → wipe (σ.set i o) vs = (wipe σ vs).set i o := by
        intro vs
        induction vs with
        | nil => intro _; rfl
        | cons w vs ih =>
          intro hn
          show (wipe (σ.set i o) vs).set w none = ((wipe σ vs).set w none).set i o
          rw [ih (fun z => hn (List.mem_cons_of_mem _ z)), List.set_comm]
          exact fun z => hn (z ▸ List.mem_cons_self ..)
      rw [go vs hi, List.set_set]
theorem Fr.set (i : Nat) (σ : L2.St) (o : Option V) : Fr [i] σ (σ.set i o) := fun vs h => wipe_set (h i (List.mem_cons_self ..))
theorem Fr.trans {a b : List Nat} {σ σ1 σ2 : L2.St} (x : Fr a σ σ1) (y : Fr b σ1 σ2) : Fr (a ++ b) σ σ2 := fun vs h => (y vs fun i hi => h i (List.mem_append_right _ hi)).trans (x vs fun i hi => h i (List.mem_append_left _ hi))
def dG (P : Pm) (t : TG) : L2.TG := fun v σ H Q => ∃ (ι : In) (h : Hp) (env : Env) (d : D) (env' : Env), EnvR P.T.K ι H env σ ∧ SR P.T ι h H ∧ RelD P.T.K ι H d v ∧ asg t d env = some env' ∧ ∀ σ', EnvR P.T.K ι H env' σ' → Fr (tgs t) σ σ' → Q σ' H
def dGs (P : Pm) (t : TG) : L2.TGs := fun vs σ H Q => ∃ (ι : In) (h : Hp) (env : Env) (ds : List D) (env' : Env), EnvR P.T.K ι H env σ ∧ SR P.T ι h H ∧ RelL P.T.K ι H ds vs ∧ asgL t ds env = some env' ∧ ∀ σ', EnvR P.T.K ι H env' σ' → Fr (tgsL t) σ σ' → Q σ' H
theorem wkG {X : Cx} {e : Expr} {t t' : L2.TG} (p : PG X e t) (w : ∀ v σ H Q, t' v σ H Q → t v σ H Q) : PG X e t' := ⟨fun pins s σ H v u Q I r q => p.run pins s σ H v u Q I r (w v σ H Q q)⟩
theorem wkGs {X : Cx} {e : List Expr} {t t' : L2.TGs} (p : PGs X e t) (w : ∀ v σ H Q, t' v σ H Q → t v σ H Q) : PGs X e t' := ⟨fun pins s σ H v u Q I r q => p.run pins s σ H v u Q I r (w v σ H Q q)⟩
section
variable {X : Cx} {P : Pm} {F : Fs} {k : Nat} (B : BOk X P F k) {e : Expr} {es : List Expr} {t ts : TG} {pos : Pos}
theorem g_name {i : Nat} {x : Str} (hN : X.N.Nodup) (hi : X.N[i]? = some x) (hx : Loc X.env.scope x) (hf : X.fn x = true ∨ X.env.scope.names.lookup x = some .local := by first | exact .inl rfl | exact .inr rfl | assumption) : PG X (.Name x pos) (dG P (.nm i)) := wkG (pg_name hN hi hx hf) fun v σ H Q ⟨ι, h, env, d, env', E, s, r, e, f⟩ => by
  cases e
  exact f _ (E.set r i) (Fr.set i σ _)
theorem gs_nil : PGs X [] (dGs P .nil) := wkGs pgs_nil fun v σ H Q ⟨ι, h, env, d, env', E, s, r, e, f⟩ => by
  cases r with
  | nil => cases e; exact ⟨rfl, f σ E (Fr.refl _ σ)⟩
  | cons _ _ => cases e
theorem gs_cons (h1 : PG X e (dG P t)) (h2 : PGs X es (dGs P ts)) (hs : (assignEach (e :: es) X.env).map (·.2) = assign e X.env :: (assignEach es X.env).map (·.2) := by rfl) : PGs X (e :: es) (dGs P (.cons t ts)) := wkGs (pgs_cons h1 h2 hs) fun v σ H Q ⟨ι, h, env, d, env', E, s, r, e, f⟩ => by
  cases r with
  | nil => cases e
  | cons r rr =>
    simp only [asgL] at e
    split at e
    · rename_i env1 he
      exact ⟨_, _, rfl, ι, h, env, _, env1, E, s, r, he, fun σ1 E1 F1 => ⟨ι, h, env1, _, env', E1, s, rr, e, fun σ2 E2 F2 => f σ2 E2 (F1.trans F2)⟩⟩
    · cases e
include B in
theorem g_tup {n kk : Nat} (h : PGs X es (dGs P ts)) (hn : (assignEach es X.env).length = n := by rfl) (hst : (assignEach es X.env).findIdx? (·.1) = none := by rfl) : PG X (.Tuple es kk pos) (dG P (.tp n ts)) := wkG (pg_tup B.x.hc h hn hst) fun v σ H Q ⟨ι, h, env, d, env', E, s, r, e, f⟩ => by
  cases r with
  | @tup xs a ys t l =>
    simp only [asg] at e
    cases c : xs.length == n with
    | false => rw [c] at e; cases e
    | true =>
      rw [c] at e
      exact ⟨a, ys, rfl, B.x.hK ▸ t, by rw [← l.length]; exact beq_iff_eq.mp c, ι, h, env, xs, env', E, s, l, e, f⟩
  | _ => cases e
end
end VI

set_option Elab.async false
set_option linter.all false
set_option maxRecDepth 100000
/-! VM: comprehensions, statements. -/
namespace VI
open PySem PySem.Spec PyProof.Rows L2

theorem BOk.blk {X : Cx} {P : Pm} {F : Fs} {k : Nat} (B : BOk X P F k) (s : Shared) (H : HpA) (scope : Scope) (cenv : PySem.Env) (fp : List Addr) : BOk (X.blk s H scope cenv fp) P F k :=
  ⟨⟨B.x.hK, B.x.hu, B.x.hc⟩, B.t, B.m, B.rm, B.bnd, B.kp, B.cal, B.ini, B.lenC, B.lenI⟩

section
variable {X : Cx} {P : Pm} {F : Fs} {k : Nat} (B : BOk X P F k)
theorem ts_nil : PTs X [] (dT P (.cst (.bl true))) := ⟨fun pins s σ H Q I ⟨ι, h, env, d, h', b, E, s1, e, t, f⟩ => by
  cases e
  cases t
  exact pts_nil.run pins s σ H Q I (f ι H (.refl _ _) s1)⟩
theorem ts_one {c : Expr} {ec : E} (h : PT X c (dT P ec)) : PTs X [c] (dT P ec) := pts_one h

/-- what a comprehension's reading asks, from the interpreter's turns -/
theorem comp_read (B : BOk X P F k) {it : E} {t : TG} {c e : E} {vs : List Nat} (htg : ∀ i ∈ tgs t, i ∈ vs) {σ : L2.St} {H : HpA} {Q : VK} (q : dE P (.comp vs it t c e) σ H Q) :
    tLc (dI P it) (dG P t) (dT P c) (dE P e) vs σ H Q := by
  obtain ⟨ι, h, env, d, h', E, s, ev0, f⟩ := q
  obtain ⟨i0, h1, e1, ev0⟩ := bd_ok ev0
  obtain ⟨u, h2, e2, ev0⟩ := bd_ok ev0
  cases ev0
  refine ⟨ι, h, env, i0, h1, E, s, e1, fun ι1 H1 J x1 s1 j => ?_⟩
  intro D hD
  have x2 : Ext ι1 H1 (upI ι1 h1.next D) (upd H1 D (.lst [])) := Ext.push s1 hD
  have s2 : SR P.T (upI ι1 h1.next D) (h1.push (.lst [])) (upd H1 D (.lst [])) := s1.push (o := .lst []) hD ⟨[], upd_same, .nil⟩
  have nD : upI ι1 h1.next D h1.next = some D := by simp [upI]
  refine ⟨fun i m H => ∃ (ι3 : In) (h3 : Hp), Ext (upI ι1 h1.next D) (upd H1 D (.lst [])) ι3 H ∧ SR P.T ι3 h3 H ∧ compGo i0 h1.next (fun x h2 => match asg t x (wipeL env vs) with
      | none => .bad
      | some σ' => (P.ev c σ' h2).bd fun b h3 => match b with
        | .bl true => (P.ev e σ' h3).bd fun y h4 => .ok (some y) h4
        | .bl false => .ok none h3
        | _ => .bad) m i h3 = .ok u h', ⟨P.lf, _, _, .refl _ _, s2, e2⟩, ?_⟩
  rintro i m H ⟨ι3, h3, x3, s3, go⟩
  cases m with
  | zero => cases go
  | succ m =>
    simp only [compGo] at go
    have jj := j ι3 H h3 i (x2.trans x3) s3
    split at go
    · cases go
    · rename_i hn
      cases go
      exact .inl ⟨jj.1 hn, f ι3 (.ref D) H (x1.trans (x2.trans x3)) s3 (.ref (x3.io _ _ nD))⟩
    · rename_i x hn
      obtain ⟨jg, jy⟩ := jj.2 x hn
      refine .inr ⟨jg, fun H' => ∃ m', m' < m + 1 ∧ ∃ (ι3 : In) (h3 : Hp), Ext (upI ι1 h1.next D) (upd H1 D (.lst [])) ι3 H' ∧ SR P.T ι3 h3 H' ∧ _, fun H' z => z, fun v H' yl => ?_⟩
      obtain ⟨x4, s4, rv⟩ := jy v H' yl
      obtain ⟨o, h5, ev5, go⟩ := bd_ok go
      split at ev5
      · cases ev5
      · rename_i env1 ha
        have Ew : EnvR P.T.K ι3 H' (wipeL env vs) (wipe σ vs) := (E.wipe vs).mono (x1.trans (x2.trans (x3.trans x4)))
        refine ⟨ι3, h3, _, x, env1, Ew, s4, rv, ha, fun σ2 E2 fr => ⟨?_, ?_⟩⟩
        · have := fr vs htg
          rw [this]
          have go2 : ∀ ws : List Nat, (∀ w ∈ ws, w ∈ vs) → wipe (wipe σ vs) ws = wipe σ vs := by
            intro ws
            induction ws with
            | nil => intro _; rfl
            | cons w ws ih =>
              intro hw
              show (wipe (wipe σ vs) ws).set w none = wipe σ vs
              rw [ih fun z hz => hw z (List.mem_cons_of_mem _ hz)]
              have hm := hw w (List.mem_cons_self ..)
              have : ∀ l : List Nat, w ∈ l → (wipe σ l).set w none = wipe σ l := by
                intro l
                induction l with
                | nil => intro h; cases h
                | cons a l ih2 =>
                  intro h
                  show ((wipe σ l).set a none).set w none = (wipe σ l).set a none
                  by_cases e : w = a
                  · subst e; rw [List.set_set]
                  · rw [List.set_comm _ _ (Ne.symm e), ih2 (by rcases List.mem_cons.mp h with z | z; exact absurd z e; exact z)]
              exact this vs hm
          exact go2 vs fun _ z => z
        · obtain ⟨b, h6, e6, ev5⟩ := bd_ok ev5
          split at ev5
          · obtain ⟨y, h7, e7, ev5⟩ := bd_ok ev5
            cases ev5
            refine dT.step E2 s4 e6 rfl fun ι6 H6 x6 s6 E6 => iteT (dE.step E6 s6 e7 fun ι7 w H7 x7 s7 r7 E7 => ?_)
            simp only at go
            split at go
            · rename_i acc g
              obtain ⟨cl, go⟩ := bif_ok go
              have xx : Ext (upI ι1 h1.next D) (upd H1 D (.lst [])) ι7 H7 := x3.trans (x4.trans (x6.trans x7))
              have n7 := xx.io _ _ nD
              obtain ⟨ys, hD7, rl⟩ := s7.at n7 g
              have y8 : Ext ι7 H7 ι7 (upd H7 D (.lst (ys ++ [w]))) := Ext.write s7 n7 g (fun xs z => by cases z)
              refine ⟨ys, hD7, ?_, m, Nat.lt_succ_self m, ι7, _, xx.trans y8, s7.write (o' := .lst (acc ++ [y])) n7 g (fun xs z => by cases z) ⟨_, upd_same, (rl.append (.cons r7 .nil)).mono y8⟩, go⟩
              rw [← rl.length, ← line_eq]
              simpa [Nat.blt_eq] using cl
            · cases go
          · cases ev5
            refine dT.step E2 s4 e6 rfl fun ι6 H6 x6 s6 E6 => iteF ?_
            exact ⟨m, Nat.lt_succ_self m, ι6, _, x3.trans (x4.trans x6), s6, go⟩
          · cases ev5
include B in
theorem d_comp {elt tg iter : Expr} {ifs : List Expr} {scope : Scope} {own : List (Str × Nat)} {pos : Pos} {it c e : E} {t : TG} {vs : List Nat} (hvs : own.map (·.2) = vs) (htg : ∀ i ∈ tgs t, i ∈ vs) (hN : X.N.Nodup) (hi : PI X tg iter (dI P it)) (ok : BlkOk X.N X.env.scope scope own)
    (hg : ∀ (s : Shared) (H : HpA) (C : Addr) (cl : List (Str × Addr)) (fp : List Addr), PG (X.blk s H scope (compEnvC scope cl C X.env) fp) tg (dG P t))
    (ht : ∀ (s : Shared) (H : HpA) (C : Addr) (cl : List (Str × Addr)) (fp : List Addr), PTs (X.blk s H scope (compEnvC scope cl C X.env) fp) ifs (dT P c))
    (he : ∀ (s : Shared) (H : HpA) (C : Addr) (cl : List (Str × Addr)) (fp : List Addr), PE (X.blk s H scope (compEnvC scope cl C X.env) fp) elt (dE P e)) (hs : ∀ x, foldedSetIterable iter X.env x = pure x := by intro _; rfl) :
    PE X (.ListComp elt [⟨tg, iter, ifs, 0⟩] scope pos) (dE P (.comp vs it t c e)) := by
  subst hvs
  exact wkE (pe_lc B.x.hc hN hi ok hg ht he hs) fun σ H Q q => comp_read B htg q
end

/-! ### statements -/
theorem fldR_len {K : PySem.W.Frag} {an : Nat → Str} {ι : In} {H : HpA} {fs : List (Nat × D)} {gs : List (Str × V)} (r : FldR K an ι H fs gs) : gs.length = fs.length := by
  induction r with
  | nil => rfl
  | cons _ _ ih => exact congrArg Nat.succ ih
def FinS (T : Tb) (ι : In) (H : HpA) (fl : Fl) (h : Hp) (D : Ends) : Prop := ∀ (ι' : In) (H' : HpA), Ext ι H ι' H' → SR T ι' h H' → match fl with
  | .nx env => ∀ σ, EnvR T.K ι' H' env σ → D.nx σ H'
  | .rt d => ∀ v, RelD T.K ι' H' d v → D.rt v H'
  | .bk env => ∀ σ, EnvR T.K ι' H' env σ → D.bk σ H'
  | .ct env => ∀ σ, EnvR T.K ι' H' env σ → D.ct σ H'
theorem FinS.after {T : Tb} {ι ι1 : In} {H H1 : HpA} {fl : Fl} {h : Hp} {D : Ends} (k : FinS T ι H fl h D) (x : Ext ι H ι1 H1) : FinS T ι1 H1 fl h D := fun ι' H' e s => k ι' H' (x.trans e) s
abbrev Pm.ex (P : Pm) (s : S) (env : Env) (h : Hp) : R Fl := VI.ex P.T.g P.cf P.ci P.lf s env h
def dS (P : Pm) (s : S) : TS := fun D σ H => ∃ (ι : In) (h : Hp) (env : Env) (fl : Fl) (h' : Hp), EnvR P.T.K ι H env σ ∧ SR P.T ι h H ∧ P.ex s env h = .ok fl h' ∧ FinS P.T ι H fl h' D
theorem wkS {X : Cx} {e : Stmt} {t t' : TS} (p : PS X e t) (w : ∀ D σ H, t' D σ H → t D σ H) : PS X e t' := ⟨fun pins s σ H D I q => p.run pins s σ H D I (w D σ H q)⟩
theorem wkSs {X : Cx} {e : List Stmt} {t t' : TS} (p : PSs X e t) (w : ∀ D σ H, t' D σ H → t D σ H) : PSs X e t' := ⟨fun pins s σ H D I q => p.run pins s σ H D I (w D σ H q)⟩
section
variable {X : Cx} {P : Pm} {F : Fs} {k : Nat} (B : BOk X P F k) {e a b c : Expr} {ea eb ec : E} {st : Stmt} {sts sts2 : List Stmt} {s r : S} {pos : Pos}
theorem ss_nil : PSs X [] (dS P .nil) := wkSs pss_nil fun D σ H ⟨ι, h, env, fl, h', E, s, e, f⟩ => by
  cases e
  exact f ι H (.refl _ _) s σ E
theorem ss_cons (h1 : PS X st (dS P s)) (h2 : PSs X sts (dS P r)) : PSs X (st :: sts) (dS P (.seq s r)) := wkSs (pss_cons h1 h2) fun D σ H ⟨ι, h, env, fl, h', E, s, e, f⟩ => by
  obtain ⟨f1, h1, e1, e⟩ := bd_ok e
  refine ⟨ι, h, env, f1, h1, E, s, e1, fun ι1 H1 x1 s1 => ?_⟩
  cases f1 with
  | nx env1 => exact fun σ1 E1 => ⟨ι1, h1, env1, fl, h', E1, s1, e, f.after x1⟩
  | rt d => cases e; exact f ι1 H1 x1 s1
  | bk env1 => cases e; exact f ι1 H1 x1 s1
  | ct env1 => cases e; exact f ι1 H1 x1 s1
theorem s_pass : PS X (.Pass pos) (dS P .pas) := wkS ps_pass fun D σ H ⟨ι, h, env, fl, h', E, s, e, f⟩ => by
  cases e
  exact f ι H (.refl _ _) s σ E
theorem s_brk : PS X (.Break pos) (dS P .brk) := wkS ps_break fun D σ H ⟨ι, h, env, fl, h', E, s, e, f⟩ => by
  cases e
  exact f ι H (.refl _ _) s σ E
theorem s_cnt : PS X (.Continue pos) (dS P .cnt) := wkS ps_continue fun D σ H ⟨ι, h, env, fl, h', E, s, e, f⟩ => by
  cases e
  exact f ι H (.refl _ _) s σ E
theorem s_nev : PS X st (dS P .nev) := ⟨fun _ _ _ _ _ _ ⟨ι, h, env, fl, h', E, s, e, f⟩ => by cases e⟩
theorem s_set {i : Nat} {x : Str} {pos' : Pos} (hN : X.N.Nodup) (hi : X.N[i]? = some x) (hx : Loc X.env.scope x) (he : PE X e (dE P ea)) (hs : swapsWith e (some (.Name x pos')) pos.line X.env = pure false := by rfl) (hf : X.fn x = true ∨ X.env.scope.names.lookup x = some .local := by first | exact .inl rfl | exact .inr rfl | assumption) :
    PS X (.Assign [.Name x pos'] e pos) (dS P (.set i ea)) := wkS (ps_set hN hi hx he hs hf) fun D σ H ⟨ι, h, env, fl, h', E, s, e, f⟩ => by
  obtain ⟨d, h1, e1, e⟩ := bd_ok e
  cases e
  exact dE.step E s e1 fun ι1 v H1 x1 s1 r1 E1 => f ι1 H1 x1 s1 _ (E1.set r1 i)
theorem s_exp (he : PE X e (dE P ea)) (hs : swapsWith e none pos.line X.env = pure false := by rfl) : PS X (.Expr e pos) (dS P (.exp ea)) := wkS (ps_expr he hs) fun D σ H ⟨ι, h, env, fl, h', E, s, e, f⟩ => by
  obtain ⟨d, h1, e1, e⟩ := bd_ok e
  cases e
  exact dE.step E s e1 fun ι1 v H1 x1 s1 r1 E1 => f ι1 H1 x1 s1 _ E1
theorem s_ret (he : PE X e (dE P ea)) : PS X (.Return (some e) pos) (dS P (.ret ea)) := wkS (ps_ret he) fun D σ H ⟨ι, h, env, fl, h', E, s, e, f⟩ => by
  obtain ⟨d, h1, e1, e⟩ := bd_ok e
  cases e
  exact dE.step E s e1 fun ι1 v H1 x1 s1 r1 E1 => f ι1 H1 x1 s1 _ r1
theorem s_retN : PS X (.Return none pos) (dS P .retn) := wkS ps_retN fun D σ H ⟨ι, h, env, fl, h', E, s, e, f⟩ => by
  cases e
  exact f ι H (.refl _ _) s _ .non
theorem s_if (hc : PT X c (dT P ec)) (ha : PSs X sts (dS P s)) (hb : PSs X sts2 (dS P r)) : PS X (.If c sts sts2 pos) (dS P (.ifs ec s r)) := wkS (ps_if hc ha hb) fun D σ H ⟨ι, h, env, fl, h', E, s, e, f⟩ => by
  obtain ⟨d, h1, e1, e⟩ := bd_ok e
  split at e
  · rename_i t; exact dT.step E s e1 t fun ι1 H1 x1 s1 E1 => iteT ⟨ι1, h1, env, fl, h', E1, s1, e, f.after x1⟩
  · rename_i t; exact dT.step E s e1 t fun ι1 H1 x1 s1 E1 => iteF ⟨ι1, h1, env, fl, h', E1, s1, e, f.after x1⟩
  · cases e
/-- a target of any kind -/
theorem s_asg {tg : Expr} {t : TG} (he : PE X e (dE P ea)) (hg : PG X tg (dG P t)) (hs : swapsWithSole [tg] e pos.line X.env = pure false := by rfl) (hw : swappedStores [tg] e X.env = pure none := by rfl)
    (h1 : (assignEach [tg] X.env).map (·.2) = [assign tg X.env] := by rfl) : PS X (.Assign [tg] e pos) (dS P (.setT t ea)) := wkS (ps_asg he hg hs hw h1) fun D σ H ⟨ι, h, env, fl, h', E, s, e, f⟩ => by
  obtain ⟨d, h2, e1, e⟩ := bd_ok e
  split at e
  · rename_i env1 ha
    cases e
    exact dE.step E s e1 fun ι1 v H1 x1 s1 r1 E1 => ⟨ι1, _, env, d, env1, E1, s1, r1, ha, fun σ' E' _ => f ι1 H1 x1 s1 σ' E'⟩
  · cases e
include B in
theorem s_par {i j : Nat} {x y : Str} {px py pt : Pos} {kt k2 pt2} (hN : X.N.Nodup) (hi : X.N[i]? = some x) (hj : X.N[j]? = some y) (hij : i ≠ j)
    (hx : X.env.scope.names.lookup x = some .local) (hy : X.env.scope.names.lookup y = some .local) (ha : PE X a (dE P ea)) (hb : PE X b (dE P eb))
    (hw : swappedStores [.Tuple [.Name x px, .Name y py] kt pt] (.Tuple [a, b] k2 pt2) X.env = pure (some [x, y]))
    (hs : swapsWithSole [.Tuple [.Name x px, .Name y py] kt pt] (.Tuple [a, b] k2 pt2) pos.line X.env = pure false := by rfl)
    (hsa : starEach [a, b] X.env = (false, eval a X.env) :: starEach [b] X.env := by rfl) (hsb : starEach [b] X.env = (false, eval b X.env) :: starEach [] X.env := by rfl) :
    PS X (.Assign [.Tuple [.Name x px, .Name y py] kt pt] (.Tuple [a, b] k2 pt2) pos) (dS P (.par i j ea eb)) := wkS (ps_par B.x.hc hN hi hj hij hx hy (pa_cons ha (pa_cons hb pa_nil hsb) hsa) hw hs) fun D σ H ⟨ι, h, env, fl, h', E, s, e, f⟩ => by
  obtain ⟨d, h1, e1, e⟩ := bd_ok e
  obtain ⟨d2, h2, e2, e⟩ := bd_ok e
  cases e
  exact dE.step E s e1 fun ι1 v H1 x1 s1 r1 E1 => dE.step E1 s1 e2 fun ι2 w H2 x2 s2 r2 E2 => ⟨v, w, rfl, f ι2 H2 (x1.trans x2) s2 _ ((E2.set (r1.mono x2) i).set r2 j)⟩
include B in
theorem s_fld {x : Str} {fi : Nat} {pos' : Pos} (hx : P.T.an fi = x) (ha : PE X a (dE P ea)) (he : PE X e (dE P eb)) (hs : swapsWith e (some (.Attribute a x pos')) pos.line X.env = pure false := by rfl) : PS X (.Assign [.Attribute a x pos'] e pos) (dS P (.setF ea fi eb)) := wkS (ps_fld ha he hs) fun D σ H ⟨ι, h, env, fl, h', E, s, e, f⟩ => by
  subst hx
  obtain ⟨y, h1, e1, e⟩ := bd_ok e
  obtain ⟨x, h2, e2, e⟩ := bd_ok e
  split at e
  · split at e
    · rename_i n _ c fs g
      split at e
      · rename_i kk hc
        obtain ⟨cc, e⟩ := bif_ok e
        cases e
        rw [Bool.and_eq_true] at cc
        obtain ⟨c1, c2⟩ := cc
        refine dE.step E s e1 fun ι1 v H1 x1 s1 r1 E1 => dE.step E1 s1 e2 fun ι2 w H2 x2 s2 r2 E2 => ?_
        cases r2 with
        | @ref _ a0 e0 =>
          obtain ⟨kk', dx, gs, hc', ki, ha, rr⟩ := s2.at e0 g
          rw [hc] at hc'
          cases hc'
          have y3 : Ext ι2 H2 ι2 (upd H2 a0 (.ins (P.T.ca c) dx (putF (P.T.an fi) v gs))) := Ext.write s2 e0 g (fun xs z => by cases z)
          obtain ⟨k1, k2⟩ := fldR_put B.t hc c1 (r1.mono x2) ki rr
          have hl := fldR_len rr
          refine ⟨a0, _, dx, gs, rfl, ha, B.x.hK ▸ B.t.cls c kk hc, B.x.hK ▸ B.t.fld c kk fi hc c1, ?_, f ι2 _ ((x1.trans x2).trans y3) (s2.write e0 g (fun xs z => by cases z) ⟨kk, dx, _, hc, k1, upd_same, k2.mono y3⟩) σ (E2.mono y3)⟩
          rw [hl]
          simpa [Nat.blt_eq] using c2
      · cases e
    · cases e
  · cases e
include B in
theorem s_sub {i : Expr} {ei : E} {pos' : Pos} (he : PE X e (dE P eb)) (ha : PE X a (dE P ea)) (hi : PE X i (dE P ei))
    (has : ∀ v, assign (.Subscript a i pos') X.env v = (do
      let ov ← holding [v] (eval a X.env)
      let iv ← holding [v, ov] (eval i X.env)
      standAt pos'
      holding [v, ov, iv] (setItem ov iv v)
      release [v, ov, iv] []) := by intro _; rfl)
    (hs : swapsWithSole [.Subscript a i pos'] e pos.line X.env = pure false := by rfl) (hw : swappedStores [.Subscript a i pos'] e X.env = pure none := by rfl)
    (h1 : (assignEach [.Subscript a i pos'] X.env).map (·.2) = [assign (.Subscript a i pos') X.env] := by rfl) : PS X (.Assign [.Subscript a i pos'] e pos) (dS P (.setI ea ei eb)) := wkS (ps_asg he (pg_sub ha hi (set_ok B.x) has) hs hw h1) fun D σ H ⟨ι, h, env, fl, h', E, s, e, f⟩ => by
  obtain ⟨y, h1, e1, e⟩ := bd_ok e
  obtain ⟨x, h2, e2, e⟩ := bd_ok e
  obtain ⟨j, h3, e3, e⟩ := bd_ok e
  split at e
  · rename_i n kk _
    split at e
    · rename_i xs g
      split at e
      · rename_i p hp
        cases e
        refine dE.step E s e1 fun ι1 v H1 x1 s1 r1 E1 => dE.step E1 s1 e2 fun ι2 w H2 x2 s2 r2 E2 => dE.step E2 s2 e3 fun ι3 w3 H3 x3 s3 r3 E3 => ?_
        exact ⟨ι3, h3, n, kk, y, xs, p, s3, r2.mono x3, r3, r1.mono (x2.trans x3), g, hp, fun H' x4 s4 => f ι3 H' ((x1.trans (x2.trans x3)).trans x4) s4 σ (E3.mono x4)⟩
      · cases e
    · cases e
  · cases e
include B in
theorem s_setLc {i : Nat} {y : Str} {py : Pos} {elt tg iter : Expr} {ifs : List Expr} {scope : Scope} {own : List (Str × Nat)} {spos : Pos} {it c e : E} {t : TG} {vs : List Nat} (hvs : own.map (·.2) = vs) (htg : ∀ i ∈ tgs t, i ∈ vs) (hN : X.N.Nodup) (hy : X.N[i]? = some y) (hyl : X.env.scope.names.lookup y = some .local)
    (hsw : swapsWith (.ListComp elt [⟨tg, iter, ifs, 0⟩] scope pos) (some (.Name y py)) spos.line X.env = pure true) (hi : PI X tg iter (dI P it)) (ok : BlkOk X.N X.env.scope scope own)
    (hg : ∀ (s : Shared) (H : HpA) (C : Addr) (cl : List (Str × Addr)) (fp : List Addr), PG (X.blk s H scope (compEnvC scope cl C X.env) fp) tg (dG P t))
    (ht : ∀ (s : Shared) (H : HpA) (C : Addr) (cl : List (Str × Addr)) (fp : List Addr), PTs (X.blk s H scope (compEnvC scope cl C X.env) fp) ifs (dT P c))
    (he : ∀ (s : Shared) (H : HpA) (C : Addr) (cl : List (Str × Addr)) (fp : List Addr), PE (X.blk s H scope (compEnvC scope cl C X.env) fp) elt (dE P e)) (hs : ∀ x, foldedSetIterable iter X.env x = pure x := by intro _; rfl) :
    PS X (.Assign [.Name y py] (.ListComp elt [⟨tg, iter, ifs, 0⟩] scope pos) spos) (dS P (.set i (.comp vs it t c e))) := by
  subst hvs
  refine wkS (ps_setLc B.x.hc hN hy hyl hsw hi ok hg ht he hs) fun D σ H ⟨ι, h, env, fl, h', E, s, e, f⟩ => ?_
  obtain ⟨d, h1, e1, e⟩ := bd_ok e
  cases e
  exact comp_read B htg (dE.step E s e1 fun ι1 v H1 x1 s1 r1 E1 => f ι1 H1 x1 s1 _ (E1.set r1 i))

/-! ### loops -/
include B in
theorem s_whl (hp : PassesOwn (model X.prog X.w) X.A X.env X.xe) (hc : PT X c (dT P ec)) (hb : PSs X sts (dS P s)) : PS X (.While c sts [] pos) (dS P (.whl ec s)) := wkS (ps_while hp hc hb) fun D σ H ⟨ι, h, env, fl, h', E, s0, e, f⟩ => by
  refine ⟨fun m σ1 H1 => ∃ (ι1 : In) (h1 : Hp) (env1 : Env), Ext ι H ι1 H1 ∧ EnvR P.T.K ι1 H1 env1 σ1 ∧ SR P.T ι1 h1 H1 ∧ whlGo (P.ev ec) (P.ex s) m env1 h1 = .ok fl h', ⟨P.lf, ι, h, env, .refl _ _, E, s0, e⟩, ?_⟩
  rintro m σ1 H1 ⟨ι1, h1, env1, x1, E1, s1, go⟩
  cases m with
  | zero => cases go
  | succ m =>
    simp only [whlGo] at go
    obtain ⟨d, h2, e2, go⟩ := bd_ok go
    split at go
    · rename_i t
      obtain ⟨r, h3, e3, go⟩ := bd_ok go
      refine dT.step E1 s1 e2 t fun ι2 H2 x2 s2 E2 => iteT ⟨fun σ3 H3 => ∃ m', m' < m + 1 ∧ ∃ (ι1 : In) (h1 : Hp) (env1 : Env), Ext ι H ι1 H3 ∧ EnvR P.T.K ι1 H3 env1 σ3 ∧ SR P.T ι1 h1 H3 ∧ whlGo (P.ev ec) (P.ex s) m' env1 h1 = .ok fl h', fun σ3 H3 z => z, ?_⟩
      refine ⟨ι2, h2, env1, r, h3, E2, s2, e3, fun ι3 H3 x3 s3 => ?_⟩
      cases r with
      | nx env3 => exact fun σ3 E3 => ⟨m, Nat.lt_succ_self m, ι3, h3, env3, x1.trans (x2.trans x3), E3, s3, go⟩
      | ct env3 => exact fun σ3 E3 => ⟨m, Nat.lt_succ_self m, ι3, h3, env3, x1.trans (x2.trans x3), E3, s3, go⟩
      | bk env3 => cases go; exact fun σ3 E3 => f ι3 H3 (x1.trans (x2.trans x3)) s3 σ3 E3
      | rt d3 => cases go; exact fun v r3 => f ι3 H3 (x1.trans (x2.trans x3)) s3 v r3
    · rename_i t
      cases go
      exact dT.step E1 s1 e2 t fun ι2 H2 x2 s2 E2 => iteF (f ι2 H2 (x1.trans x2) s2 σ1 E2)
    · cases go
include B in
theorem s_for {tg iter : Expr} {t : TG} (hp : PassesOwn (model X.prog X.w) X.A X.env X.xe) (hi : PI X tg iter (dI P ea)) (hg : PG X tg (dG P t)) (hb : PSs X sts (dS P s)) (hs : ∀ x, foldedSetIterable iter X.env x = pure x := by intro _; rfl) : PS X (.For tg iter sts [] pos) (dS P (.fr t ea s)) := wkS (ps_for hp B.x.hc hi hg hb hs) fun D σ H ⟨ι, h, env, fl, h', E, s0, e, f⟩ => by
  obtain ⟨i0, h0, e0, e⟩ := bd_ok e
  refine ⟨ι, h, env, i0, h0, E, s0, e0, fun ιa Ha J xa sa j => ?_⟩
  refine ⟨fun i m σ1 H1 => ∃ (ι1 : In) (h1 : Hp) (env1 : Env), Ext ιa Ha ι1 H1 ∧ EnvR P.T.K ι1 H1 env1 σ1 ∧ SR P.T ι1 h1 H1 ∧ forGo i0 t (P.ex s) m i env1 h1 = .ok fl h', ⟨P.lf, ιa, h0, env, .refl _ _, E.mono xa, sa, e⟩, ?_⟩
  rintro i m σ1 H1 ⟨ι1, h1, env1, x1, E1, s1, go⟩
  cases m with
  | zero => cases go
  | succ m =>
    simp only [forGo] at go
    have jj := j ι1 H1 h1 i x1 s1
    split at go
    · cases go
    · rename_i hn
      cases go
      exact .inl ⟨jj.1 hn, f ι1 H1 (xa.trans x1) s1 σ1 E1⟩
    · rename_i x hn
      obtain ⟨jg, jy⟩ := jj.2 x hn
      split at go
      · cases go
      · rename_i env2 ha
        obtain ⟨r, h3, e3, go⟩ := bd_ok go
        refine .inr ⟨jg, fun σ3 H3 => ∃ m', m' < m + 1 ∧ ∃ (ι1 : In) (h1 : Hp) (env1 : Env), Ext ιa Ha ι1 H3 ∧ EnvR P.T.K ι1 H3 env1 σ3 ∧ SR P.T ι1 h1 H3 ∧ forGo i0 t (P.ex s) m' (i + 1) env1 h1 = .ok fl h', fun σ3 H3 z => z, fun v H' yl => ?_⟩
        obtain ⟨x4, s4, rv⟩ := jy v H' yl
        refine ⟨ι1, h1, env1, x, env2, E1.mono x4, s4, rv, ha, fun σ2 E2 _ => ⟨ι1, h1, env2, r, h3, E2, s4, e3, fun ι3 H3 x3 s3 => ?_⟩⟩
        cases r with
        | nx env3 => exact fun σ3 E3 => ⟨m, Nat.lt_succ_self m, ι3, h3, env3, x1.trans (x4.trans x3), E3, s3, go⟩
        | ct env3 => exact fun σ3 E3 => ⟨m, Nat.lt_succ_self m, ι3, h3, env3, x1.trans (x4.trans x3), E3, s3, go⟩
        | bk env3 => cases go; exact fun σ3 E3 => f ι3 H3 (xa.trans (x1.trans (x4.trans x3))) s3 σ3 E3
        | rt d3 => cases go; exact fun v r3 => f ι3 H3 (xa.trans (x1.trans (x4.trans x3))) s3 v r3
end
end VI

set_option Elab.async false
set_option linter.all false
set_option maxRecDepth 100000
/-! VN: defs. -/
namespace VI
open PySem PySem.Spec PyProof.Rows L2

def pmAt (T : Tb) (lf k : Nat) : Pm := ⟨T, run T.g lf k, runAt T.g lf k, lf⟩
/-- the tables and what stands behind the top -/
structure TopOk (K : PySem.W.Frag) (T : Tb) (F : Fs) : Prop where
  hK : K = T.K
  t : TOk T
  m : MOk T F
  bnd : ∀ fi i, nth T.g.fns fi = some i → Binds K (F.fd fi) (F.ps fi) []
  kp : ∀ fi i, nth T.g.fns fi = some i → PySem.W.keepIn K (.ref (F.fa fi)) = true
  len : ∀ fi i, nth T.g.fns fi = some i → (F.ps fi).length = i.many
theorem run_succ (g : G) (lf k f : Nat) (ds : List D) (h : Hp) : run g lf (k + 1) f ds h = match nth g.fns f with
    | none => .bad
    | some i => bif ds.length == i.many then
      (ex g (run g lf k) (runAt g lf k) lf i.body (begin ds i.names) h).bd fun r h1 => match r with
        | .nx _ => .ok .non h1
        | .rt d => .ok d h1
        | _ => .bad
      else .bad := rfl
theorem run_zero (g : G) (lf fi : Nat) (ds : List D) (h : Hp) : run g lf 0 fi ds h = .bad := rfl
theorem run_len {K : PySem.W.Frag} {T : Tb} {F : Fs} (o : TopOk K T F) {lf k fi : Nat} {i : FI} {ds : List D} {h h' : Hp} {d : D} (hi : nth T.g.fns fi = some i) (e : run T.g lf k fi ds h = .ok d h') : ds.length = (F.ps fi).length := by
  cases k with
  | zero => cases e
  | succ k =>
    rw [run_succ, hi] at e
    obtain ⟨c, _⟩ := bif_ok e
    rw [o.len fi i hi]
    exact beq_iff_eq.mp c
theorem runAt_len {K : PySem.W.Frag} {T : Tb} {F : Fs} (o : TopOk K T F) {lf k fi : Nat} {i : FI} {ds : List D} {h h' : Hp} {d : D} (hi : nth T.g.fns fi = some i) (e : runAt T.g lf k fi ds h = .ok d h') : ds.length = (F.ps fi).length := by
  cases k with
  | zero => cases e
  | succ k => exact run_len o hi e
section
variable {Pg : Program} {w : World} {K : PySem.W.Frag} {mg : Str → Option Value} {base : Heap} {T : Tb} {F : Fs} {lf : Nat}
/-- all defs at a level keep their promises -/
def AllOk (Pg : Program) (w : World) (K : PySem.W.Frag) (mg : Str → Option Value) (base : Heap) (T : Tb) (F : Fs) (lf k : Nat) : Prop :=
  ∀ fi i, nth T.g.fns fi = some i → FnOk Pg w K mg base CX0 k (F.fa fi) (F.fd fi) (F.ps fi) (spC T F (run T.g lf k) fi)
theorem all_zero : AllOk Pg w K mg base T F lf 0 := fun fi i hi =>
  { len := fun vs H Q E h => h.1
    run := fun A outer s H args us vs Q E _ _ _ _ h => by
      obtain ⟨_, _, _, _, _, _, _, _, e, _⟩ := h
      cases e }
theorem bok_of (o : TopOk K T F) {k : Nat} (h1 : AllOk Pg w K mg base T F lf k) (h2 : ∀ j, k = j + 1 → AllOk Pg w K mg base T F lf j) {N : List Str} {qual : Str} {scope : Scope} {f : Addr} {cd : Value} {A : Around} {outer : List PySem.Env} {s : Shared} {H : HpA} {E : XK}
    (hr : Room k (A.deeper (envOfC qual scope s.heap.objs.size f cd))) : BOk (cxOf CX0 Pg w K mg base N qual scope f cd A outer s H E).nox (pmAt T lf k) F k where
  x := ⟨o.hK, hr.units, rfl⟩
  t := o.t
  m := o.m
  rm := hr
  bnd := o.bnd
  kp := o.kp
  cal := h1
  ini := fun fi i hi => by
    cases k with
    | zero => exact .inl fun ds h => rfl
    | succ j => exact .inr ⟨j, Nat.le_refl _, h2 j rfl fi i hi⟩
  lenC := fun fi i ds h d h' hi e => run_len o hi e
  lenI := fun fi i ds h d h' hi e => runAt_len o hi e
/-- one def, a level up -/
theorem step_of (o : TopOk K T F) {k : Nat} (h1 : AllOk Pg w K mg base T F lf k) (h2 : ∀ j, k = j + 1 → AllOk Pg w K mg base T F lf j) {fi : Nat} {i : FI} (hi : nth T.g.fns fi = some i)
    {x qual : Str} {params : Arguments} {body : List Stmt} {scope : Scope} {N : List Str} (FD : FunD K x qual params body scope [] [] (F.fa fi) (F.fd fi)) (S : FnScope N (F.ps fi) scope) (hn : N.length = i.names)
    (der : ∀ (cd : Value) (A : Around) (outer : List PySem.Env) (s : Shared) (H : HpA) (E : XK), BOk (cxOf CX0 Pg w K mg base N qual scope (F.fa fi) cd A outer s H E).nox (pmAt T lf k) F k → PSs (cxOf CX0 Pg w K mg base N qual scope (F.fa fi) cd A outer s H E).nox body (dS (pmAt T lf k) i.body)) :
    FnOk Pg w K mg base CX0 (k + 1) (F.fa fi) (F.fd fi) (F.ps fi) (spC T F (run T.g lf (k + 1)) fi) := by
  refine FD.ok S (fun vs H Q E h => h.1) (fun cd A outer s H vs Q E hr h => ⟨dS (pmAt T lf k) i.body, PSs.nox (der cd A outer s H E (bok_of o h1 h2 hr)), ?_⟩)
  obtain ⟨hl, ι, h, ds, d, h', sr, rl, e, f⟩ := h
  rw [run_succ, hi] at e
  obtain ⟨c, e⟩ := bif_ok e
  obtain ⟨fl, h1, e1, e⟩ := bd_ok e
  refine ⟨ι, h, _, fl, h1, hn ▸ EnvR.begin N rl, sr, e1, fun ι' H' x s' => ?_⟩
  · cases fl with
    | nx env => cases e; exact fun σ _ => f ι' .non H' x s' .non
    | rt d1 => cases e; exact fun v r => f ι' v H' x s' r
    | bk env => cases e
    | ct env => cases e
theorem all_of (o : TopOk K T F) (step : ∀ k, AllOk Pg w K mg base T F lf k → (∀ j, k = j + 1 → AllOk Pg w K mg base T F lf j) → AllOk Pg w K mg base T F lf (k + 1)) : ∀ k, AllOk Pg w K mg base T F lf k ∧ AllOk Pg w K mg base T F lf (k + 1)
  | 0 => ⟨all_zero, step 0 all_zero fun j e => by cases e⟩
  | k + 1 => ⟨(all_of o step k).2, step (k + 1) (all_of o step k).2 fun j e => by cases e; exact (all_of o step k).1⟩
end
end VI

set_option Elab.async false
set_option linter.all false
set_option maxRecDepth 100000
/-! VO: reversed slices, lists of ranges. -/
namespace VI
open PySem PySem.Spec PyProof.Rows L2

theorem fm_congr {α β : Type} {f g : α → Option β} : ∀ {l : List α}, (∀ x ∈ l, f x = g x) → l.filterMap f = l.filterMap g
  | [], _ => rfl
  | a :: l, h => by
    rw [List.filterMap_cons, List.filterMap_cons, h a (List.mem_cons_self ..), fm_congr fun x hx => h x (List.mem_cons_of_mem _ hx)]
theorem rev_pick : ∀ r : List Value, (List.range r.length).filterMap (fun k => r.reverse[r.length - 1 - k]?) = r
  | [] => rfl
  | a :: r => by
    rw [List.length_cons, List.range_succ_eq_map, List.filterMap_cons, List.filterMap_map]
    have e0 : (a :: r).reverse[r.length + 1 - 1 - 0]? = some a := by simp
    rw [e0]
    have e1 : ∀ k ∈ List.range r.length, ((fun k => (a :: r).reverse[r.length + 1 - 1 - k]?) ∘ Nat.succ) k = r.reverse[r.length - 1 - k]? := by
      intro k hk
      have hk := List.mem_range.mp hk
      show (a :: r).reverse[r.length + 1 - 1 - (k + 1)]? = _
      rw [List.reverse_cons, List.getElem?_append_left (by rw [List.length_reverse]; omega)]
      congr 1
      omega
    have e2 : (List.range r.length).filterMap ((fun k => (a :: r).reverse[r.length + 1 - 1 - k]?) ∘ Nat.succ) = (List.range r.length).filterMap (fun k => r.reverse[r.length - 1 - k]?) := fm_congr e1
    show a :: (List.range r.length).filterMap ((fun k => (a :: r).reverse[r.length + 1 - 1 - k]?) ∘ Nat.succ) = _
    rw [e2, rev_pick r]
theorem rev_pickA (l : List Value) : ((List.range l.toArray.size).filterMap fun (k : Nat) => l.toArray[(((l.toArray.size : Int) - 1) + (k : Int) * (-1)).toNat]?).toArray = l.reverse.toArray := by
  congr 1
  have h := rev_pick l.reverse
  rw [List.length_reverse, List.reverse_reverse] at h
  rw [List.size_toArray]
  refine Eq.trans (fm_congr fun k hk => ?_) h
  have hk := List.mem_range.mp hk
  rw [List.getElem?_toArray]
  congr 1
  omega
section
variable {prog : Program} {w : World} {A : Around} {E : Value → Shared → Prop} {s : Shared}
theorem sliceApplied_rev {sl : Addr} {vs : Value} {n : Nat} {Q : Int × Int × Nat → Shared → Prop} (hs : s.heap.IsSliceOf sl .none .none vs) (ps : IsPart vs (some (-1)))
    (h : Q (((n : Int) - 1), -1, n) s) : wpAny (model prog w) A (Builtin.Slice.sliceApplied (.ref sl) (pure (n : Int))) Q E s := by
  obtain ⟨os, hos, hcs, hds⟩ := id hs
  unfold Builtin.Slice.sliceApplied Builtin.Slice.sliceFields
  refine wpAny_bind (wpAny_bind (wpAny_field hos hds (x := .none) rfl (wpAny_bind (wpAny_field hos hds (x := .none) rfl (wpAny_bind (wpAny_field hos hds (x := vs) rfl (wpAny_pure ?_)))))))
  refine wpAny_bind (HT.slicePart_ ps ?_)
  show wpAny _ _ (if ((-1 : Int) == 0) = true then _ else _) _ _ s
  rw [if_neg (by decide)]
  refine wpAny_bind (HT.slicePart_ .none (wpAny_bind (HT.slicePart_ .none (wpAny_bind (wpAny_pure ?_)))))
  have e : Builtin.Slice.sliceAdjust none none (-1) (n : Int) = ((n : Int) - 1, -1) := by
    unfold Builtin.Slice.sliceAdjust
    simp
  show wpAny _ _ (match Builtin.Slice.sliceAdjust none none (-1) (n : Int) with | (lo, hi) => pure (lo, (-1 : Int), Builtin.Slice.slicePlaces lo hi (-1))) _ _ s
  rw [e]
  show wpAny _ _ (pure ((n : Int) - 1, (-1 : Int), Builtin.Slice.slicePlaces ((n : Int) - 1) (-1) (-1))) _ _ s
  have e2 : Builtin.Slice.slicePlaces ((n : Int) - 1) (-1) (-1) = n := by
    unfold Builtin.Slice.slicePlaces
    simp
    split <;> omega
  rw [e2]
  exact wpAny_pure h
theorem getItem_tuple_rev {t sl : Addr} {l : List Value} {vs : Value} {Q : Value → Shared → Prop} (ht : IsTup s.heap t l.toArray) (hs : s.heap.IsSliceOf sl .none .none vs) (ps : IsPart vs (some (-1)))
    (h : Q (.ref s.heap.objs.size) { s with heap := s.heap.push { cls := .type "tuple", data := .seq l.reverse.toArray } })
    (hsz : l.length ≤ sizeLine) : wpAny (model prog w) A (getItem (.ref t) (.ref sl)) Q E s := by
  have htake : sizeOk (.seq l.reverse.toArray) := by
    show l.reverse.toArray.size ≤ sizeLine
    rw [List.size_toArray, List.length_reverse]
    exact hsz
  obtain ⟨os, hos, hcs, hds⟩ := id hs
  have hTs : s.TypeIs (.ref sl) "slice" := ⟨os, hos, hcs⟩
  unfold getItem
  try with_reducible refine wpAny_holding ?_
  first | refine wpAny_bind (wpAny_pure ?_) | skip
  refine wpAny_bind (wpAny_sequenceKey ht.typeIs (by decide) ?_)
  refine wpAny_bind (wpAny_callSpecial?_slot (name := Str.ofString "__getitem__") ht.typeIs PyProof.Rows.slot_tuple_getitem
    (wpAny_call_entry PyProof.Rows.slot_tuple_getitem ht.typeIs PyProof.Rows.entry_tuple_getitem ?_ (PyProof.Rows.args_tuple_getitem _ _)))
  show wpAny _ _ (Builtin.Tuple.tupleItemsOf (.ref t) >>= _) _ _ s
  refine wpAny_bind (PyProof.Rows.tupleItemsOf_ ht ?_)
  refine wpAny_bind (wpAny_typeOf hTs ?_)
  rw [if_pos (by decide)]
  refine wpAny_bind (sliceApplied_rev hs ps ?_)
  have hno : ¬ ((((l.toArray.size : Int) - 1) == 0 && (-1 : Int) == 1 && l.toArray.size == l.toArray.size) = true) := by
    intro q
    rw [Bool.and_eq_true, Bool.and_eq_true] at q
    exact absurd q.1.2 (by decide)
  show wpAny _ _ (if (((l.toArray.size : Int) - 1) == 0 && (-1 : Int) == 1 && l.toArray.size == l.toArray.size) = true then _ else _) _ _ s
  rw [if_neg hno, rev_pickA]
  first
    | exact wpAny_bind (m := Builtin.Tuple.tupleExact _) (wpAny_newObj_type (wpAny_pure ⟨_, rfl, wpAny_pure h⟩) htake)
    | exact wpAny_bind (m := Builtin.Tuple.tupleExact _) (wpAny_newObj_type (wpAny_bind (wpAny_pure (wpAny_pure ⟨_, rfl, wpAny_pure h⟩))) htake)
    | exact wpAny_bind (wpAny_bind (m := Builtin.Tuple.tupleExact _) (wpAny_newObj_type (wpAny_pure (wpAny_pure ⟨_, rfl, wpAny_pure h⟩)) htake))
    | exact wpAny_bind (wpAny_bind (m := Builtin.Tuple.tupleExact _) (wpAny_newObj_type (wpAny_pure ⟨_, rfl, wpAny_pure h⟩) htake))
end
section
variable {X : Cx} {P : Pm} {F : Fs} {k : Nat}
def tRevA (K : PySem.W.Frag) (te : TE) : TE := fun σ H Q => te σ H fun x H1 => ∃ b a xs, x = .ref a ∧ SqA b K H1 a xs ∧ ∀ p, H1 p = none → Q (.ref p) (upd H1 p (match b with | false => .lst xs.reverse | true => .tup xs.reverse))
theorem pe_revA {e : Expr} {te : TE} {k : Nat} {p1 p2 p3 pos : Pos} (he : PE X e te) : PE X (.Subscript e (.Slice none none (some (.UnaryOp .USub (.Constant (.int 1) k p1) p2)) p3) pos) (tRevA X.K te) := by
  refine ⟨fun pins s σ H Q I h => ?_⟩
  refine Subscript_ (thn (he.run pins s σ H _ I h) fun v s1 ⟨x, H1, I1, r1, q1⟩ => ?_)
  obtain ⟨b, a, xs, ex, hx, q⟩ := q1
  subst ex
  cases r1
  have hst : PO X (some (.UnaryOp .USub (.Constant (.int 1) k p1) p2)) (tPart (tUn (rU fun i => .int (-i)) (tC (.int 1)))) := po_some (pe_un un_neg pe_int)
  have e0 : evalPart (none : Option Expr) X.env = pure Value.none := evalPart_none ..
  refine wpAny_Slice ?_
  rw [e0]
  refine wpAny_pure ?_
  refine wpAny_pure ?_
  refine thn (hst.run pins s1 σ H1 (fun o H4 => o = some (-1) ∧ H4 = H1) I1 ⟨1, rfl, -1, rfl, rfl, rfl⟩) fun vs s4 ⟨o, H4, I4, ps, eo, e4⟩ => ?_
  subst eo e4
  have I5 : Inv X pins σ H4 { s4 with heap := s4.heap.push { cls := .type "slice", data := .fields #[.none, .none, vs] } } := I4.kept (t' := s4.toks) fun b ob q => Heap.get?_push_of_some _ q
  show wpAny (model X.prog X.w) X.A (subscriptTail e (.Slice none none (some (.UnaryOp .USub (.Constant (.int 1) k p1) p2)) p3) (.ref a) (.ref s4.heap.objs.size)) (EP X pins σ Q) X.xe { s4 with heap := s4.heap.push { cls := .type "slice", data := .fields #[.none, .none, vs] } }
  cases b with
  | false =>
    obtain ⟨its, r, ht, hz⟩ := I5.list hx
    have hlen := r.length
    refine tail_any (ops := [.ref a, .ref s4.heap.objs.size]) ht.isList.typeIs (PySem.slot_list_getitem.lookup) ?_ (by with_unfolding_all rfl)
    refine wpAny_getItem_list_slice ht.isList (Heap.IsSliceOf.new _ .none .none vs) .none .none ps (by decide) ?_ (by rw [List.size_toArray]; omega)
    rw [PySem.W.krv_pick]
    refine ⟨.ref _, _, I5.laid (t' := s4.toks) (o := .lst xs.reverse) (fun b ob q => Heap.get?_push_of_some _ q) (Nat.le_refl _) ?_, rfl, q _ (I5.hok.fresh (Nat.le_refl _))⟩
    exact ⟨by rw [List.length_reverse]; exact hz, _, 0, r.reverse, Heap.get?_push_size _ rfl⟩
  | true =>
    obtain ⟨its, r, ht, hz⟩ := I5.tuple hx
    have hlen := r.length
    refine tail_any (ops := [.ref a, .ref s4.heap.objs.size]) ht.typeIs (PyProof.Rows.slot_tuple_getitem.lookup) ?_ (by with_unfolding_all rfl)
    refine getItem_tuple_rev ht (Heap.IsSliceOf.new _ .none .none vs) ps ?_ (by omega)
    refine ⟨.ref _, _, I5.laid (t' := s4.toks) (o := .tup xs.reverse) (fun b ob q => Heap.get?_push_of_some _ q) (Nat.le_refl _) ?_, rfl, q _ (I5.hok.fresh (Nat.le_refl _))⟩
    exact ⟨by rw [List.length_reverse]; exact hz, _, r.reverse, IsTup.new _ _⟩
theorem d_rev (B : BOk X P F k) {a : Expr} {ea : E} {kk : Nat} {p1 p2 p3 pos : Pos} (ha : PE X a (dE P ea)) : PE X (.Subscript a (.Slice none none (some (.UnaryOp .USub (.Constant (.int 1) kk p1) p2)) p3) pos) (dE P (.rev ea)) := wkE (pe_revA ha) fun σ H Q ⟨ι, h, env, d, h', E, s, e, f⟩ => by
  obtain ⟨x, h1, e1, e⟩ := bd_ok e
  refine dE.step E s e1 fun ι1 v H1 x1 s1 r1 E1 => ?_
  cases r1 with
  | tup t l =>
    cases e
    exact ⟨true, _, _, rfl, B.x.hK ▸ t, (f.after x1).tup s1 l.reverse⟩
  | ref e0 =>
    simp only at e
    split at e
    · rename_i xs hx
      cases e
      obtain ⟨ys, q, l⟩ := s1.seq e0 hx
      exact ⟨false, _, ys, rfl, B.x.hK ▸ q, (f.after x1).list s1 l.reverse⟩
    · cases e
  | _ => cases e

theorem upTo_rel {K : PySem.W.Frag} {ι : In} {H : HpA} (i : Int) (n : Nat) : RelL K ι H (upTo n i) ((List.range n).map fun j => V.int (i + (j : Nat))) := by
  induction n generalizing i with
  | zero => exact .nil
  | succ n ih =>
    rw [List.range_succ_eq_map, List.map_cons, List.map_map]
    have e : ((fun j : Nat => V.int (i + (j : Nat))) ∘ Nat.succ) = fun j : Nat => V.int (i + 1 + (j : Nat)) := by
      funext j
      show V.int (i + ((j + 1 : Nat) : Int)) = _
      congr 1
      omega
    rw [e]
    refine .cons ?_ (ih (i + 1))
    have : i + ((0 : Nat) : Int) = i := by omega
    rw [this]
    exact .int i
theorem d_lrg1 (B : BOk X P F k) {a : Expr} {ea : E} {p p2 pos2 pos : Pos} (hm : X.mg "list" = none) (hg : Gl X "list") (hm2 : X.mg "range" = none) (hg2 : Gl X "range") (ha : PE X a (dE P ea)) (hs : starEach [a] X.env = (false, eval a X.env) :: starEach [] X.env := by rfl)
    (hs2 : starEach [(.Call (.Name "range" p2) [a] [] pos2)] X.env = (false, eval (.Call (.Name "range" p2) [a] [] pos2) X.env) :: starEach [] X.env := by rfl) : PE X (.Call (.Name "list" p) [.Call (.Name "range" p2) [a] [] pos2] [] pos) (dE P (.lrg (.cons ea .nil))) := by
  refine wkE (pe_listRg B.x.hc hg hm (prg_1 hg2 hm2 ha hs) hs2) fun σ H Q ⟨ι, h, env, d, h', E, s, e, f⟩ => ?_
  obtain ⟨x, h1, e1, e⟩ := bd_ok e
  obtain ⟨y, h2, e2, e1⟩ := bd_ok e1
  cases e1
  refine dE.step E s e2 fun ι1 v H1 x1 s1 r1 E1 => ?_
  cases r1 with
  | int j =>
    simp only [lrg?] at e
    cases c : small j && Nat.ble j.toNat line with
    | false => rw [c] at e; cases e
    | true =>
      rw [c] at e
      cases e
      rw [Bool.and_eq_true] at c
      obtain ⟨c1, c2⟩ := small_ok c.1
      have c3 : j.toNat ≤ line := Nat.le_of_ble_eq_true c.2
      have e24 : line = 16777216 := rfl
      have e0 : (j - 0).toNat = j.toNat := by rw [Int.sub_zero]
      refine ⟨j, rfl, ⟨by omega, by omega, c1, c2, by omega⟩, ?_⟩
      unfold rgV
      rw [e0]
      exact (f.after x1).list s1 (upTo_rel 0 j.toNat)
  | _ => simp [lrg?] at e
end

theorem nmk (o : Cp) (b : Expr) : behindInMarks (toCp o) b = false := by
  cases o <;> exact nomark _
section
variable {X : Cx} {P : Pm} (k : XOk X P.T) {a b c : Expr} {ea eb ec : E} {pos : Pos}
theorem d_globE {x : Str} {d0 : D} (h : ∃ (v : V) (u : Value), X.mg x = some u ∧ RelV v u ∧ ∀ ι H, RelD P.T.K ι H d0 v) (hg : Gl X x) (hd : (x == ("__debug__" : Str)) = false := by decide) : PE X (.Name x pos) (dE P (.cst d0)) := by
  obtain ⟨v, u, h1, h2, h3⟩ := h
  exact d_glob hg h1 h2 h3 hd
include k in
theorem t_chain (o p : Cp) (ha : PE X a (dE P ea)) (hb : PE X b (dE P eb)) (hc : PE X c (dE P ec)) (hm : lastMarks [toCp o, toCp p] [b, c] = false := by with_unfolding_all rfl) : PT X (.Compare a [toCp o, toCp p] [b, c] pos) (dT P (.chain o p ea eb ec)) :=
  wkT (pt_chain (op_cmp k o) (op_cmp k p) ha hb hc hm) fun σ H Q ⟨ι, h, env, d, h', bb, E, s, e, t, f⟩ => by
  obtain ⟨x, h1, e1, e⟩ := bd_ok e
  obtain ⟨y, h2, e2, e⟩ := bd_ok e
  refine dE.step E s e1 fun ι1 v H1 x1 s1 r1 E1 => dE.step E1 s1 e2 fun ι2 w H2 x2 s2 r2 E2 => ?_
  split at e
  · rename_i q
    obtain ⟨z, h3, e3, e⟩ := bd_ok e
    refine ⟨ι2, h2, x, y, true, s2, r1.mono x2, r2, q, true, rfl, iteT ?_⟩
    refine dE.step E2 s2 e3 fun ι3 w' H3 x3 s3 r3 E3 => ?_
    split at e
    · rename_i q2
      cases e
      cases t
      exact ⟨ι3, _, y, z, _, s3, r2.mono x3, r3, q2, _, rfl, f ι3 H3 (x1.trans (x2.trans x3)) s3⟩
    · cases e
  · rename_i q
    cases e
    cases t
    exact ⟨ι2, _, x, y, false, s2, r1.mono x2, r2, q, false, rfl, iteF ⟨false, rfl, f ι2 H2 (x1.trans x2) s2⟩⟩
  · cases e
theorem d_fldB {F : Fs} {k : Nat} (B : BOk X P F k) {f : Nat} {x : Str} (hx : P.T.an f = x) (ha : PE X a (dE P ea)) (hb : attributeBase a x X.env (eval a X.env) = eval a X.env := by rfl) : PE X (.Attribute a x pos) (dE P (.fld ea f)) := d_fld B.x.hK B.t hx ha hb
end
end VI

set_option Elab.async false
set_option linter.all false
set_option maxRecDepth 100000
/-! VP: the end. -/
namespace VI
open PySem PySem.Spec PyProof.Rows L2

/-! ### what the head looks at -/
def obsT (fa : List He.Fa) (fn : List He.DefD) (tp : List (Str × List He.Dv)) (K : PySem.W.Frag) : He.AlD := ((He.obsD fa fn K).1 && tp.all fun t => He.tupB K t.1 t.2, (He.obsD fa fn K).2)
def SaysT (fa : List He.Fa) (fn : List He.DefD) (tp : List (Str × List He.Dv)) (K : PySem.W.Frag) : Prop := obsT fa fn tp K = He.valD fn
def obsTG (n : Nat) (fa : List He.Fa) (fn : List He.DefD) (tp : List (Str × List He.Dv)) (g : Addr → Option Obj) : He.AlD := obsT fa fn tp (He.frG g (He.asD g n))
def hookT (n : Nat) (fa : List He.Fa) (fn : List He.DefD) (tp : List (Str × List He.Dv)) : PySem.W.Hook where
  α := He.AlD
  obs := fun s => obsTG n fa fn tp s.heap.get?
  val := fun _ => He.valD fn
  says := fun _ h => ∃ K : PySem.W.Frag, K.In h ∧ SaysT fa fn tp K
  of := fun _ _ e => ⟨_, He.frG_in, e⟩
  keeps := fun _ _ _ ⟨K, hK, c⟩ k => ⟨K, PySem.W.Frag.In.keeps hK k, c⟩
theorem obsTG_eq {n : Nat} {fa : List He.Fa} {fn : List He.DefD} {tp : List (Str × List He.Dv)} {g : Addr → Option Obj} {s : Shared} (h : ∀ a, g a = s.heap.get? a) : obsTG n fa fn tp g = (hookT n fa fn tp).obs s := by
  have e : g = s.heap.get? := funext h
  rw [e] <;> rfl
theorem SaysT.d {fa : List He.Fa} {fn : List He.DefD} {tp : List (Str × List He.Dv)} {K : PySem.W.Frag} (c : SaysT fa fn tp K) : He.SaysD fa fn K := by
  have e1 : ((He.obsD fa fn K).1 && tp.all fun t => He.tupB K t.1 t.2) = true := congrArg (fun z : He.AlD => z.1) c
  have e2 : (He.obsD fa fn K).2 = fn.map He.DefD.val := congrArg (fun z : He.AlD => z.2) c
  exact Prod.ext (He.ba e1).1 e2
theorem SaysT.t {fa : List He.Fa} {fn : List He.DefD} {tp : List (Str × List He.Dv)} {K : PySem.W.Frag} (c : SaysT fa fn tp K) (i : Nat) {t : Str × List He.Dv} (h : tp[i]? = some t := by rfl) : He.tupB K t.1 t.2 = true := by
  have e1 : ((He.obsD fa fn K).1 && tp.all fun t => He.tupB K t.1 t.2) = true := congrArg (fun z : He.AlD => z.1) c
  exact List.all_eq_true.mp (He.ba e1).2 t (List.mem_of_getElem? h)
/-- the defs' objects -/
theorem fds {fa : List He.Fa} {fn : List He.DefD} {K : PySem.W.Frag} (c : He.SaysD fa fn K) {d0 : He.DefD} (h0 : fn[0]? = some d0) : ∃ fd : Nat → FuncData, ∀ i d, fn[i]? = some d → FunD K d.name d.qual d.params d.body d.scope (d.dvs K) (d.kws K) (He.fAd K d.at_) (fd i) := by
  obtain ⟨f0, _⟩ := c.def_ 0 h0
  have all : ∀ i : Nat, ∃ fd, ∀ d : He.DefD, fn[i]? = some d → FunD K d.name d.qual d.params d.body d.scope (d.dvs K) (d.kws K) (He.fAd K d.at_) fd := fun i => by
    cases e : fn[i]? with
    | none => exact ⟨f0, fun d h => by cases h⟩
    | some d =>
      obtain ⟨fd, h⟩ := c.def_ i e
      exact ⟨fd, fun d' h' => by cases h'; exact h⟩
  exact ⟨fun i => (all i).choose, fun i d h => (all i).choose_spec d h⟩

/-! ### tables -/
theorem lookN_mem {α : Type} : ∀ {l : List (Nat × α)} {m : Nat} {f : α}, lookN l m = some f → (m, f) ∈ l
  | [], _, _, h => by cases h
  | (k, v) :: r, m, f, h => by
    simp only [lookN] at h
    by_cases q : k = m
    · subst q
      rw [BEq.rfl] at h
      cases h
      exact List.mem_cons_self ..
    · rw [beq_eq_false_iff_ne.mpr q] at h
      exact List.mem_cons_of_mem _ (lookN_mem h)
theorem memN_mem : ∀ {l : List Nat} {n : Nat}, memN n l = true → n ∈ l
  | k :: r, n, h => by
    simp only [memN, Bool.or_eq_true, beq_iff_eq] at h
    rcases h with h | h
    · exact h ▸ List.mem_cons_self ..
    · exact List.mem_cons_of_mem _ (memN_mem h)
theorem nth_lt {α : Type} {l : List α} {n : Nat} {a : α} (h : nth l n = some a) : n < l.length := by
  rw [nth_eq] at h
  exact (List.getElem?_eq_some_iff.mp h).1
theorem an_inj {l : List Str} (nd : l.Nodup) (ne : ("" : Str) ∉ l) {f g : Nat} (hf : f < l.length) (e : (nth l f).getD "" = (nth l g).getD "") : f = g := by
  rw [nth_eq, nth_eq, List.getElem?_eq_getElem hf] at e
  by_cases hg : g < l.length
  · rw [List.getElem?_eq_getElem hg] at e
    exact (List.getElem_inj nd).mp e
  · rw [List.getElem?_eq_none (by omega)] at e
    exact absurd (show ("" : Str) ∈ l from (show l[f] = "" from e) ▸ List.getElem_mem hf) ne

/-! ### the law's promise -/
def h0 (ns : List Int) : Hp := (⟨0, .nil⟩ : Hp).push (.frz (ns.map .int))
def spLaw (T : Tb) (F : Fs) (k fi : Nat) : Sp := fun vs H Q E => vs.length = (F.ps fi).length ∧ ∃ lf, spC T F (run T.g lf k) fi vs H Q E
theorem rel_ints {K : PySem.W.Frag} {ι : In} {H : HpA} : ∀ ns : List Int, RelL K ι H (ns.map .int) (ns.map V.int)
  | [] => .nil
  | n :: ns => .cons (.int n) (rel_ints ns)
theorem law_sp {T : Tb} {F : Fs} {k fi : Nat} (hl : (F.ps fi).length = 1) {H : HpA} {a : Addr} {ns : List Int} (ho : Only H) (hS : SqL T.K H a (ns.map V.int)) (e : ∃ lf h', run T.g lf k fi [.ref 0] (h0 ns) = .ok (.bl true) h') :
    spLaw T F k fi [.ref a] H (fun v _ => v = .bl true) (fun _ _ _ => False) := by
  obtain ⟨lf, h', e⟩ := e
  have nx : (⟨0, .nil⟩ : Hp).next = 0 := rfl
  have g0 : ∀ n o, (h0 ns).get n = some o → n = 0 ∧ o = .frz (ns.map .int) := fun n o g => by
    unfold h0 at g
    rw [Hp.get_push, nx] at g
    by_cases hn : n = 0
    · rw [if_pos hn] at g; exact ⟨hn, (Option.some.inj g).symm⟩
    · rw [if_neg hn] at g
      have : (⟨0, .nil⟩ : Hp).get n = none := rfl
      rw [this] at g
      cases g
  have gz : (h0 ns).get 0 = some (.frz (ns.map .int)) := by
    unfold h0
    rw [Hp.get_push, nx, if_pos rfl]
  have ob : ObjR T (fun n => if n = 0 then some a else none) H (.frz (ns.map .int)) a := by
    refine ⟨ns.map V.int, ?_, rel_ints ns⟩
    rcases hS with (h | ⟨o, h⟩) | h
    · rcases ho a with z | ⟨o, xs, z⟩
      · rw [z] at h; cases h
      · rw [z] at h; cases h
    · exact .inl ⟨o, h⟩
    · exact .inr h
  have sr : SR T (fun n => if n = 0 then some a else none) (h0 ns) H := by
    refine ⟨fun n o g => ?_, fun n b q => ?_, fun n m b x y e1 e2 g1 g2 => ?_⟩
    · obtain ⟨rfl, rfl⟩ := g0 n o g
      exact ⟨a, rfl, ob⟩
    · by_cases hn : n = 0
      · subst hn; exact ⟨_, gz⟩
      · simp [hn] at q
    · obtain ⟨rfl, _⟩ := g0 n x g1
      obtain ⟨rfl, _⟩ := g0 m y g2
      exact .inl rfl
  refine ⟨by rw [hl]; rfl, lf, by rw [hl]; rfl, _, h0 ns, [.ref 0], .bl true, h', sr, .cons (.ref rfl) .nil, e, fun ι' v H' x s r => ?_⟩
  cases r
  rfl
theorem law_ok {Pg : Program} {w : World} {K : PySem.W.Frag} {mg : Str → Option Value} {base : Heap} {T : Tb} {F : Fs} {k fi : Nat} {i : FI} (hi : nth T.g.fns fi = some i) (h : ∀ lf, AllOk Pg w K mg base T F lf k) : FnOk Pg w K mg base CX0 k (F.fa fi) (F.fd fi) (F.ps fi) (spLaw T F k fi) where
  len := fun vs H Q E q => q.1
  run := fun A outer s H args us vs Q E hr he hb hv ⟨_, lf, q⟩ => (h lf fi i hi).run A outer s H args us vs Q E hr he hb hv q
end VI

set_option Elab.async false
set_option linter.all false
set_option maxRecDepth 100000
set_option maxHeartbeats 0
namespace L57
open PySem PySem.Spec PyProof.Rows L2 VI
def topS (i : Nat) : Stmt := PySem.Challenge.pw_endsorever_k57_whole_following_on_and_on.main.body.getD i (.Pass ⟨0, 0, 0, 0⟩)
abbrev s0 : Stmt := (topS 5)
abbrev N0 : List Str := ["value"]
abbrev P0 : List Str := ["value"]
abbrev s1 : Stmt := (topS 6)
abbrev N1 : List Str := ["value", "least", "most"]
abbrev P1 : List Str := ["value", "least", "most"]
abbrev s2 : Stmt := (topS 7)
abbrev N2 : List Str := ["one", "other"]
abbrev P2 : List Str := ["one", "other"]
abbrev s3 : Stmt := (topS 8)
abbrev N3 : List Str := ["top", "low", "factor"]
abbrev P3 : List Str := ["top", "low"]
abbrev s4 : Stmt := (topS 9)
abbrev N4 : List Str := ["one", "other"]
abbrev P4 : List Str := ["one", "other"]
abbrev s5 : Stmt := (topS 10)
abbrev N5 : List Str := ["one", "other"]
abbrev P5 : List Str := ["one", "other"]
abbrev s6 : Stmt := (topS 11)
abbrev N6 : List Str := ["one", "other"]
abbrev P6 : List Str := ["one", "other"]
abbrev s7 : Stmt := (topS 12)
abbrev N7 : List Str := ["one", "other"]
abbrev P7 : List Str := ["one", "other"]
abbrev s8 : Stmt := (topS 13)
abbrev N8 : List Str := ["one", "other"]
abbrev P8 : List Str := ["one", "other"]
abbrev s9 : Stmt := (inClass (topS 17) 0)
abbrev N9 : List Str := ["self", "columns", "goal", "own", "at", "place"]
abbrev P9 : List Str := ["self", "columns", "goal"]
abbrev s10 : Stmt := (inClass (topS 17) 1)
abbrev N10 : List Str := ["self", "columns", "goal", "at", "sign", "row", "column", "to"]
abbrev P10 : List Str := ["self", "columns", "goal", "at"]
abbrev s11 : Stmt := (inClass (topS 17) 2)
abbrev N11 : List Str := ["self", "place", "total", "row"]
abbrev P11 : List Str := ["self", "place"]
abbrev s12 : Stmt := (inClass (topS 17) 3)
abbrev N12 : List Str := ["self", "place"]
abbrev P12 : List Str := ["self"]
abbrev s13 : Stmt := (inClass (topS 17) 4)
abbrev N13 : List Str := ["self", "place"]
abbrev P13 : List Str := ["self"]
abbrev s14 : Stmt := (inClass (topS 17) 5)
abbrev N14 : List Str := ["self", "place", "best", "at", "row", "own"]
abbrev P14 : List Str := ["self", "place"]
abbrev s15 : Stmt := (inClass (topS 17) 6)
abbrev N15 : List Str := ["self", "at", "place", "by", "to", "one"]
abbrev P15 : List Str := ["self", "at", "place"]
abbrev s16 : Stmt := (inClass (topS 17) 7)
abbrev N16 : List Str := ["self"]
abbrev P16 : List Str := ["self"]
abbrev s17 : Stmt := (inClass (topS 17) 8)
abbrev N17 : List Str := ["self", "found", "at", "place"]
abbrev P17 : List Str := ["self"]
abbrev s18 : Stmt := (inClass (topS 17) 9)
abbrev N18 : List Str := ["self", "found", "at", "sign", "own"]
abbrev P18 : List Str := ["self"]
abbrev s19 : Stmt := (topS 18)
abbrev N19 : List Str := ["row", "other", "place", "by", "one", "its"]
abbrev P19 : List Str := ["row", "other", "place"]
abbrev s20 : Stmt := (topS 19)
abbrev N20 : List Str := ["columns", "goal", "tableau"]
abbrev P20 : List Str := ["columns", "goal"]
abbrev s21 : Stmt := (topS 21)
abbrev N21 : List Str := ["many", "value", "by"]
abbrev P21 : List Str := ["many", "value"]
abbrev s22 : Stmt := (topS 28)
abbrev N22 : List Str := ["many", "rows", "row"]
abbrev P22 : List Str := ["many", "rows"]
abbrev s23 : Stmt := (topS 29)
abbrev N23 : List Str := ["many", "rows", "row"]
abbrev P23 : List Str := ["many", "rows", "row"]
abbrev s24 : Stmt := (topS 30)
abbrev N24 : List Str := ["fractions", "by", "top", "low"]
abbrev P24 : List Str := ["fractions"]
abbrev s25 : Stmt := (topS 31)
abbrev N25 : List Str := ["row"]
abbrev P25 : List Str := ["row"]
abbrev s26 : Stmt := (topS 32)
abbrev N26 : List Str := ["many"]
abbrev P26 : List Str := ["many"]
abbrev s27 : Stmt := (topS 33)
abbrev N27 : List Str := ["row", "spot", "total", "by", "own"]
abbrev P27 : List Str := ["row", "spot"]
abbrev s28 : Stmt := (topS 34)
abbrev N28 : List Str := ["prices", "found", "own"]
abbrev P28 : List Str := ["prices"]
abbrev s29 : Stmt := (topS 35)
abbrev N29 : List Str := ["prices", "way", "low", "own"]
abbrev P29 : List Str := ["prices"]
abbrev s30 : Stmt := (topS 36)
abbrev N30 : List Str := ["many", "rows", "columns", "word", "found", "row"]
abbrev P30 : List Str := ["many", "rows"]
abbrev s31 : Stmt := (topS 37)
abbrev N31 : List Str := ["spot", "way", "row", "falls", "here", "long", "own", "by"]
abbrev P31 : List Str := ["spot", "way", "row"]
abbrev s32 : Stmt := (topS 38)
abbrev N32 : List Str := ["rows", "row", "at", "own", "by", "to"]
abbrev P32 : List Str := ["rows", "row"]
abbrev s33 : Stmt := (topS 39)
abbrev N33 : List Str := ["many", "rows", "row", "quick", "columns", "word", "found", "times", "spot", "way", "low", "own"]
abbrev P33 : List Str := ["many", "rows", "row"]
abbrev s34 : Stmt := (topS 40)
abbrev N34 : List Str := ["many", "rows", "row"]
abbrev P34 : List Str := ["many", "rows", "row"]
abbrev s35 : Stmt := (topS 41)
abbrev N35 : List Str := ["many", "rows", "times", "spot"]
abbrev P35 : List Str := ["many", "rows"]
abbrev s36 : Stmt := (topS 43)
abbrev N36 : List Str := ["script", "place", "cell", "own", "small"]
abbrev P36 : List Str := ["script", "place"]
abbrev s37 : Stmt := (topS 44)
abbrev N37 : List Str := ["pot", "upto", "digit", "prime", "blend"]
abbrev P37 : List Str := ["pot", "upto"]
abbrev s38 : Stmt := (topS 45)
abbrev N38 : List Str := ["script", "most"]
abbrev P38 : List Str := ["script", "most"]
abbrev s39 : Stmt := (topS 46)
abbrev N39 : List Str := ["pot", "many", "at"]
abbrev P39 : List Str := ["pot", "many"]
abbrev s40 : Stmt := (topS 47)
abbrev N40 : List Str := ["pot", "rows", "many", "found", "row", "times", "one", "own"]
abbrev P40 : List Str := ["pot", "rows", "many"]
abbrev s41 : Stmt := (topS 48)
abbrev N41 : List Str := ["row", "spot", "low", "top", "own", "by"]
abbrev P41 : List Str := ["row", "spot"]
abbrev s42 : Stmt := (topS 49)
abbrev N42 : List Str := ["pot", "many", "rows", "one", "two", "spot", "asked", "told", "lap", "row"]
abbrev P42 : List Str := ["pot"]
abbrev s43 : Stmt := (topS 50)
abbrev N43 : List Str := ["script", "place", "pot", "lap"]
abbrev P43 : List Str := ["script"]
def anL : List Str := [("solve" : Str), ("own_many" : Str), ("own_high" : Str), ("first_cost" : Str), ("own_cost" : Str), ("own_basis" : Str), ("first_row" : Str), ("own_rows" : Str), ("own_signs" : Str), ("entering" : Str), ("turn" : Str), ("leaving" : Str), ("is_solved" : Str), ("parts" : Str), ("prices" : Str)]
def psL : List (List Str) := [P0, P1, P2, P3, P4, P5, P6, P7, P8, P9, P10, P11, P12, P13, P14, P15, P16, P17, P18, P19, P20, P21, P22, P23, P24, P25, P26, P27, P28, P29, P30, P31, P32, P33, P34, P35, P36, P37, P38, P39, P40, P41, P42, P43]
def anF (i : Nat) : Str := (nth anL i).getD ""
def tb (K : PySem.W.Frag) (ca : Nat → Addr) : Tb := ⟨K, anF, ca, gg⟩
def fs (fa : Nat → Addr) (fd : Nat → FuncData) : Fs := ⟨fa, fd, fun i => (nth psL i).getD []⟩
/-- what the module's names stand for -/
structure GOk (mg : Str → Option Value) (K : PySem.W.Frag) (ca : Nat → Addr) (fa : Nat → Addr) : Prop where
  f_is_integer : mg "is_integer" = some (.ref (fa 0))
  f_is_between : mg "is_between" = some (.ref (fa 1))
  f_common : mg "common" = some (.ref (fa 2))
  f_reduced : mg "reduced" = some (.ref (fa 3))
  f_added : mg "added" = some (.ref (fa 4))
  f_difference : mg "difference" = some (.ref (fa 5))
  f_product : mg "product" = some (.ref (fa 6))
  f_quotient : mg "quotient" = some (.ref (fa 7))
  f_less : mg "less" = some (.ref (fa 8))
  f_less_by : mg "less_by" = some (.ref (fa 19))
  f_parts_for : mg "parts_for" = some (.ref (fa 20))
  f_is_row : mg "is_row" = some (.ref (fa 21))
  f_check_rows : mg "check_rows" = some (.ref (fa 22))
  f_check_following : mg "check_following" = some (.ref (fa 23))
  f_whole : mg "whole" = some (.ref (fa 24))
  f_column_of : mg "column_of" = some (.ref (fa 25))
  f_rest_column : mg "rest_column" = some (.ref (fa 26))
  f_value_at : mg "value_at" = some (.ref (fa 27))
  f_turned_prices : mg "turned_prices" = some (.ref (fa 28))
  f_spot_of : mg "spot_of" = some (.ref (fa 29))
  f_some_spot : mg "some_spot" = some (.ref (fa 30))
  f_spot_along : mg "spot_along" = some (.ref (fa 31))
  f_quick_times : mg "quick_times" = some (.ref (fa 32))
  f_told_following : mg "told_following" = some (.ref (fa 33))
  f_follows : mg "follows" = some (.ref (fa 34))
  f_holds_somewhere : mg "holds_somewhere" = some (.ref (fa 35))
  f__law_pot : mg "_law_pot" = some (.ref (fa 36))
  f__law_take : mg "_law_take" = some (.ref (fa 37))
  f__law_cells : mg "_law_cells" = some (.ref (fa 38))
  f__law_row : mg "_law_row" = some (.ref (fa 39))
  f__law_together : mg "_law_together" = some (.ref (fa 40))
  f__law_at : mg "_law_at" = some (.ref (fa 41))
  f__law_right : mg "_law_right" = some (.ref (fa 42))
  f_law : mg "law" = some (.ref (fa 43))
  c_Tableau : mg "Tableau" = some (.ref (ca 0))
  n_abs : mg "abs" = none
  n_all : mg "all" = none
  n_bool : mg "bool" = none
  n_enumerate : mg "enumerate" = none
  n_int : mg "int" = none
  n_isinstance : mg "isinstance" = none
  n_len : mg "len" = none
  n_list : mg "list" = none
  n_max : mg "max" = none
  n_min : mg "min" = none
  n_range : mg "range" = none
  n_sum : mg "sum" = none
  n_tuple : mg "tuple" = none
  n_zip : mg "zip" = none
  k_MOST_COLUMNS : ∃ (v : V) (u : Value), mg "MOST_COLUMNS" = some u ∧ RelV v u ∧ ∀ ι H, RelD K ι H (.int 24) v
  k_MOST_ROWS : ∃ (v : V) (u : Value), mg "MOST_ROWS" = some u ∧ RelV v u ∧ ∀ ι H, RelD K ι H (.int 60) v
  k_NEVER : ∃ (v : V) (u : Value), mg "NEVER" = some u ∧ RelV v u ∧ ∀ ι H, RelD K ι H (.str [110, 101, 118, 101, 114]) v
  k_NOTHING : ∃ (v : V) (u : Value), mg "NOTHING" = some u ∧ RelV v u ∧ ∀ ι H, RelD K ι H (.tup [.int 0, .int 1]) v
  k_ONE : ∃ (v : V) (u : Value), mg "ONE" = some u ∧ RelV v u ∧ ∀ ι H, RelD K ι H (.tup [.int 1, .int 1]) v
  k_SPOT : ∃ (v : V) (u : Value), mg "SPOT" = some u ∧ RelV v u ∧ ∀ ι H, RelD K ι H (.str [115, 112, 111, 116]) v
  k_TIMES : ∃ (v : V) (u : Value), mg "TIMES" = some u ∧ RelV v u ∧ ∀ ι H, RelD K ι H (.str [116, 105, 109, 101, 115]) v
section
variable {Pg : Program} {w : World} {mg : Str → Option Value} {base : Heap} {K : PySem.W.Frag} {ca fa : Nat → Addr} {fd : Nat → FuncData} {lf k : Nat}
theorem sc0 : FnScope N0 P0 (defScope s0) := ⟨rfl, rfl, rfl, by decide +kernel, rfl, by decide +kernel, by decide +kernel⟩
theorem der0 (G : GOk mg K ca fa) (cd : Value) (A : Around) (outer : List PySem.Env) (s : Shared) (H : HpA) (E : XK) (B : BOk (cxOf CX0 Pg w K mg base N0 "is_integer" (defScope s0) (fa 0) cd A outer s H E).nox (pmAt (tb K ca) lf k) (fs fa fd) k) : PSs (cxOf CX0 Pg w K mg base N0 "is_integer" (defScope s0) (fa 0) cd A outer s H E).nox (defBody s0) (dS (pmAt (tb K ca) lf k) b0) :=
  have sc := sc0
  (ss_cons (s_ret (d_and (d_isi B (ty := 0) (by decide) G.n_isinstance G.n_int (by decide +kernel) rfl rfl (d_slot 0)) (pe_one (d_not B.x (d_isi B (ty := 1) (by decide) G.n_isinstance G.n_bool (by decide +kernel) rfl rfl (d_slot 0)))))) ss_nil)
theorem sc1 : FnScope N1 P1 (defScope s1) := ⟨rfl, rfl, rfl, by decide +kernel, rfl, by decide +kernel, by decide +kernel⟩
theorem der1 (G : GOk mg K ca fa) (cd : Value) (A : Around) (outer : List PySem.Env) (s : Shared) (H : HpA) (E : XK) (B : BOk (cxOf CX0 Pg w K mg base N1 "is_between" (defScope s1) (fa 1) cd A outer s H E).nox (pmAt (tb K ca) lf k) (fs fa fd) k) : PSs (cxOf CX0 Pg w K mg base N1 "is_between" (defScope s1) (fa 1) cd A outer s H E).nox (defBody s1) (dS (pmAt (tb K ca) lf k) b1) :=
  have sc := sc1
  (ss_cons (s_ret (d_and (d_call B (f := 0) rfl G.f_is_integer rfl (a_cons (d_slot 0) a_nil)) (pe_one (d_chain B.x .le .le (d_slot 1) (d_slot 0) (d_slot 2))))) ss_nil)
theorem sc2 : FnScope N2 P2 (defScope s2) := ⟨rfl, rfl, rfl, by decide +kernel, rfl, by decide +kernel, by decide +kernel⟩
theorem der2 (G : GOk mg K ca fa) (cd : Value) (A : Around) (outer : List PySem.Env) (s : Shared) (H : HpA) (E : XK) (B : BOk (cxOf CX0 Pg w K mg base N2 "common" (defScope s2) (fa 2) cd A outer s H E).nox (pmAt (tb K ca) lf k) (fs fa fd) k) : PSs (cxOf CX0 Pg w K mg base N2 "common" (defScope s2) (fa 2) cd A outer s H E).nox (defBody s2) (dS (pmAt (tb K ca) lf k) b2) :=
  have sc := sc2
  (ss_cons (s_whl B PassesOwn.never (t_cmp B.x .ne (d_slot 1) d_int (nmk .ne _)) (ss_cons (s_par B (i := 0) (j := 1) sc.nd rfl rfl (by decide) rfl rfl (d_slot 1) (d_bin B.x .mod (d_slot 0) (d_slot 1)) (by rfl)) ss_nil)) (ss_cons (s_ret (d_bltB B (bi := 1) rfl G.n_abs (by decide +kernel) rfl (a_cons (d_slot 0) a_nil))) ss_nil))
theorem sc3 : FnScope N3 P3 (defScope s3) := ⟨rfl, rfl, rfl, by decide +kernel, rfl, by decide +kernel, by decide +kernel⟩
theorem der3 (G : GOk mg K ca fa) (cd : Value) (A : Around) (outer : List PySem.Env) (s : Shared) (H : HpA) (E : XK) (B : BOk (cxOf CX0 Pg w K mg base N3 "reduced" (defScope s3) (fa 3) cd A outer s H E).nox (pmAt (tb K ca) lf k) (fs fa fd) k) : PSs (cxOf CX0 Pg w K mg base N3 "reduced" (defScope s3) (fa 3) cd A outer s H E).nox (defBody s3) (dS (pmAt (tb K ca) lf k) b3) :=
  have sc := sc3
  (ss_cons (s_set (i := 2) sc.nd rfl (by first | exact Or.inl rfl | exact Or.inr rfl) (d_ite (t_cmp B.x .gt (d_slot 1) d_int (nmk .gt _)) (d_call B (f := 2) rfl G.f_common rfl (a_cons (d_slot 0) (a_cons (d_slot 1) a_nil))) (d_bin B.x .sub d_int (d_call B (f := 2) rfl G.f_common rfl (a_cons (d_slot 0) (a_cons (d_slot 1) a_nil)))))) (ss_cons (s_ret (d_tup (a_cons (d_bin B.x .fdiv (d_slot 0) (d_slot 2)) (a_cons (d_bin B.x .fdiv (d_slot 1) (d_slot 2)) a_nil)))) ss_nil))
theorem sc4 : FnScope N4 P4 (defScope s4) := ⟨rfl, rfl, rfl, by decide +kernel, rfl, by decide +kernel, by decide +kernel⟩
theorem der4 (G : GOk mg K ca fa) (cd : Value) (A : Around) (outer : List PySem.Env) (s : Shared) (H : HpA) (E : XK) (B : BOk (cxOf CX0 Pg w K mg base N4 "added" (defScope s4) (fa 4) cd A outer s H E).nox (pmAt (tb K ca) lf k) (fs fa fd) k) : PSs (cxOf CX0 Pg w K mg base N4 "added" (defScope s4) (fa 4) cd A outer s H E).nox (defBody s4) (dS (pmAt (tb K ca) lf k) b4) :=
  have sc := sc4
  (ss_cons (s_ret (d_call B (f := 3) rfl G.f_reduced rfl (a_cons (d_bin B.x .add (d_bin B.x .mul (d_idx B.x (d_slot 0) d_int (fun _ _ => rfl)) (d_idx B.x (d_slot 1) d_int (fun _ _ => rfl))) (d_bin B.x .mul (d_idx B.x (d_slot 1) d_int (fun _ _ => rfl)) (d_idx B.x (d_slot 0) d_int (fun _ _ => rfl)))) (a_cons (d_bin B.x .mul (d_idx B.x (d_slot 0) d_int (fun _ _ => rfl)) (d_idx B.x (d_slot 1) d_int (fun _ _ => rfl))) a_nil)))) ss_nil)
theorem sc5 : FnScope N5 P5 (defScope s5) := ⟨rfl, rfl, rfl, by decide +kernel, rfl, by decide +kernel, by decide +kernel⟩
theorem der5 (G : GOk mg K ca fa) (cd : Value) (A : Around) (outer : List PySem.Env) (s : Shared) (H : HpA) (E : XK) (B : BOk (cxOf CX0 Pg w K mg base N5 "difference" (defScope s5) (fa 5) cd A outer s H E).nox (pmAt (tb K ca) lf k) (fs fa fd) k) : PSs (cxOf CX0 Pg w K mg base N5 "difference" (defScope s5) (fa 5) cd A outer s H E).nox (defBody s5) (dS (pmAt (tb K ca) lf k) b5) :=
  have sc := sc5
  (ss_cons (s_ret (d_call B (f := 3) rfl G.f_reduced rfl (a_cons (d_bin B.x .sub (d_bin B.x .mul (d_idx B.x (d_slot 0) d_int (fun _ _ => rfl)) (d_idx B.x (d_slot 1) d_int (fun _ _ => rfl))) (d_bin B.x .mul (d_idx B.x (d_slot 1) d_int (fun _ _ => rfl)) (d_idx B.x (d_slot 0) d_int (fun _ _ => rfl)))) (a_cons (d_bin B.x .mul (d_idx B.x (d_slot 0) d_int (fun _ _ => rfl)) (d_idx B.x (d_slot 1) d_int (fun _ _ => rfl))) a_nil)))) ss_nil)
theorem sc6 : FnScope N6 P6 (defScope s6) := ⟨rfl, rfl, rfl, by decide +kernel, rfl, by decide +kernel, by decide +kernel⟩
theorem der6 (G : GOk mg K ca fa) (cd : Value) (A : Around) (outer : List PySem.Env) (s : Shared) (H : HpA) (E : XK) (B : BOk (cxOf CX0 Pg w K mg base N6 "product" (defScope s6) (fa 6) cd A outer s H E).nox (pmAt (tb K ca) lf k) (fs fa fd) k) : PSs (cxOf CX0 Pg w K mg base N6 "product" (defScope s6) (fa 6) cd A outer s H E).nox (defBody s6) (dS (pmAt (tb K ca) lf k) b6) :=
  have sc := sc6
  (ss_cons (s_ret (d_call B (f := 3) rfl G.f_reduced rfl (a_cons (d_bin B.x .mul (d_idx B.x (d_slot 0) d_int (fun _ _ => rfl)) (d_idx B.x (d_slot 1) d_int (fun _ _ => rfl))) (a_cons (d_bin B.x .mul (d_idx B.x (d_slot 0) d_int (fun _ _ => rfl)) (d_idx B.x (d_slot 1) d_int (fun _ _ => rfl))) a_nil)))) ss_nil)
theorem sc7 : FnScope N7 P7 (defScope s7) := ⟨rfl, rfl, rfl, by decide +kernel, rfl, by decide +kernel, by decide +kernel⟩
theorem der7 (G : GOk mg K ca fa) (cd : Value) (A : Around) (outer : List PySem.Env) (s : Shared) (H : HpA) (E : XK) (B : BOk (cxOf CX0 Pg w K mg base N7 "quotient" (defScope s7) (fa 7) cd A outer s H E).nox (pmAt (tb K ca) lf k) (fs fa fd) k) : PSs (cxOf CX0 Pg w K mg base N7 "quotient" (defScope s7) (fa 7) cd A outer s H E).nox (defBody s7) (dS (pmAt (tb K ca) lf k) b7) :=
  have sc := sc7
  (ss_cons (s_ret (d_call B (f := 3) rfl G.f_reduced rfl (a_cons (d_bin B.x .mul (d_idx B.x (d_slot 0) d_int (fun _ _ => rfl)) (d_idx B.x (d_slot 1) d_int (fun _ _ => rfl))) (a_cons (d_bin B.x .mul (d_idx B.x (d_slot 0) d_int (fun _ _ => rfl)) (d_idx B.x (d_slot 1) d_int (fun _ _ => rfl))) a_nil)))) ss_nil)
theorem sc8 : FnScope N8 P8 (defScope s8) := ⟨rfl, rfl, rfl, by decide +kernel, rfl, by decide +kernel, by decide +kernel⟩
theorem der8 (G : GOk mg K ca fa) (cd : Value) (A : Around) (outer : List PySem.Env) (s : Shared) (H : HpA) (E : XK) (B : BOk (cxOf CX0 Pg w K mg base N8 "less" (defScope s8) (fa 8) cd A outer s H E).nox (pmAt (tb K ca) lf k) (fs fa fd) k) : PSs (cxOf CX0 Pg w K mg base N8 "less" (defScope s8) (fa 8) cd A outer s H E).nox (defBody s8) (dS (pmAt (tb K ca) lf k) b8) :=
  have sc := sc8
  (ss_cons (s_ret (d_cmp B.x .lt (d_bin B.x .mul (d_idx B.x (d_slot 0) d_int (fun _ _ => rfl)) (d_idx B.x (d_slot 1) d_int (fun _ _ => rfl))) (d_bin B.x .mul (d_idx B.x (d_slot 1) d_int (fun _ _ => rfl)) (d_idx B.x (d_slot 0) d_int (fun _ _ => rfl))) (nmk .lt _))) ss_nil)
theorem sc9 : FnScope N9 P9 (defScope s9) := ⟨rfl, rfl, rfl, by decide +kernel, rfl, by decide +kernel, by decide +kernel⟩
theorem der9 (G : GOk mg K ca fa) (cd : Value) (A : Around) (outer : List PySem.Env) (s : Shared) (H : HpA) (E : XK) (B : BOk (cxOf CX0 Pg w K mg base N9 "Tableau.__init__" (defScope s9) (fa 9) cd A outer s H E).nox (pmAt (tb K ca) lf k) (fs fa fd) k) : PSs (cxOf CX0 Pg w K mg base N9 "Tableau.__init__" (defScope s9) (fa 9) cd A outer s H E).nox (defBody s9) (dS (pmAt (tb K ca) lf k) b9) :=
  have sc := sc9
  (ss_cons (s_fld B (fi := 1) rfl (d_slot 0) (d_bltB B (bi := 0) rfl G.n_len (by decide +kernel) rfl (a_cons (d_slot 1) a_nil))) (ss_cons (s_fld B (fi := 2) rfl (d_slot 0) (d_bltB B (bi := 0) rfl G.n_len (by decide +kernel) rfl (a_cons (d_slot 2) a_nil))) (ss_cons (s_fld B (fi := 8) rfl (d_slot 0) (d_comp B (own := [("own", 3)]) rfl (by decide) sc.nd (i_seq B (d_slot 2)) (blkOk_by (by kernel_rfl)) (fun _ _ _ _ _ => (g_name (i := 3) sc.nd rfl (by first | exact Or.inl rfl | exact Or.inr rfl))) (fun _ _ _ _ _ => ts_nil) (fun _ _ _ _ _ => (d_ite (t_cmp (B.blk _ _ _ _ _).x .ge (d_slot 3) d_int (nmk .ge _)) d_int (d_neg d_int))))) (ss_cons (s_fld B (fi := 7) rfl (d_slot 0) (d_comp B (own := [("at", 4)]) rfl (by decide) sc.nd (i_rng1 G.n_range rfl (d_fldB B (f := 2) rfl (d_slot 0))) (blkOk_by (by kernel_rfl)) (fun _ _ _ _ _ => (g_name (i := 4) sc.nd rfl (by first | exact Or.inl rfl | exact Or.inr rfl))) (fun _ _ _ _ _ => ts_nil) (fun _ _ _ _ _ => (d_meth (B.blk _ _ _ _ _) (mi := 6) rfl (d_slot 0) (a_cons (d_slot 1) (a_cons (d_slot 2) (a_cons (d_slot 4) a_nil))))))) (ss_cons (s_fld B (fi := 5) rfl (d_slot 0) (d_comp B (own := [("at", 4)]) rfl (by decide) sc.nd (i_rng1 G.n_range rfl (d_fldB B (f := 2) rfl (d_slot 0))) (blkOk_by (by kernel_rfl)) (fun _ _ _ _ _ => (g_name (i := 4) sc.nd rfl (by first | exact Or.inl rfl | exact Or.inr rfl))) (fun _ _ _ _ _ => ts_nil) (fun _ _ _ _ _ => (d_bin (B.blk _ _ _ _ _).x .add (d_fldB (B.blk _ _ _ _ _) (f := 1) rfl (d_slot 0)) (d_slot 4))))) (ss_cons (s_fld B (fi := 4) rfl (d_slot 0) (d_comp B (own := [("place", 5)]) rfl (by decide) sc.nd (i_rng1 G.n_range rfl (d_bin B.x .add (d_bin B.x .add (d_fldB B (f := 1) rfl (d_slot 0)) (d_fldB B (f := 2) rfl (d_slot 0))) d_int)) (blkOk_by (by kernel_rfl)) (fun _ _ _ _ _ => (g_name (i := 5) sc.nd rfl (by first | exact Or.inl rfl | exact Or.inr rfl))) (fun _ _ _ _ _ => ts_nil) (fun _ _ _ _ _ => (d_meth (B.blk _ _ _ _ _) (mi := 3) rfl (d_slot 0) (a_cons (d_slot 5) a_nil))))) (ss_cons (s_exp (d_meth0 B (mi := 0) rfl (d_slot 0))) ss_nil)))))))
theorem sc10 : FnScope N10 P10 (defScope s10) := ⟨rfl, rfl, rfl, by decide +kernel, rfl, by decide +kernel, by decide +kernel⟩
theorem der10 (G : GOk mg K ca fa) (cd : Value) (A : Around) (outer : List PySem.Env) (s : Shared) (H : HpA) (E : XK) (B : BOk (cxOf CX0 Pg w K mg base N10 "Tableau.first_row" (defScope s10) (fa 10) cd A outer s H E).nox (pmAt (tb K ca) lf k) (fs fa fd) k) : PSs (cxOf CX0 Pg w K mg base N10 "Tableau.first_row" (defScope s10) (fa 10) cd A outer s H E).nox (defBody s10) (dS (pmAt (tb K ca) lf k) b10) :=
  have sc := sc10
  (ss_cons (s_set (i := 4) sc.nd rfl (by first | exact Or.inl rfl | exact Or.inr rfl) (d_idx B.x (d_fldB B (f := 8) rfl (d_slot 0)) (d_slot 3) (fun _ _ => rfl))) (ss_cons (s_setLc B (i := 5) (own := [("column", 6)]) rfl (by decide) sc.nd rfl rfl (sw_true rfl rfl rfl (by kernel_rfl)) (i_seq B (d_slot 1)) (blkOk_by (by kernel_rfl)) (fun _ _ _ _ _ => (g_name (i := 6) sc.nd rfl (by first | exact Or.inl rfl | exact Or.inr rfl))) (fun _ _ _ _ _ => ts_nil) (fun _ _ _ _ _ => (d_tup (a_cons (d_bin (B.blk _ _ _ _ _).x .mul (d_slot 4) (d_idx (B.blk _ _ _ _ _).x (d_slot 6) (d_slot 3) (fun _ _ => rfl))) (a_cons d_int a_nil))))) (ss_cons (s_exp (d_ext B (d_slot 5) (d_comp B (own := [("to", 7)]) rfl (by decide) sc.nd (i_rng1 G.n_range rfl (d_bltB B (bi := 0) rfl G.n_len (by decide +kernel) rfl (a_cons (d_slot 2) a_nil))) (blkOk_by (by kernel_rfl)) (fun _ _ _ _ _ => (g_name (i := 7) sc.nd rfl (by first | exact Or.inl rfl | exact Or.inr rfl))) (fun _ _ _ _ _ => ts_nil) (fun _ _ _ _ _ => (d_tup (a_cons (d_bltT (B.blk _ _ _ _ _) (bi := 2) rfl G.n_int (by decide +kernel) rfl (a_cons (d_cmp (B.blk _ _ _ _ _).x .eq (d_slot 7) (d_slot 3) (nmk .eq _)) a_nil)) (a_cons d_int a_nil))))))) (ss_cons (s_ret (d_lst (a_star B.x (d_slot 5) (a_cons (d_tup (a_cons (d_bin B.x .mul (d_slot 4) (d_idx B.x (d_slot 2) (d_slot 3) (fun _ _ => rfl))) (a_cons d_int a_nil))) a_nil)))) ss_nil))))
theorem sc11 : FnScope N11 P11 (defScope s11) := ⟨rfl, rfl, rfl, by decide +kernel, rfl, by decide +kernel, by decide +kernel⟩
theorem der11 (G : GOk mg K ca fa) (cd : Value) (A : Around) (outer : List PySem.Env) (s : Shared) (H : HpA) (E : XK) (B : BOk (cxOf CX0 Pg w K mg base N11 "Tableau.first_cost" (defScope s11) (fa 11) cd A outer s H E).nox (pmAt (tb K ca) lf k) (fs fa fd) k) : PSs (cxOf CX0 Pg w K mg base N11 "Tableau.first_cost" (defScope s11) (fa 11) cd A outer s H E).nox (defBody s11) (dS (pmAt (tb K ca) lf k) b11) :=
  have sc := sc11
  (ss_cons (s_if (t_chain B.x .le .lt (d_fldB B (f := 1) rfl (d_slot 0)) (d_slot 1) (d_bin B.x .add (d_fldB B (f := 1) rfl (d_slot 0)) (d_fldB B (f := 2) rfl (d_slot 0)))) (ss_cons (s_ret (d_globE G.k_NOTHING rfl)) ss_nil) ss_nil) (ss_cons (s_set (i := 2) sc.nd rfl (by first | exact Or.inl rfl | exact Or.inr rfl) (d_globE G.k_NOTHING rfl)) (ss_cons (s_for B PassesOwn.never (i_seq B (d_fldB B (f := 7) rfl (d_slot 0))) (g_name (i := 3) sc.nd rfl (by first | exact Or.inl rfl | exact Or.inr rfl)) (ss_cons (s_set (i := 2) sc.nd rfl (by first | exact Or.inl rfl | exact Or.inr rfl) (d_call B (f := 5) rfl G.f_difference rfl (a_cons (d_slot 2) (a_cons (d_idx B.x (d_slot 3) (d_slot 1) (fun _ _ => rfl)) a_nil)))) ss_nil)) (ss_cons (s_ret (d_slot 2)) ss_nil))))
theorem sc12 : FnScope N12 P12 (defScope s12) := ⟨rfl, rfl, rfl, by decide +kernel, rfl, by decide +kernel, by decide +kernel⟩
theorem der12 (G : GOk mg K ca fa) (cd : Value) (A : Around) (outer : List PySem.Env) (s : Shared) (H : HpA) (E : XK) (B : BOk (cxOf CX0 Pg w K mg base N12 "Tableau.solve" (defScope s12) (fa 12) cd A outer s H E).nox (pmAt (tb K ca) lf k) (fs fa fd) k) : PSs (cxOf CX0 Pg w K mg base N12 "Tableau.solve" (defScope s12) (fa 12) cd A outer s H E).nox (defBody s12) (dS (pmAt (tb K ca) lf k) b12) :=
  have sc := sc12
  (ss_cons (s_set (i := 1) sc.nd rfl (by first | exact Or.inl rfl | exact Or.inr rfl) (d_meth0 B (mi := 9) rfl (d_slot 0))) (ss_cons (s_whl B PassesOwn.never (t_cmp B.x .isn (d_slot 1) d_non (nmk .isn _)) (ss_cons (s_exp (d_meth B (mi := 10) rfl (d_slot 0) (a_cons (d_meth B (mi := 11) rfl (d_slot 0) (a_cons (d_slot 1) a_nil)) (a_cons (d_slot 1) a_nil)))) (ss_cons (s_set (i := 1) sc.nd rfl (by first | exact Or.inl rfl | exact Or.inr rfl) (d_meth0 B (mi := 9) rfl (d_slot 0))) ss_nil))) ss_nil))
theorem sc13 : FnScope N13 P13 (defScope s13) := ⟨rfl, rfl, rfl, by decide +kernel, rfl, by decide +kernel, by decide +kernel⟩
theorem der13 (G : GOk mg K ca fa) (cd : Value) (A : Around) (outer : List PySem.Env) (s : Shared) (H : HpA) (E : XK) (B : BOk (cxOf CX0 Pg w K mg base N13 "Tableau.entering" (defScope s13) (fa 13) cd A outer s H E).nox (pmAt (tb K ca) lf k) (fs fa fd) k) : PSs (cxOf CX0 Pg w K mg base N13 "Tableau.entering" (defScope s13) (fa 13) cd A outer s H E).nox (defBody s13) (dS (pmAt (tb K ca) lf k) b13) :=
  have sc := sc13
  (ss_cons (s_for B PassesOwn.never (i_rng1 G.n_range rfl (d_fldB B (f := 1) rfl (d_slot 0))) (g_name (i := 1) sc.nd rfl (by first | exact Or.inl rfl | exact Or.inr rfl)) (ss_cons (s_if (t_cmp B.x .lt (d_idx B.x (d_idx B.x (d_fldB B (f := 4) rfl (d_slot 0)) (d_slot 1) (fun _ _ => rfl)) d_int (fun _ _ => rfl)) d_int (nmk .lt _)) (ss_cons (s_ret (d_slot 1)) ss_nil) ss_nil) ss_nil)) (ss_cons (s_ret d_non) ss_nil))
theorem sc14 : FnScope N14 P14 (defScope s14) := ⟨rfl, rfl, rfl, by decide +kernel, rfl, by decide +kernel, by decide +kernel⟩
theorem der14 (G : GOk mg K ca fa) (cd : Value) (A : Around) (outer : List PySem.Env) (s : Shared) (H : HpA) (E : XK) (B : BOk (cxOf CX0 Pg w K mg base N14 "Tableau.leaving" (defScope s14) (fa 14) cd A outer s H E).nox (pmAt (tb K ca) lf k) (fs fa fd) k) : PSs (cxOf CX0 Pg w K mg base N14 "Tableau.leaving" (defScope s14) (fa 14) cd A outer s H E).nox (defBody s14) (dS (pmAt (tb K ca) lf k) b14) :=
  have sc := sc14
  (ss_cons (s_set (i := 2) sc.nd rfl (by first | exact Or.inl rfl | exact Or.inr rfl) d_non) (ss_cons (s_for B PassesOwn.never (i_enum B G.n_enumerate rfl (d_fldB B (f := 7) rfl (d_slot 0))) (g_tup B (gs_cons (g_name (i := 3) sc.nd rfl (by first | exact Or.inl rfl | exact Or.inr rfl)) (gs_cons (g_name (i := 4) sc.nd rfl (by first | exact Or.inl rfl | exact Or.inr rfl)) gs_nil))) (ss_cons (s_if (t_cmp B.x .gt (d_idx B.x (d_idx B.x (d_slot 4) (d_slot 1) (fun _ _ => rfl)) d_int (fun _ _ => rfl)) d_int (nmk .gt _)) (ss_cons (s_set (i := 5) sc.nd rfl (by first | exact Or.inl rfl | exact Or.inr rfl) (d_tup (a_cons (d_call B (f := 7) rfl G.f_quotient rfl (a_cons (d_idx B.x (d_slot 4) (d_neg d_int) (fun _ _ => rfl)) (a_cons (d_idx B.x (d_slot 4) (d_slot 1) (fun _ _ => rfl)) a_nil))) (a_cons (d_idx B.x (d_fldB B (f := 5) rfl (d_slot 0)) (d_slot 3) (fun _ _ => rfl)) (a_cons (d_slot 3) a_nil))))) (ss_cons (s_if (PW.pt (w_or (t_cmp B.x .is (d_slot 2) d_non (nmk .is _)) (w_or (t_val B.x (d_call B (f := 8) rfl G.f_less rfl (a_cons (d_idx B.x (d_slot 5) d_int (fun _ _ => rfl)) (a_cons (d_idx B.x (d_slot 2) d_int (fun _ _ => rfl)) a_nil)))) (pw_or1 (PW.pt (w_and (t_cmp B.x .eq (d_idx B.x (d_slot 5) d_int (fun _ _ => rfl)) (d_idx B.x (d_slot 2) d_int (fun _ _ => rfl)) (nmk .eq _)) (pw_and1 (t_cmp B.x .lt (d_idx B.x (d_slot 5) d_int (fun _ _ => rfl)) (d_idx B.x (d_slot 2) d_int (fun _ _ => rfl)) (nmk .lt _))))))))) (ss_cons (s_set (i := 2) sc.nd rfl (by first | exact Or.inl rfl | exact Or.inr rfl) (d_slot 5)) ss_nil) ss_nil) ss_nil)) ss_nil) ss_nil)) (ss_cons (s_ret (d_idx B.x (d_slot 2) d_int (fun _ _ => rfl))) ss_nil)))
theorem sc15 : FnScope N15 P15 (defScope s15) := ⟨rfl, rfl, rfl, by decide +kernel, rfl, by decide +kernel, by decide +kernel⟩
theorem der15 (G : GOk mg K ca fa) (cd : Value) (A : Around) (outer : List PySem.Env) (s : Shared) (H : HpA) (E : XK) (B : BOk (cxOf CX0 Pg w K mg base N15 "Tableau.turn" (defScope s15) (fa 15) cd A outer s H E).nox (pmAt (tb K ca) lf k) (fs fa fd) k) : PSs (cxOf CX0 Pg w K mg base N15 "Tableau.turn" (defScope s15) (fa 15) cd A outer s H E).nox (defBody s15) (dS (pmAt (tb K ca) lf k) b15) :=
  have sc := sc15
  (ss_cons (s_set (i := 3) sc.nd rfl (by first | exact Or.inl rfl | exact Or.inr rfl) (d_idx B.x (d_idx B.x (d_fldB B (f := 7) rfl (d_slot 0)) (d_slot 1) (fun _ _ => rfl)) (d_slot 2) (fun _ _ => rfl))) (ss_cons (s_sub B (d_comp B (own := [("one", 5)]) rfl (by decide) sc.nd (i_seq B (d_idx B.x (d_fldB B (f := 7) rfl (d_slot 0)) (d_slot 1) (fun _ _ => rfl))) (blkOk_by (by kernel_rfl)) (fun _ _ _ _ _ => (g_name (i := 5) sc.nd rfl (by first | exact Or.inl rfl | exact Or.inr rfl))) (fun _ _ _ _ _ => ts_nil) (fun _ _ _ _ _ => (d_ite (t_cmp (B.blk _ _ _ _ _).x .ne (d_idx (B.blk _ _ _ _ _).x (d_slot 5) d_int (fun _ _ => rfl)) d_int (nmk .ne _)) (d_call (B.blk _ _ _ _ _) (f := 7) rfl G.f_quotient rfl (a_cons (d_slot 5) (a_cons (d_slot 3) a_nil))) (d_slot 5)))) (d_fldB B (f := 7) rfl (d_slot 0)) (d_slot 1)) (ss_cons (s_for B PassesOwn.never (i_rng1 G.n_range rfl (d_fldB B (f := 2) rfl (d_slot 0))) (g_name (i := 4) sc.nd rfl (by first | exact Or.inl rfl | exact Or.inr rfl)) (ss_cons (s_if (t_cmp B.x .ne (d_slot 4) (d_slot 1) (nmk .ne _)) (ss_cons (s_sub B (d_call B (f := 19) rfl G.f_less_by rfl (a_cons (d_idx B.x (d_fldB B (f := 7) rfl (d_slot 0)) (d_slot 4) (fun _ _ => rfl)) (a_cons (d_idx B.x (d_fldB B (f := 7) rfl (d_slot 0)) (d_slot 1) (fun _ _ => rfl)) (a_cons (d_slot 2) a_nil)))) (d_fldB B (f := 7) rfl (d_slot 0)) (d_slot 4)) ss_nil) ss_nil) ss_nil)) (ss_cons (s_fld B (fi := 4) rfl (d_slot 0) (d_call B (f := 19) rfl G.f_less_by rfl (a_cons (d_fldB B (f := 4) rfl (d_slot 0)) (a_cons (d_idx B.x (d_fldB B (f := 7) rfl (d_slot 0)) (d_slot 1) (fun _ _ => rfl)) (a_cons (d_slot 2) a_nil))))) (ss_cons (s_sub B (d_slot 2) (d_fldB B (f := 5) rfl (d_slot 0)) (d_slot 1)) ss_nil)))))
theorem sc16 : FnScope N16 P16 (defScope s16) := ⟨rfl, rfl, rfl, by decide +kernel, rfl, by decide +kernel, by decide +kernel⟩
theorem der16 (G : GOk mg K ca fa) (cd : Value) (A : Around) (outer : List PySem.Env) (s : Shared) (H : HpA) (E : XK) (B : BOk (cxOf CX0 Pg w K mg base N16 "Tableau.is_solved" (defScope s16) (fa 16) cd A outer s H E).nox (pmAt (tb K ca) lf k) (fs fa fd) k) : PSs (cxOf CX0 Pg w K mg base N16 "Tableau.is_solved" (defScope s16) (fa 16) cd A outer s H E).nox (defBody s16) (dS (pmAt (tb K ca) lf k) b16) :=
  have sc := sc16
  (ss_cons (s_ret (d_cmp B.x .eq (d_idx B.x (d_idx B.x (d_fldB B (f := 4) rfl (d_slot 0)) (d_neg d_int) (fun _ _ => rfl)) d_int (fun _ _ => rfl)) d_int (nmk .eq _))) ss_nil)
theorem sc17 : FnScope N17 P17 (defScope s17) := ⟨rfl, rfl, rfl, by decide +kernel, rfl, by decide +kernel, by decide +kernel⟩
theorem der17 (G : GOk mg K ca fa) (cd : Value) (A : Around) (outer : List PySem.Env) (s : Shared) (H : HpA) (E : XK) (B : BOk (cxOf CX0 Pg w K mg base N17 "Tableau.parts" (defScope s17) (fa 17) cd A outer s H E).nox (pmAt (tb K ca) lf k) (fs fa fd) k) : PSs (cxOf CX0 Pg w K mg base N17 "Tableau.parts" (defScope s17) (fa 17) cd A outer s H E).nox (defBody s17) (dS (pmAt (tb K ca) lf k) b17) :=
  have sc := sc17
  (ss_cons (s_set (i := 1) sc.nd rfl (by first | exact Or.inl rfl | exact Or.inr rfl) (d_bin B.x .mul (d_lst (a_cons (d_globE G.k_NOTHING rfl) a_nil)) (d_fldB B (f := 1) rfl (d_slot 0)))) (ss_cons (s_for B PassesOwn.never (i_enum B G.n_enumerate rfl (d_fldB B (f := 5) rfl (d_slot 0))) (g_tup B (gs_cons (g_name (i := 2) sc.nd rfl (by first | exact Or.inl rfl | exact Or.inr rfl)) (gs_cons (g_name (i := 3) sc.nd rfl (by first | exact Or.inl rfl | exact Or.inr rfl)) gs_nil))) (ss_cons (s_if (t_cmp B.x .lt (d_slot 3) (d_fldB B (f := 1) rfl (d_slot 0)) (nmk .lt _)) (ss_cons (s_sub B (d_idx B.x (d_idx B.x (d_fldB B (f := 7) rfl (d_slot 0)) (d_slot 2) (fun _ _ => rfl)) (d_neg d_int) (fun _ _ => rfl)) (d_slot 1) (d_slot 3)) ss_nil) ss_nil) ss_nil)) (ss_cons (s_ret (d_slot 1)) ss_nil)))
theorem sc18 : FnScope N18 P18 (defScope s18) := ⟨rfl, rfl, rfl, by decide +kernel, rfl, by decide +kernel, by decide +kernel⟩
theorem der18 (G : GOk mg K ca fa) (cd : Value) (A : Around) (outer : List PySem.Env) (s : Shared) (H : HpA) (E : XK) (B : BOk (cxOf CX0 Pg w K mg base N18 "Tableau.prices" (defScope s18) (fa 18) cd A outer s H E).nox (pmAt (tb K ca) lf k) (fs fa fd) k) : PSs (cxOf CX0 Pg w K mg base N18 "Tableau.prices" (defScope s18) (fa 18) cd A outer s H E).nox (defBody s18) (dS (pmAt (tb K ca) lf k) b18) :=
  have sc := sc18
  (ss_cons (s_set (i := 1) sc.nd rfl (by first | exact Or.inl rfl | exact Or.inr rfl) (d_lst a_nil)) (ss_cons (s_for B PassesOwn.never (i_enum B G.n_enumerate rfl (d_fldB B (f := 8) rfl (d_slot 0))) (g_tup B (gs_cons (g_name (i := 2) sc.nd rfl (by first | exact Or.inl rfl | exact Or.inr rfl)) (gs_cons (g_name (i := 3) sc.nd rfl (by first | exact Or.inl rfl | exact Or.inr rfl)) gs_nil))) (ss_cons (s_set (i := 4) sc.nd rfl (by first | exact Or.inl rfl | exact Or.inr rfl) (d_call B (f := 5) rfl G.f_difference rfl (a_cons (d_globE G.k_ONE rfl) (a_cons (d_idx B.x (d_fldB B (f := 4) rfl (d_slot 0)) (d_bin B.x .add (d_fldB B (f := 1) rfl (d_slot 0)) (d_slot 2)) (fun _ _ => rfl)) a_nil)))) (ss_cons (s_exp (d_app B (d_slot 1) (d_call B (f := 6) rfl G.f_product rfl (a_cons (d_tup (a_cons (d_slot 3) (a_cons d_int a_nil))) (a_cons (d_slot 4) a_nil))))) ss_nil))) (ss_cons (s_ret (d_slot 1)) ss_nil)))
theorem sc19 : FnScope N19 P19 (defScope s19) := ⟨rfl, rfl, rfl, by decide +kernel, rfl, by decide +kernel, by decide +kernel⟩
theorem der19 (G : GOk mg K ca fa) (cd : Value) (A : Around) (outer : List PySem.Env) (s : Shared) (H : HpA) (E : XK) (B : BOk (cxOf CX0 Pg w K mg base N19 "less_by" (defScope s19) (fa 19) cd A outer s H E).nox (pmAt (tb K ca) lf k) (fs fa fd) k) : PSs (cxOf CX0 Pg w K mg base N19 "less_by" (defScope s19) (fa 19) cd A outer s H E).nox (defBody s19) (dS (pmAt (tb K ca) lf k) b19) :=
  have sc := sc19
  (ss_cons (s_set (i := 3) sc.nd rfl (by first | exact Or.inl rfl | exact Or.inr rfl) (d_idx B.x (d_slot 0) (d_slot 2) (fun _ _ => rfl))) (ss_cons (s_if (t_cmp B.x .eq (d_idx B.x (d_slot 3) d_int (fun _ _ => rfl)) d_int (nmk .eq _)) (ss_cons (s_ret (d_slot 0)) ss_nil) ss_nil) (ss_cons (s_ret (d_comp B (own := [("one", 4), ("its", 5)]) rfl (by decide) sc.nd (i_zip B G.n_zip rfl (d_slot 0) (d_slot 1)) (blkOk_by (by kernel_rfl)) (fun _ _ _ _ _ => (g_tup (B.blk _ _ _ _ _) (gs_cons (g_name (i := 4) sc.nd rfl (by first | exact Or.inl rfl | exact Or.inr rfl)) (gs_cons (g_name (i := 5) sc.nd rfl (by first | exact Or.inl rfl | exact Or.inr rfl)) gs_nil)))) (fun _ _ _ _ _ => ts_nil) (fun _ _ _ _ _ => (d_ite (t_cmp (B.blk _ _ _ _ _).x .ne (d_idx (B.blk _ _ _ _ _).x (d_slot 5) d_int (fun _ _ => rfl)) d_int (nmk .ne _)) (d_call (B.blk _ _ _ _ _) (f := 5) rfl G.f_difference rfl (a_cons (d_slot 4) (a_cons (d_call (B.blk _ _ _ _ _) (f := 6) rfl G.f_product rfl (a_cons (d_slot 3) (a_cons (d_slot 5) a_nil))) a_nil))) (d_slot 4))))) ss_nil)))
theorem sc20 : FnScope N20 P20 (defScope s20) := ⟨rfl, rfl, rfl, by decide +kernel, rfl, by decide +kernel, by decide +kernel⟩
theorem der20 (G : GOk mg K ca fa) (cd : Value) (A : Around) (outer : List PySem.Env) (s : Shared) (H : HpA) (E : XK) (B : BOk (cxOf CX0 Pg w K mg base N20 "parts_for" (defScope s20) (fa 20) cd A outer s H E).nox (pmAt (tb K ca) lf k) (fs fa fd) k) : PSs (cxOf CX0 Pg w K mg base N20 "parts_for" (defScope s20) (fa 20) cd A outer s H E).nox (defBody s20) (dS (pmAt (tb K ca) lf k) b20) :=
  have sc := sc20
  (ss_cons (s_set (i := 2) sc.nd rfl (by first | exact Or.inl rfl | exact Or.inr rfl) (d_make B (cc := 0) (f := 9) rfl rfl G.c_Tableau rfl (a_cons (d_slot 0) (a_cons (d_slot 1) a_nil)))) (ss_cons (s_ret (d_ite (t_val B.x (d_meth0 B (mi := 12) rfl (d_slot 2))) (d_tup (a_cons (d_str rfl) (a_cons (d_meth0 B (mi := 13) rfl (d_slot 2)) a_nil))) (d_tup (a_cons (d_str rfl) (a_cons (d_meth0 B (mi := 14) rfl (d_slot 2)) a_nil))))) ss_nil))
theorem sc21 : FnScope N21 P21 (defScope s21) := ⟨rfl, rfl, rfl, by decide +kernel, rfl, by decide +kernel, by decide +kernel⟩
theorem der21 (G : GOk mg K ca fa) (cd : Value) (A : Around) (outer : List PySem.Env) (s : Shared) (H : HpA) (E : XK) (B : BOk (cxOf CX0 Pg w K mg base N21 "is_row" (defScope s21) (fa 21) cd A outer s H E).nox (pmAt (tb K ca) lf k) (fs fa fd) k) : PSs (cxOf CX0 Pg w K mg base N21 "is_row" (defScope s21) (fa 21) cd A outer s H E).nox (defBody s21) (dS (pmAt (tb K ca) lf k) b21) :=
  have sc := sc21
  (ss_cons (s_if (PW.pt (w_or (d_notV B.x (t_val B.x (d_isi B (ty := 2) (by decide) G.n_isinstance G.n_tuple (by decide +kernel) rfl rfl (d_slot 1)))) (w_or (t_cmp B.x .ne (d_bltB B (bi := 0) rfl G.n_len (by decide +kernel) rfl (a_cons (d_slot 1) a_nil)) d_int (nmk .ne _)) (w_or (d_notV B.x (t_val B.x (d_call B (f := 0) rfl G.f_is_integer rfl (a_cons (d_idx B.x (d_slot 1) d_int (fun _ _ => rfl)) a_nil)))) (pw_or1 (d_notV B.x (t_val B.x (d_isi B (ty := 2) (by decide) G.n_isinstance G.n_tuple (by decide +kernel) rfl rfl (d_idx B.x (d_slot 1) d_int (fun _ _ => rfl)))))))))) (ss_cons (s_ret d_bl) ss_nil) ss_nil) (ss_cons (s_ret (d_and (d_cmp B.x .eq (d_bltB B (bi := 0) rfl G.n_len (by decide +kernel) rfl (a_cons (d_idx B.x (d_slot 1) d_int (fun _ _ => rfl)) a_nil)) (d_slot 0) (nmk .eq _)) (pe_one (d_bltB B (bi := 5) rfl G.n_all (by decide +kernel) rfl (a_cons (d_comp B (own := [("by", 2)]) rfl (by decide) sc.nd (i_seq B (d_idx B.x (d_slot 1) d_int (fun _ _ => rfl))) (blkOk_by (by kernel_rfl)) (fun _ _ _ _ _ => (g_name (i := 2) sc.nd rfl (by first | exact Or.inl rfl | exact Or.inr rfl))) (fun _ _ _ _ _ => ts_nil) (fun _ _ _ _ _ => (d_call (B.blk _ _ _ _ _) (f := 0) rfl G.f_is_integer rfl (a_cons (d_slot 2) a_nil)))) a_nil))))) ss_nil))
theorem sc22 : FnScope N22 P22 (defScope s22) := ⟨rfl, rfl, rfl, by decide +kernel, rfl, by decide +kernel, by decide +kernel⟩
theorem der22 (G : GOk mg K ca fa) (cd : Value) (A : Around) (outer : List PySem.Env) (s : Shared) (H : HpA) (E : XK) (B : BOk (cxOf CX0 Pg w K mg base N22 "check_rows" (defScope s22) (fa 22) cd A outer s H E).nox (pmAt (tb K ca) lf k) (fs fa fd) k) : PSs (cxOf CX0 Pg w K mg base N22 "check_rows" (defScope s22) (fa 22) cd A outer s H E).nox (defBody s22) (dS (pmAt (tb K ca) lf k) b22) :=
  have sc := sc22
  (ss_cons (s_if (PW.pt (w_or (d_notV B.x (t_val B.x (d_call B (f := 1) rfl G.f_is_between rfl (a_cons (d_slot 0) (a_cons d_int (a_cons (d_globE G.k_MOST_COLUMNS rfl) a_nil)))))) (w_or (d_notV B.x (t_val B.x (d_isi B (ty := 2) (by decide) G.n_isinstance G.n_tuple (by decide +kernel) rfl rfl (d_slot 1)))) (pw_or1 (t_cmp B.x .gt (d_bltB B (bi := 0) rfl G.n_len (by decide +kernel) rfl (a_cons (d_slot 1) a_nil)) (d_globE G.k_MOST_ROWS rfl) (nmk .gt _)))))) (ss_cons s_nev ss_nil) ss_nil) (ss_cons (s_if (d_notV B.x (t_val B.x (d_bltB B (bi := 5) rfl G.n_all (by decide +kernel) rfl (a_cons (d_comp B (own := [("row", 2)]) rfl (by decide) sc.nd (i_seq B (d_slot 1)) (blkOk_by (by kernel_rfl)) (fun _ _ _ _ _ => (g_name (i := 2) sc.nd rfl (by first | exact Or.inl rfl | exact Or.inr rfl))) (fun _ _ _ _ _ => ts_nil) (fun _ _ _ _ _ => (d_call (B.blk _ _ _ _ _) (f := 21) rfl G.f_is_row rfl (a_cons (d_slot 0) (a_cons (d_slot 2) a_nil))))) a_nil)))) (ss_cons s_nev ss_nil) ss_nil) ss_nil))
theorem sc23 : FnScope N23 P23 (defScope s23) := ⟨rfl, rfl, rfl, by decide +kernel, rfl, by decide +kernel, by decide +kernel⟩
theorem der23 (G : GOk mg K ca fa) (cd : Value) (A : Around) (outer : List PySem.Env) (s : Shared) (H : HpA) (E : XK) (B : BOk (cxOf CX0 Pg w K mg base N23 "check_following" (defScope s23) (fa 23) cd A outer s H E).nox (pmAt (tb K ca) lf k) (fs fa fd) k) : PSs (cxOf CX0 Pg w K mg base N23 "check_following" (defScope s23) (fa 23) cd A outer s H E).nox (defBody s23) (dS (pmAt (tb K ca) lf k) b23) :=
  have sc := sc23
  (ss_cons (s_exp (d_call B (f := 22) rfl G.f_check_rows rfl (a_cons (d_slot 0) (a_cons (d_slot 1) a_nil)))) (ss_cons (s_if (d_notV B.x (t_val B.x (d_call B (f := 21) rfl G.f_is_row rfl (a_cons (d_slot 0) (a_cons (d_slot 2) a_nil))))) (ss_cons s_nev ss_nil) ss_nil) ss_nil))
theorem sc24 : FnScope N24 P24 (defScope s24) := ⟨rfl, rfl, rfl, by decide +kernel, rfl, by decide +kernel, by decide +kernel⟩
theorem der24 (G : GOk mg K ca fa) (cd : Value) (A : Around) (outer : List PySem.Env) (s : Shared) (H : HpA) (E : XK) (B : BOk (cxOf CX0 Pg w K mg base N24 "whole" (defScope s24) (fa 24) cd A outer s H E).nox (pmAt (tb K ca) lf k) (fs fa fd) k) : PSs (cxOf CX0 Pg w K mg base N24 "whole" (defScope s24) (fa 24) cd A outer s H E).nox (defBody s24) (dS (pmAt (tb K ca) lf k) b24) :=
  have sc := sc24
  (ss_cons (s_set (i := 1) sc.nd rfl (by first | exact Or.inl rfl | exact Or.inr rfl) d_int) (ss_cons (s_for B PassesOwn.never (i_seq B (d_slot 0)) (g_tup B (gs_cons (g_name (i := 2) sc.nd rfl (by first | exact Or.inl rfl | exact Or.inr rfl)) (gs_cons (g_name (i := 3) sc.nd rfl (by first | exact Or.inl rfl | exact Or.inr rfl)) gs_nil))) (ss_cons (s_set (i := 1) sc.nd rfl (by first | exact Or.inl rfl | exact Or.inr rfl) (d_bin B.x .fdiv (d_bin B.x .mul (d_slot 1) (d_slot 3)) (d_call B (f := 2) rfl G.f_common rfl (a_cons (d_slot 1) (a_cons (d_slot 3) a_nil))))) ss_nil)) (ss_cons (s_ret (d_tup (a_cons (d_slot 1) (a_cons (d_bltT B (bi := 8) rfl G.n_tuple (by decide +kernel) rfl (a_cons (d_comp B (own := [("top", 2), ("low", 3)]) rfl (by decide) sc.nd (i_seq B (d_slot 0)) (blkOk_by (by kernel_rfl)) (fun _ _ _ _ _ => (g_tup (B.blk _ _ _ _ _) (gs_cons (g_name (i := 2) sc.nd rfl (by first | exact Or.inl rfl | exact Or.inr rfl)) (gs_cons (g_name (i := 3) sc.nd rfl (by first | exact Or.inl rfl | exact Or.inr rfl)) gs_nil)))) (fun _ _ _ _ _ => ts_nil) (fun _ _ _ _ _ => (d_bin (B.blk _ _ _ _ _).x .fdiv (d_bin (B.blk _ _ _ _ _).x .mul (d_slot 2) (d_slot 1)) (d_slot 3)))) a_nil)) a_nil)))) ss_nil)))
theorem sc25 : FnScope N25 P25 (defScope s25) := ⟨rfl, rfl, rfl, by decide +kernel, rfl, by decide +kernel, by decide +kernel⟩
theorem der25 (G : GOk mg K ca fa) (cd : Value) (A : Around) (outer : List PySem.Env) (s : Shared) (H : HpA) (E : XK) (B : BOk (cxOf CX0 Pg w K mg base N25 "column_of" (defScope s25) (fa 25) cd A outer s H E).nox (pmAt (tb K ca) lf k) (fs fa fd) k) : PSs (cxOf CX0 Pg w K mg base N25 "column_of" (defScope s25) (fa 25) cd A outer s H E).nox (defBody s25) (dS (pmAt (tb K ca) lf k) b25) :=
  have sc := sc25
  (ss_cons (s_ret (d_lst (a_star B.x (d_idx B.x (d_slot 0) d_int (fun _ _ => rfl)) (a_cons (d_idx B.x (d_slot 0) d_int (fun _ _ => rfl)) a_nil)))) ss_nil)
theorem sc26 : FnScope N26 P26 (defScope s26) := ⟨rfl, rfl, rfl, by decide +kernel, rfl, by decide +kernel, by decide +kernel⟩
theorem der26 (G : GOk mg K ca fa) (cd : Value) (A : Around) (outer : List PySem.Env) (s : Shared) (H : HpA) (E : XK) (B : BOk (cxOf CX0 Pg w K mg base N26 "rest_column" (defScope s26) (fa 26) cd A outer s H E).nox (pmAt (tb K ca) lf k) (fs fa fd) k) : PSs (cxOf CX0 Pg w K mg base N26 "rest_column" (defScope s26) (fa 26) cd A outer s H E).nox (defBody s26) (dS (pmAt (tb K ca) lf k) b26) :=
  have sc := sc26
  (ss_cons (s_ret (d_bin B.x .add (d_bin B.x .mul (d_lst (a_cons d_int a_nil)) (d_slot 0)) (d_lst (a_cons d_int a_nil)))) ss_nil)
theorem sc27 : FnScope N27 P27 (defScope s27) := ⟨rfl, rfl, rfl, by decide +kernel, rfl, by decide +kernel, by decide +kernel⟩
theorem der27 (G : GOk mg K ca fa) (cd : Value) (A : Around) (outer : List PySem.Env) (s : Shared) (H : HpA) (E : XK) (B : BOk (cxOf CX0 Pg w K mg base N27 "value_at" (defScope s27) (fa 27) cd A outer s H E).nox (pmAt (tb K ca) lf k) (fs fa fd) k) : PSs (cxOf CX0 Pg w K mg base N27 "value_at" (defScope s27) (fa 27) cd A outer s H E).nox (defBody s27) (dS (pmAt (tb K ca) lf k) b27) :=
  have sc := sc27
  (ss_cons (s_set (i := 2) sc.nd rfl (by first | exact Or.inl rfl | exact Or.inr rfl) (d_tup (a_cons (d_idx B.x (d_slot 0) d_int (fun _ _ => rfl)) (a_cons d_int a_nil)))) (ss_cons (s_for B PassesOwn.never (i_zip B G.n_zip rfl (d_idx B.x (d_slot 0) d_int (fun _ _ => rfl)) (d_slot 1)) (g_tup B (gs_cons (g_name (i := 3) sc.nd rfl (by first | exact Or.inl rfl | exact Or.inr rfl)) (gs_cons (g_name (i := 4) sc.nd rfl (by first | exact Or.inl rfl | exact Or.inr rfl)) gs_nil))) (ss_cons (s_set (i := 2) sc.nd rfl (by first | exact Or.inl rfl | exact Or.inr rfl) (d_call B (f := 4) rfl G.f_added rfl (a_cons (d_slot 2) (a_cons (d_call B (f := 6) rfl G.f_product rfl (a_cons (d_tup (a_cons (d_slot 3) (a_cons d_int a_nil))) (a_cons (d_slot 4) a_nil))) a_nil)))) ss_nil)) (ss_cons (s_ret (d_slot 2)) ss_nil)))
theorem sc28 : FnScope N28 P28 (defScope s28) := ⟨rfl, rfl, rfl, by decide +kernel, rfl, by decide +kernel, by decide +kernel⟩
theorem der28 (G : GOk mg K ca fa) (cd : Value) (A : Around) (outer : List PySem.Env) (s : Shared) (H : HpA) (E : XK) (B : BOk (cxOf CX0 Pg w K mg base N28 "turned_prices" (defScope s28) (fa 28) cd A outer s H E).nox (pmAt (tb K ca) lf k) (fs fa fd) k) : PSs (cxOf CX0 Pg w K mg base N28 "turned_prices" (defScope s28) (fa 28) cd A outer s H E).nox (defBody s28) (dS (pmAt (tb K ca) lf k) b28) :=
  have sc := sc28
  (ss_cons (s_setLc B (i := 1) (own := [("own", 2)]) rfl (by decide) sc.nd rfl rfl (sw_true rfl rfl rfl (by kernel_rfl)) (i_seq B (d_slot 0)) (blkOk_by (by kernel_rfl)) (fun _ _ _ _ _ => (g_name (i := 2) sc.nd rfl (by first | exact Or.inl rfl | exact Or.inr rfl))) (fun _ _ _ _ _ => ts_nil) (fun _ _ _ _ _ => (d_call (B.blk _ _ _ _ _) (f := 5) rfl G.f_difference rfl (a_cons (d_globE G.k_NOTHING rfl) (a_cons (d_slot 2) a_nil))))) (ss_cons (s_ret (d_tup (a_cons (d_slc B.x (d_slot 1) o_none (o_some (d_neg d_int))) (a_cons (d_idx B.x (d_slot 1) (d_neg d_int) (fun _ _ => rfl)) a_nil)))) ss_nil))
theorem sc29 : FnScope N29 P29 (defScope s29) := ⟨rfl, rfl, rfl, by decide +kernel, rfl, by decide +kernel, by decide +kernel⟩
theorem der29 (G : GOk mg K ca fa) (cd : Value) (A : Around) (outer : List PySem.Env) (s : Shared) (H : HpA) (E : XK) (B : BOk (cxOf CX0 Pg w K mg base N29 "spot_of" (defScope s29) (fa 29) cd A outer s H E).nox (pmAt (tb K ca) lf k) (fs fa fd) k) : PSs (cxOf CX0 Pg w K mg base N29 "spot_of" (defScope s29) (fa 29) cd A outer s H E).nox (defBody s29) (dS (pmAt (tb K ca) lf k) b29) :=
  have sc := sc29
  (ss_cons (s_asg (d_call B (f := 28) rfl G.f_turned_prices rfl (a_cons (d_slot 0) a_nil)) (g_tup B (gs_cons (g_name (i := 1) sc.nd rfl (by first | exact Or.inl rfl | exact Or.inr rfl)) (gs_cons (g_name (i := 2) sc.nd rfl (by first | exact Or.inl rfl | exact Or.inr rfl)) gs_nil)))) (ss_cons (s_ret (d_comp B (own := [("own", 3)]) rfl (by decide) sc.nd (i_seq B (d_slot 1)) (blkOk_by (by kernel_rfl)) (fun _ _ _ _ _ => (g_name (i := 3) sc.nd rfl (by first | exact Or.inl rfl | exact Or.inr rfl))) (fun _ _ _ _ _ => ts_nil) (fun _ _ _ _ _ => (d_call (B.blk _ _ _ _ _) (f := 7) rfl G.f_quotient rfl (a_cons (d_slot 3) (a_cons (d_slot 2) a_nil)))))) ss_nil))
theorem sc30 : FnScope N30 P30 (defScope s30) := ⟨rfl, rfl, rfl, by decide +kernel, rfl, by decide +kernel, by decide +kernel⟩
theorem der30 (G : GOk mg K ca fa) (cd : Value) (A : Around) (outer : List PySem.Env) (s : Shared) (H : HpA) (E : XK) (B : BOk (cxOf CX0 Pg w K mg base N30 "some_spot" (defScope s30) (fa 30) cd A outer s H E).nox (pmAt (tb K ca) lf k) (fs fa fd) k) : PSs (cxOf CX0 Pg w K mg base N30 "some_spot" (defScope s30) (fa 30) cd A outer s H E).nox (defBody s30) (dS (pmAt (tb K ca) lf k) b30) :=
  have sc := sc30
  (ss_cons (s_set (i := 2) sc.nd rfl (by first | exact Or.inl rfl | exact Or.inr rfl) (d_bin B.x .add (d_comp B (own := [("row", 5)]) rfl (by decide) sc.nd (i_seq B (d_slot 1)) (blkOk_by (by kernel_rfl)) (fun _ _ _ _ _ => (g_name (i := 5) sc.nd rfl (by first | exact Or.inl rfl | exact Or.inr rfl))) (fun _ _ _ _ _ => ts_nil) (fun _ _ _ _ _ => (d_call (B.blk _ _ _ _ _) (f := 25) rfl G.f_column_of rfl (a_cons (d_slot 5) a_nil)))) (d_lst (a_cons (d_call B (f := 26) rfl G.f_rest_column rfl (a_cons (d_slot 0) a_nil)) a_nil)))) (ss_cons (s_asg (d_call B (f := 20) rfl G.f_parts_for rfl (a_cons (d_slot 2) (a_cons (d_bin B.x .add (d_bin B.x .mul (d_lst (a_cons d_int a_nil)) (d_slot 0)) (d_lst (a_cons (d_neg d_int) a_nil))) a_nil))) (g_tup B (gs_cons (g_name (i := 3) sc.nd rfl (by first | exact Or.inl rfl | exact Or.inr rfl)) (gs_cons (g_name (i := 4) sc.nd rfl (by first | exact Or.inl rfl | exact Or.inr rfl)) gs_nil)))) (ss_cons (s_ret (d_ite (t_cmp B.x .eq (d_slot 3) (d_str rfl) (nmk .eq _)) (d_tup (a_cons (d_slc B.x (d_slot 4) o_none (o_some (d_neg d_int))) (a_cons d_non a_nil))) (d_tup (a_cons d_non (a_cons (d_call B (f := 29) rfl G.f_spot_of rfl (a_cons (d_slot 4) a_nil)) a_nil))))) ss_nil)))
theorem sc31 : FnScope N31 P31 (defScope s31) := ⟨rfl, rfl, rfl, by decide +kernel, rfl, by decide +kernel, by decide +kernel⟩
theorem der31 (G : GOk mg K ca fa) (cd : Value) (A : Around) (outer : List PySem.Env) (s : Shared) (H : HpA) (E : XK) (B : BOk (cxOf CX0 Pg w K mg base N31 "spot_along" (defScope s31) (fa 31) cd A outer s H E).nox (pmAt (tb K ca) lf k) (fs fa fd) k) : PSs (cxOf CX0 Pg w K mg base N31 "spot_along" (defScope s31) (fa 31) cd A outer s H E).nox (defBody s31) (dS (pmAt (tb K ca) lf k) b31) :=
  have sc := sc31
  (ss_cons (s_set (i := 3) sc.nd rfl (by first | exact Or.inl rfl | exact Or.inr rfl) (d_call B (f := 5) rfl G.f_difference rfl (a_cons (d_globE G.k_NOTHING rfl) (a_cons (d_call B (f := 27) rfl G.f_value_at rfl (a_cons (d_tup (a_cons d_int (a_cons (d_idx B.x (d_slot 2) d_int (fun _ _ => rfl)) a_nil))) (a_cons (d_slot 1) a_nil))) a_nil)))) (ss_cons (s_set (i := 4) sc.nd rfl (by first | exact Or.inl rfl | exact Or.inr rfl) (d_call B (f := 27) rfl G.f_value_at rfl (a_cons (d_slot 2) (a_cons (d_slot 0) a_nil)))) (ss_cons (s_if (t_val B.x (d_call B (f := 8) rfl G.f_less rfl (a_cons (d_slot 4) (a_cons (d_globE G.k_NOTHING rfl) a_nil)))) (ss_cons (s_ret (d_slot 0)) ss_nil) ss_nil) (ss_cons (s_set (i := 5) sc.nd rfl (by first | exact Or.inl rfl | exact Or.inr rfl) (d_call B (f := 7) rfl G.f_quotient rfl (a_cons (d_call B (f := 4) rfl G.f_added rfl (a_cons (d_slot 4) (a_cons (d_tup (a_cons d_int (a_cons d_int a_nil))) a_nil))) (a_cons (d_slot 3) a_nil)))) (ss_cons (s_ret (d_comp B (own := [("own", 6), ("by", 7)]) rfl (by decide) sc.nd (i_zip B G.n_zip rfl (d_slot 0) (d_slot 1)) (blkOk_by (by kernel_rfl)) (fun _ _ _ _ _ => (g_tup (B.blk _ _ _ _ _) (gs_cons (g_name (i := 6) sc.nd rfl (by first | exact Or.inl rfl | exact Or.inr rfl)) (gs_cons (g_name (i := 7) sc.nd rfl (by first | exact Or.inl rfl | exact Or.inr rfl)) gs_nil)))) (fun _ _ _ _ _ => ts_nil) (fun _ _ _ _ _ => (d_call (B.blk _ _ _ _ _) (f := 4) rfl G.f_added rfl (a_cons (d_slot 6) (a_cons (d_call (B.blk _ _ _ _ _) (f := 6) rfl G.f_product rfl (a_cons (d_slot 5) (a_cons (d_slot 7) a_nil))) a_nil)))))) ss_nil)))))
theorem sc32 : FnScope N32 P32 (defScope s32) := ⟨rfl, rfl, rfl, by decide +kernel, rfl, by decide +kernel, by decide +kernel⟩
theorem der32 (G : GOk mg K ca fa) (cd : Value) (A : Around) (outer : List PySem.Env) (s : Shared) (H : HpA) (E : XK) (B : BOk (cxOf CX0 Pg w K mg base N32 "quick_times" (defScope s32) (fa 32) cd A outer s H E).nox (pmAt (tb K ca) lf k) (fs fa fd) k) : PSs (cxOf CX0 Pg w K mg base N32 "quick_times" (defScope s32) (fa 32) cd A outer s H E).nox (defBody s32) (dS (pmAt (tb K ca) lf k) b32) :=
  have sc := sc32
  (ss_cons (s_if (PW.pt (w_and (t_val B.x (d_bltB B (bi := 5) rfl G.n_all (by decide +kernel) rfl (a_cons (d_comp B (own := [("by", 4)]) rfl (by decide) sc.nd (i_seq B (d_idx B.x (d_slot 1) d_int (fun _ _ => rfl))) (blkOk_by (by kernel_rfl)) (fun _ _ _ _ _ => (g_name (i := 4) sc.nd rfl (by first | exact Or.inl rfl | exact Or.inr rfl))) (fun _ _ _ _ _ => ts_nil) (fun _ _ _ _ _ => (d_cmp (B.blk _ _ _ _ _).x .eq (d_slot 4) d_int (nmk .eq _)))) a_nil))) (pw_and1 (t_cmp B.x .ge (d_idx B.x (d_slot 1) d_int (fun _ _ => rfl)) d_int (nmk .ge _))))) (ss_cons (s_ret (d_tup (a_cons d_int (a_cons (d_bin B.x .mul (d_tup (a_cons d_int a_nil)) (d_bltB B (bi := 0) rfl G.n_len (by decide +kernel) rfl (a_cons (d_slot 0) a_nil))) a_nil)))) ss_nil) ss_nil) (ss_cons (s_for B PassesOwn.never (i_enum B G.n_enumerate rfl (d_slot 0)) (g_tup B (gs_cons (g_name (i := 2) sc.nd rfl (by first | exact Or.inl rfl | exact Or.inr rfl)) (gs_cons (g_name (i := 3) sc.nd rfl (by first | exact Or.inl rfl | exact Or.inr rfl)) gs_nil))) (ss_cons (s_if (PW.pt (w_and (t_cmp B.x .eq (d_idx B.x (d_slot 3) d_int (fun _ _ => rfl)) (d_idx B.x (d_slot 1) d_int (fun _ _ => rfl)) (nmk .eq _)) (pw_and1 (t_cmp B.x .le (d_idx B.x (d_slot 3) d_int (fun _ _ => rfl)) (d_idx B.x (d_slot 1) d_int (fun _ _ => rfl)) (nmk .le _))))) (ss_cons (s_ret (d_tup (a_cons d_int (a_cons (d_bltT B (bi := 8) rfl G.n_tuple (by decide +kernel) rfl (a_cons (d_comp B (own := [("to", 5)]) rfl (by decide) sc.nd (i_rng1 G.n_range rfl (d_bltB B (bi := 0) rfl G.n_len (by decide +kernel) rfl (a_cons (d_slot 0) a_nil))) (blkOk_by (by kernel_rfl)) (fun _ _ _ _ _ => (g_name (i := 5) sc.nd rfl (by first | exact Or.inl rfl | exact Or.inr rfl))) (fun _ _ _ _ _ => ts_nil) (fun _ _ _ _ _ => (d_bltT (B.blk _ _ _ _ _) (bi := 2) rfl G.n_int (by decide +kernel) rfl (a_cons (d_cmp (B.blk _ _ _ _ _).x .eq (d_slot 5) (d_slot 2) (nmk .eq _)) a_nil)))) a_nil)) a_nil)))) ss_nil) ss_nil) ss_nil)) (ss_cons (s_ret d_non) ss_nil)))
theorem sc33 : FnScope N33 P33 (defScope s33) := ⟨rfl, rfl, rfl, by decide +kernel, rfl, by decide +kernel, by decide +kernel⟩
theorem der33 (G : GOk mg K ca fa) (cd : Value) (A : Around) (outer : List PySem.Env) (s : Shared) (H : HpA) (E : XK) (B : BOk (cxOf CX0 Pg w K mg base N33 "told_following" (defScope s33) (fa 33) cd A outer s H E).nox (pmAt (tb K ca) lf k) (fs fa fd) k) : PSs (cxOf CX0 Pg w K mg base N33 "told_following" (defScope s33) (fa 33) cd A outer s H E).nox (defBody s33) (dS (pmAt (tb K ca) lf k) b33) :=
  have sc := sc33
  (ss_cons (s_set (i := 3) sc.nd rfl (by first | exact Or.inl rfl | exact Or.inr rfl) (d_call B (f := 32) rfl G.f_quick_times rfl (a_cons (d_slot 1) (a_cons (d_slot 2) a_nil)))) (ss_cons (s_if (t_cmp B.x .isn (d_slot 3) d_non (nmk .isn _)) (ss_cons (s_ret (d_tup (a_cons (d_globE G.k_TIMES rfl) (a_star B.x (d_slot 3) a_nil)))) ss_nil) ss_nil) (ss_cons (s_set (i := 4) sc.nd rfl (by first | exact Or.inl rfl | exact Or.inr rfl) (d_bin B.x .add (d_comp B (own := [("own", 11)]) rfl (by decide) sc.nd (i_seq B (d_slot 1)) (blkOk_by (by kernel_rfl)) (fun _ _ _ _ _ => (g_name (i := 11) sc.nd rfl (by first | exact Or.inl rfl | exact Or.inr rfl))) (fun _ _ _ _ _ => ts_nil) (fun _ _ _ _ _ => (d_call (B.blk _ _ _ _ _) (f := 25) rfl G.f_column_of rfl (a_cons (d_slot 11) a_nil)))) (d_lst (a_cons (d_call B (f := 26) rfl G.f_rest_column rfl (a_cons (d_slot 0) a_nil)) a_nil)))) (ss_cons (s_asg (d_call B (f := 20) rfl G.f_parts_for rfl (a_cons (d_slot 4) (a_cons (d_call B (f := 25) rfl G.f_column_of rfl (a_cons (d_slot 2) a_nil)) a_nil))) (g_tup B (gs_cons (g_name (i := 5) sc.nd rfl (by first | exact Or.inl rfl | exact Or.inr rfl)) (gs_cons (g_name (i := 6) sc.nd rfl (by first | exact Or.inl rfl | exact Or.inr rfl)) gs_nil)))) (ss_cons (s_if (t_cmp B.x .eq (d_slot 5) (d_str rfl) (nmk .eq _)) (ss_cons (s_ret (d_tup (a_cons (d_globE G.k_TIMES rfl) (a_star B.x (d_call B (f := 24) rfl G.f_whole rfl (a_cons (d_slc B.x (d_slot 6) o_none (o_some (d_neg d_int))) a_nil)) a_nil)))) ss_nil) ss_nil) (ss_cons (s_asg (d_call B (f := 30) rfl G.f_some_spot rfl (a_cons (d_slot 0) (a_cons (d_slot 1) a_nil))) (g_tup B (gs_cons (g_name (i := 7) sc.nd rfl (by first | exact Or.inl rfl | exact Or.inr rfl)) (gs_cons (g_name (i := 8) sc.nd rfl (by first | exact Or.inl rfl | exact Or.inr rfl)) gs_nil)))) (ss_cons (s_if (t_cmp B.x .isn (d_slot 7) d_non (nmk .isn _)) (ss_cons (s_ret (d_tup (a_cons (d_globE G.k_NEVER rfl) (a_cons (d_idx B.x (d_call B (f := 24) rfl G.f_whole rfl (a_cons (d_slot 7) a_nil)) d_int (fun _ _ => rfl)) a_nil)))) ss_nil) ss_nil) (ss_cons (s_asg (d_call B (f := 28) rfl G.f_turned_prices rfl (a_cons (d_slot 6) a_nil)) (g_tup B (gs_cons (g_name (i := 9) sc.nd rfl (by first | exact Or.inl rfl | exact Or.inr rfl)) (gs_cons (g_name (i := 10) sc.nd rfl (by first | exact Or.inl rfl | exact Or.inr rfl)) gs_nil)))) (ss_cons (s_if (t_val B.x (d_call B (f := 8) rfl G.f_less rfl (a_cons (d_globE G.k_NOTHING rfl) (a_cons (d_slot 10) a_nil)))) (ss_cons (s_ret (d_tup (a_cons (d_globE G.k_SPOT rfl) (a_cons (d_bltT B (bi := 8) rfl G.n_tuple (by decide +kernel) rfl (a_cons (d_comp B (own := [("own", 11)]) rfl (by decide) sc.nd (i_seq B (d_slot 9)) (blkOk_by (by kernel_rfl)) (fun _ _ _ _ _ => (g_name (i := 11) sc.nd rfl (by first | exact Or.inl rfl | exact Or.inr rfl))) (fun _ _ _ _ _ => ts_nil) (fun _ _ _ _ _ => (d_call (B.blk _ _ _ _ _) (f := 7) rfl G.f_quotient rfl (a_cons (d_slot 11) (a_cons (d_slot 10) a_nil))))) a_nil)) a_nil)))) ss_nil) ss_nil) (ss_cons (s_ret (d_tup (a_cons (d_globE G.k_SPOT rfl) (a_cons (d_bltT B (bi := 8) rfl G.n_tuple (by decide +kernel) rfl (a_cons (d_call B (f := 31) rfl G.f_spot_along rfl (a_cons (d_slot 8) (a_cons (d_slot 9) (a_cons (d_slot 2) a_nil)))) a_nil)) a_nil)))) ss_nil))))))))))
theorem sc34 : FnScope N34 P34 (defScope s34) := ⟨rfl, rfl, rfl, by decide +kernel, rfl, by decide +kernel, by decide +kernel⟩
theorem der34 (G : GOk mg K ca fa) (cd : Value) (A : Around) (outer : List PySem.Env) (s : Shared) (H : HpA) (E : XK) (B : BOk (cxOf CX0 Pg w K mg base N34 "follows" (defScope s34) (fa 34) cd A outer s H E).nox (pmAt (tb K ca) lf k) (fs fa fd) k) : PSs (cxOf CX0 Pg w K mg base N34 "follows" (defScope s34) (fa 34) cd A outer s H E).nox (defBody s34) (dS (pmAt (tb K ca) lf k) b34) :=
  have sc := sc34
  (ss_cons (s_exp (d_call B (f := 23) rfl G.f_check_following rfl (a_cons (d_slot 0) (a_cons (d_slot 1) (a_cons (d_slot 2) a_nil))))) (ss_cons (s_ret (d_call B (f := 33) rfl G.f_told_following rfl (a_cons (d_slot 0) (a_cons (d_slot 1) (a_cons (d_slot 2) a_nil))))) ss_nil))
theorem sc35 : FnScope N35 P35 (defScope s35) := ⟨rfl, rfl, rfl, by decide +kernel, rfl, by decide +kernel, by decide +kernel⟩
theorem der35 (G : GOk mg K ca fa) (cd : Value) (A : Around) (outer : List PySem.Env) (s : Shared) (H : HpA) (E : XK) (B : BOk (cxOf CX0 Pg w K mg base N35 "holds_somewhere" (defScope s35) (fa 35) cd A outer s H E).nox (pmAt (tb K ca) lf k) (fs fa fd) k) : PSs (cxOf CX0 Pg w K mg base N35 "holds_somewhere" (defScope s35) (fa 35) cd A outer s H E).nox (defBody s35) (dS (pmAt (tb K ca) lf k) b35) :=
  have sc := sc35
  (ss_cons (s_exp (d_call B (f := 22) rfl G.f_check_rows rfl (a_cons (d_slot 0) (a_cons (d_slot 1) a_nil)))) (ss_cons (s_asg (d_call B (f := 30) rfl G.f_some_spot rfl (a_cons (d_slot 0) (a_cons (d_slot 1) a_nil))) (g_tup B (gs_cons (g_name (i := 2) sc.nd rfl (by first | exact Or.inl rfl | exact Or.inr rfl)) (gs_cons (g_name (i := 3) sc.nd rfl (by first | exact Or.inl rfl | exact Or.inr rfl)) gs_nil)))) (ss_cons (s_ret (d_ite (t_cmp B.x .is (d_slot 3) d_non (nmk .is _)) d_non (d_bltT B (bi := 8) rfl G.n_tuple (by decide +kernel) rfl (a_cons (d_slot 3) a_nil)))) ss_nil)))
theorem sc36 : FnScope N36 P36 (defScope s36) := ⟨rfl, rfl, rfl, by decide +kernel, rfl, by decide +kernel, by decide +kernel⟩
theorem der36 (G : GOk mg K ca fa) (cd : Value) (A : Around) (outer : List PySem.Env) (s : Shared) (H : HpA) (E : XK) (B : BOk (cxOf CX0 Pg w K mg base N36 "_law_pot" (defScope s36) (fa 36) cd A outer s H E).nox (pmAt (tb K ca) lf k) (fs fa fd) k) : PSs (cxOf CX0 Pg w K mg base N36 "_law_pot" (defScope s36) (fa 36) cd A outer s H E).nox (defBody s36) (dS (pmAt (tb K ca) lf k) b36) :=
  have sc := sc36
  (ss_cons (s_set (i := 2) sc.nd rfl (by first | exact Or.inl rfl | exact Or.inr rfl) (d_ite (t_cmp B.x .lt (d_slot 1) (d_bltB B (bi := 0) rfl G.n_len (by decide +kernel) rfl (a_cons (d_slot 0) a_nil)) (nmk .lt _)) (d_idx B.x (d_slot 0) (d_slot 1) (fun _ _ => rfl)) (d_bin B.x .add (d_bin B.x .add (d_bin B.x .mod (d_bltB B (bi := 7) rfl G.n_sum (by decide +kernel) rfl (a_cons (d_slc B.x (d_slot 0) o_none (o_some d_int)) a_nil)) d_int) (d_bin B.x .mul d_int (d_slot 1))) d_int))) (ss_cons (s_set (i := 3) sc.nd rfl (by first | exact Or.inl rfl | exact Or.inr rfl) (d_bin B.x .mul (d_bin B.x .mod (d_bltT B (bi := 2) rfl G.n_int (by decide +kernel) rfl (a_cons (d_bltB B (bi := 1) rfl G.n_abs (by decide +kernel) rfl (a_cons (d_slot 2) a_nil)) a_nil)) (d_bin B.x .pow (d_bin B.x .pow d_int d_int) d_int)) (d_bltT B (bi := 2) rfl G.n_int (by decide +kernel) rfl (a_cons (d_cmp B.x .ge (d_bltB B (bi := 1) rfl G.n_abs (by decide +kernel) rfl (a_cons (d_slot 2) a_nil)) (d_bin B.x .pow d_int d_int) (nmk .ge _)) a_nil)))) (ss_cons (s_set (i := 4) sc.nd rfl (by first | exact Or.inl rfl | exact Or.inr rfl) (d_bin B.x .mod (d_bltT B (bi := 2) rfl G.n_int (by decide +kernel) rfl (a_cons (d_slot 2) a_nil)) d_int)) (ss_cons (s_ret (d_lst (a_cons (d_slot 3) (a_cons (d_bin B.x .mod (d_bltT B (bi := 2) rfl G.n_int (by decide +kernel) rfl (a_cons (d_bin B.x .add (d_bin B.x .add (d_bin B.x .mul (d_slot 4) d_int) (d_bin B.x .mul (d_bin B.x .mul d_int (d_slot 1)) (d_slot 1))) d_int) a_nil)) d_int) (a_cons d_int a_nil))))) ss_nil))))
theorem sc37 : FnScope N37 P37 (defScope s37) := ⟨rfl, rfl, rfl, by decide +kernel, rfl, by decide +kernel, by decide +kernel⟩
theorem der37 (G : GOk mg K ca fa) (cd : Value) (A : Around) (outer : List PySem.Env) (s : Shared) (H : HpA) (E : XK) (B : BOk (cxOf CX0 Pg w K mg base N37 "_law_take" (defScope s37) (fa 37) cd A outer s H E).nox (pmAt (tb K ca) lf k) (fs fa fd) k) : PSs (cxOf CX0 Pg w K mg base N37 "_law_take" (defScope s37) (fa 37) cd A outer s H E).nox (defBody s37) (dS (pmAt (tb K ca) lf k) b37) :=
  have sc := sc37
  (ss_cons (s_if (t_cmp B.x .gt (d_idx B.x (d_slot 0) d_int (fun _ _ => rfl)) d_int (nmk .gt _)) (ss_cons (s_set (i := 2) sc.nd rfl (by first | exact Or.inl rfl | exact Or.inr rfl) (d_bin B.x .mod (d_bltT B (bi := 2) rfl G.n_int (by decide +kernel) rfl (a_cons (d_idx B.x (d_slot 0) d_int (fun _ _ => rfl)) a_nil)) (d_slot 1))) (ss_cons (s_sub B (d_bin B.x .fdiv (d_idx B.x (d_slot 0) d_int (fun _ _ => rfl)) (d_slot 1)) (d_slot 0) d_int) (ss_cons (s_ret (d_slot 2)) ss_nil))) ss_nil) (ss_cons (s_sub B (d_bin B.x .add (d_idx B.x (d_slot 0) d_int (fun _ _ => rfl)) d_int) (d_slot 0) d_int) (ss_cons (s_set (i := 3) sc.nd rfl (by first | exact Or.inl rfl | exact Or.inr rfl) (d_idx B.x (d_lst (a_cons d_int (a_cons d_int (a_cons d_int (a_cons d_int (a_cons d_int a_nil)))))) (d_bin B.x .mod (d_bltT B (bi := 2) rfl G.n_int (by decide +kernel) rfl (a_cons (d_idx B.x (d_slot 0) d_int (fun _ _ => rfl)) a_nil)) d_int) (fun _ _ => rfl))) (ss_cons (s_set (i := 4) sc.nd rfl (by first | exact Or.inl rfl | exact Or.inr rfl) (d_bin B.x .mod (d_bltT B (bi := 2) rfl G.n_int (by decide +kernel) rfl (a_cons (d_bin B.x .pow (d_bltT B (bi := 2) rfl G.n_int (by decide +kernel) rfl (a_cons (d_bin B.x .add (d_bin B.x .add (d_idx B.x (d_slot 0) d_int (fun _ _ => rfl)) (d_bin B.x .mul (d_bin B.x .mul d_int (d_idx B.x (d_slot 0) d_int (fun _ _ => rfl))) (d_idx B.x (d_slot 0) d_int (fun _ _ => rfl)))) d_int) a_nil)) d_int) a_nil)) (d_slot 3))) (ss_cons (s_set (i := 4) sc.nd rfl (by first | exact Or.inl rfl | exact Or.inr rfl) (d_bin B.x .mod (d_bltT B (bi := 2) rfl G.n_int (by decide +kernel) rfl (a_cons (d_bin B.x .mul (d_slot 4) (d_bin B.x .add (d_bin B.x .mod (d_bltT B (bi := 2) rfl G.n_int (by decide +kernel) rfl (a_cons (d_slot 4) a_nil)) d_int) (d_bin B.x .mul d_int (d_idx B.x (d_slot 0) d_int (fun _ _ => rfl))))) a_nil)) d_int)) (ss_cons (s_ret (d_bin B.x .mod (d_bltT B (bi := 2) rfl G.n_int (by decide +kernel) rfl (a_cons (d_bin B.x .fdiv (d_slot 4) d_int) a_nil)) (d_slot 1))) ss_nil))))))
theorem sc38 : FnScope N38 P38 (defScope s38) := ⟨rfl, rfl, rfl, by decide +kernel, rfl, by decide +kernel, by decide +kernel⟩
theorem der38 (G : GOk mg K ca fa) (cd : Value) (A : Around) (outer : List PySem.Env) (s : Shared) (H : HpA) (E : XK) (B : BOk (cxOf CX0 Pg w K mg base N38 "_law_cells" (defScope s38) (fa 38) cd A outer s H E).nox (pmAt (tb K ca) lf k) (fs fa fd) k) : PSs (cxOf CX0 Pg w K mg base N38 "_law_cells" (defScope s38) (fa 38) cd A outer s H E).nox (defBody s38) (dS (pmAt (tb K ca) lf k) b38) :=
  have sc := sc38
  (ss_cons (s_ret (d_lrg1 B G.n_list rfl G.n_range rfl (d_bltB B (bi := 3) rfl G.n_max (by decide +kernel) rfl (a_cons d_int (a_cons (d_bltB B (bi := 4) rfl G.n_min (by decide +kernel) rfl (a_cons (d_slot 1) (a_cons (d_bltB B (bi := 0) rfl G.n_len (by decide +kernel) rfl (a_cons (d_slot 0) a_nil)) a_nil))) a_nil))))) ss_nil)
theorem sc39 : FnScope N39 P39 (defScope s39) := ⟨rfl, rfl, rfl, by decide +kernel, rfl, by decide +kernel, by decide +kernel⟩
theorem der39 (G : GOk mg K ca fa) (cd : Value) (A : Around) (outer : List PySem.Env) (s : Shared) (H : HpA) (E : XK) (B : BOk (cxOf CX0 Pg w K mg base N39 "_law_row" (defScope s39) (fa 39) cd A outer s H E).nox (pmAt (tb K ca) lf k) (fs fa fd) k) : PSs (cxOf CX0 Pg w K mg base N39 "_law_row" (defScope s39) (fa 39) cd A outer s H E).nox (defBody s39) (dS (pmAt (tb K ca) lf k) b39) :=
  have sc := sc39
  (ss_cons (s_ret (d_tup (a_cons (d_bltT B (bi := 2) rfl G.n_int (by decide +kernel) rfl (a_cons (d_bin B.x .sub (d_call B (f := 37) rfl G.f__law_take rfl (a_cons (d_slot 0) (a_cons d_int a_nil))) d_int) a_nil)) (a_cons (d_bltT B (bi := 8) rfl G.n_tuple (by decide +kernel) rfl (a_cons (d_comp B (own := [("at", 2)]) rfl (by decide) sc.nd (i_rng1 G.n_range rfl (d_slot 1)) (blkOk_by (by kernel_rfl)) (fun _ _ _ _ _ => (g_name (i := 2) sc.nd rfl (by first | exact Or.inl rfl | exact Or.inr rfl))) (fun _ _ _ _ _ => ts_nil) (fun _ _ _ _ _ => (d_bltT (B.blk _ _ _ _ _) (bi := 2) rfl G.n_int (by decide +kernel) rfl (a_cons (d_bin (B.blk _ _ _ _ _).x .sub (d_call (B.blk _ _ _ _ _) (f := 37) rfl G.f__law_take rfl (a_cons (d_slot 0) (a_cons d_int a_nil))) d_int) a_nil)))) a_nil)) a_nil)))) ss_nil)
theorem sc40 : FnScope N40 P40 (defScope s40) := ⟨rfl, rfl, rfl, by decide +kernel, rfl, by decide +kernel, by decide +kernel⟩
theorem der40 (G : GOk mg K ca fa) (cd : Value) (A : Around) (outer : List PySem.Env) (s : Shared) (H : HpA) (E : XK) (B : BOk (cxOf CX0 Pg w K mg base N40 "_law_together" (defScope s40) (fa 40) cd A outer s H E).nox (pmAt (tb K ca) lf k) (fs fa fd) k) : PSs (cxOf CX0 Pg w K mg base N40 "_law_together" (defScope s40) (fa 40) cd A outer s H E).nox (defBody s40) (dS (pmAt (tb K ca) lf k) b40) :=
  have sc := sc40
  (ss_cons (s_set (i := 3) sc.nd rfl (by first | exact Or.inl rfl | exact Or.inr rfl) (d_bin B.x .add (d_lst (a_cons (d_bltT B (bi := 2) rfl G.n_int (by decide +kernel) rfl (a_cons (d_call B (f := 37) rfl G.f__law_take rfl (a_cons (d_slot 0) (a_cons d_int a_nil))) a_nil)) a_nil)) (d_bin B.x .mul (d_lst (a_cons d_int a_nil)) (d_slot 2)))) (ss_cons (s_for B PassesOwn.never (i_seq B (d_slot 1)) (g_name (i := 4) sc.nd rfl (by first | exact Or.inl rfl | exact Or.inr rfl)) (ss_cons (s_set (i := 5) sc.nd rfl (by first | exact Or.inl rfl | exact Or.inr rfl) (d_bltT B (bi := 2) rfl G.n_int (by decide +kernel) rfl (a_cons (d_call B (f := 37) rfl G.f__law_take rfl (a_cons (d_slot 0) (a_cons d_int a_nil))) a_nil))) (ss_cons (s_setLc B (i := 3) (own := [("one", 6), ("own", 7)]) rfl (by decide) sc.nd rfl rfl (sw_true rfl rfl rfl (by kernel_rfl)) (i_zip B G.n_zip rfl (d_slot 3) (d_bin B.x .add (d_lst (a_cons (d_idx B.x (d_slot 4) d_int (fun _ _ => rfl)) a_nil)) (d_bltT B (bi := 9) rfl G.n_list (by decide +kernel) rfl (a_cons (d_idx B.x (d_slot 4) d_int (fun _ _ => rfl)) a_nil)))) (blkOk_by (by kernel_rfl)) (fun _ _ _ _ _ => (g_tup (B.blk _ _ _ _ _) (gs_cons (g_name (i := 6) sc.nd rfl (by first | exact Or.inl rfl | exact Or.inr rfl)) (gs_cons (g_name (i := 7) sc.nd rfl (by first | exact Or.inl rfl | exact Or.inr rfl)) gs_nil)))) (fun _ _ _ _ _ => ts_nil) (fun _ _ _ _ _ => (d_bin (B.blk _ _ _ _ _).x .add (d_slot 6) (d_bin (B.blk _ _ _ _ _).x .mul (d_slot 5) (d_slot 7))))) ss_nil))) (ss_cons (s_ret (d_tup (a_cons (d_idx B.x (d_slot 3) d_int (fun _ _ => rfl)) (a_cons (d_bltT B (bi := 8) rfl G.n_tuple (by decide +kernel) rfl (a_cons (d_slc B.x (d_slot 3) (o_some d_int) o_none) a_nil)) a_nil)))) ss_nil)))
theorem sc41 : FnScope N41 P41 (defScope s41) := ⟨rfl, rfl, rfl, by decide +kernel, rfl, by decide +kernel, by decide +kernel⟩
theorem der41 (G : GOk mg K ca fa) (cd : Value) (A : Around) (outer : List PySem.Env) (s : Shared) (H : HpA) (E : XK) (B : BOk (cxOf CX0 Pg w K mg base N41 "_law_at" (defScope s41) (fa 41) cd A outer s H E).nox (pmAt (tb K ca) lf k) (fs fa fd) k) : PSs (cxOf CX0 Pg w K mg base N41 "_law_at" (defScope s41) (fa 41) cd A outer s H E).nox (defBody s41) (dS (pmAt (tb K ca) lf k) b41) :=
  have sc := sc41
  (ss_cons (s_set (i := 2) sc.nd rfl (by first | exact Or.inl rfl | exact Or.inr rfl) d_int) (ss_cons (s_for B PassesOwn.never (i_seq B (d_slot 1)) (g_tup B (gs_cons (g_name (i := 3) sc.nd rfl (by first | exact Or.inl rfl | exact Or.inr rfl)) (gs_cons (g_name (i := 4) sc.nd rfl (by first | exact Or.inl rfl | exact Or.inr rfl)) gs_nil))) (ss_cons (s_set (i := 2) sc.nd rfl (by first | exact Or.inl rfl | exact Or.inr rfl) (d_bin B.x .mul (d_slot 2) (d_slot 4))) ss_nil)) (ss_cons (s_ret (d_cmp B.x .ge (d_bin B.x .add (d_bin B.x .mul (d_idx B.x (d_slot 0) d_int (fun _ _ => rfl)) (d_slot 2)) (d_bltB B (bi := 7) rfl G.n_sum (by decide +kernel) rfl (a_cons (d_comp B (own := [("by", 5), ("top", 3), ("own", 4)]) rfl (by decide) sc.nd (i_zip B G.n_zip rfl (d_idx B.x (d_slot 0) d_int (fun _ _ => rfl)) (d_slot 1)) (blkOk_by (by kernel_rfl)) (fun _ _ _ _ _ => (g_tup (B.blk _ _ _ _ _) (gs_cons (g_name (i := 5) sc.nd rfl (by first | exact Or.inl rfl | exact Or.inr rfl)) (gs_cons (g_tup (B.blk _ _ _ _ _) (gs_cons (g_name (i := 3) sc.nd rfl (by first | exact Or.inl rfl | exact Or.inr rfl)) (gs_cons (g_name (i := 4) sc.nd rfl (by first | exact Or.inl rfl | exact Or.inr rfl)) gs_nil))) gs_nil)))) (fun _ _ _ _ _ => ts_nil) (fun _ _ _ _ _ => (d_bin (B.blk _ _ _ _ _).x .mul (d_bin (B.blk _ _ _ _ _).x .mul (d_slot 5) (d_slot 3)) (d_bin (B.blk _ _ _ _ _).x .fdiv (d_slot 2) (d_slot 4))))) a_nil))) d_int (nmk .ge _))) ss_nil)))
theorem sc42 : FnScope N42 P42 (defScope s42) := ⟨rfl, rfl, rfl, by decide +kernel, rfl, by decide +kernel, by decide +kernel⟩
theorem der42 (G : GOk mg K ca fa) (cd : Value) (A : Around) (outer : List PySem.Env) (s : Shared) (H : HpA) (E : XK) (B : BOk (cxOf CX0 Pg w K mg base N42 "_law_right" (defScope s42) (fa 42) cd A outer s H E).nox (pmAt (tb K ca) lf k) (fs fa fd) k) : PSs (cxOf CX0 Pg w K mg base N42 "_law_right" (defScope s42) (fa 42) cd A outer s H E).nox (defBody s42) (dS (pmAt (tb K ca) lf k) b42) :=
  have sc := sc42
  (ss_cons (s_set (i := 1) sc.nd rfl (by first | exact Or.inl rfl | exact Or.inr rfl) (d_bltT B (bi := 2) rfl G.n_int (by decide +kernel) rfl (a_cons (d_bin B.x .add d_int (d_call B (f := 37) rfl G.f__law_take rfl (a_cons (d_slot 0) (a_cons d_int a_nil)))) a_nil))) (ss_cons (s_set (i := 2) sc.nd rfl (by first | exact Or.inl rfl | exact Or.inr rfl) (d_bltT B (bi := 8) rfl G.n_tuple (by decide +kernel) rfl (a_cons (d_comp B (own := [("lap", 8)]) rfl (by decide) sc.nd (i_rng1 G.n_range rfl (d_bin B.x .add d_int (d_call B (f := 37) rfl G.f__law_take rfl (a_cons (d_slot 0) (a_cons d_int a_nil))))) (blkOk_by (by kernel_rfl)) (fun _ _ _ _ _ => (g_name (i := 8) sc.nd rfl (by first | exact Or.inl rfl | exact Or.inr rfl))) (fun _ _ _ _ _ => ts_nil) (fun _ _ _ _ _ => (d_call (B.blk _ _ _ _ _) (f := 39) rfl G.f__law_row rfl (a_cons (d_slot 0) (a_cons (d_slot 1) a_nil))))) a_nil))) (ss_cons (s_set (i := 3) sc.nd rfl (by first | exact Or.inl rfl | exact Or.inr rfl) (d_call B (f := 40) rfl G.f__law_together rfl (a_cons (d_slot 0) (a_cons (d_slot 2) (a_cons (d_slot 1) a_nil))))) (ss_cons (s_set (i := 4) sc.nd rfl (by first | exact Or.inl rfl | exact Or.inr rfl) (d_call B (f := 40) rfl G.f__law_together rfl (a_cons (d_slot 0) (a_cons (d_bin B.x .add (d_slot 2) (d_tup (a_cons (d_slot 3) a_nil))) (a_cons (d_slot 1) a_nil))))) (ss_cons (s_if (PW.pt (w_or (t_cmp B.x .eq (d_idx B.x (d_call B (f := 34) rfl G.f_follows rfl (a_cons (d_slot 1) (a_cons (d_slot 2) (a_cons (d_slot 3) a_nil)))) d_int (fun _ _ => rfl)) (d_str rfl) (nmk .eq _)) (pw_or1 (t_cmp B.x .eq (d_idx B.x (d_call B (f := 34) rfl G.f_follows rfl (a_cons (d_slot 1) (a_cons (d_slot 2) (a_cons (d_slot 4) a_nil)))) d_int (fun _ _ => rfl)) (d_str rfl) (nmk .eq _))))) (ss_cons (s_ret d_bl) ss_nil) ss_nil) (ss_cons (s_asg (d_tup (a_cons (d_call B (f := 35) rfl G.f_holds_somewhere rfl (a_cons (d_slot 1) (a_cons (d_slot 2) a_nil))) (a_cons (d_call B (f := 39) rfl G.f__law_row rfl (a_cons (d_slot 0) (a_cons (d_slot 1) a_nil))) a_nil))) (g_tup B (gs_cons (g_name (i := 5) sc.nd rfl (by first | exact Or.inl rfl | exact Or.inr rfl)) (gs_cons (g_name (i := 6) sc.nd rfl (by first | exact Or.inl rfl | exact Or.inr rfl)) gs_nil)))) (ss_cons (s_if (PW.pt (w_and (t_cmp B.x .isn (d_slot 5) d_non (nmk .isn _)) (pw_and1 (d_notV B.x (t_val B.x (d_bltB B (bi := 5) rfl G.n_all (by decide +kernel) rfl (a_cons (d_comp B (own := [("row", 9)]) rfl (by decide) sc.nd (i_seq B (d_bin B.x .add (d_tup (a_cons (d_slot 3) (a_cons (d_slot 4) a_nil))) (d_slot 2))) (blkOk_by (by kernel_rfl)) (fun _ _ _ _ _ => (g_name (i := 9) sc.nd rfl (by first | exact Or.inl rfl | exact Or.inr rfl))) (fun _ _ _ _ _ => ts_nil) (fun _ _ _ _ _ => (d_call (B.blk _ _ _ _ _) (f := 41) rfl G.f__law_at rfl (a_cons (d_slot 9) (a_cons (d_slot 5) a_nil))))) a_nil))))))) (ss_cons (s_ret d_bl) ss_nil) ss_nil) (ss_cons (s_set (i := 7) sc.nd rfl (by first | exact Or.inl rfl | exact Or.inr rfl) (d_call B (f := 34) rfl G.f_follows rfl (a_cons (d_slot 1) (a_cons (d_slot 2) (a_cons (d_slot 6) a_nil))))) (ss_cons (s_if (t_cmp B.x .eq (d_idx B.x (d_slot 7) d_int (fun _ _ => rfl)) (d_str rfl) (nmk .eq _)) (ss_cons (s_if (PW.pt (w_or (d_notV B.x (t_val B.x (d_bltB B (bi := 5) rfl G.n_all (by decide +kernel) rfl (a_cons (d_comp B (own := [("row", 9)]) rfl (by decide) sc.nd (i_seq B (d_bin B.x .add (d_slot 2) (d_tup (a_cons (d_slot 3) (a_cons (d_slot 4) a_nil))))) (blkOk_by (by kernel_rfl)) (fun _ _ _ _ _ => (g_name (i := 9) sc.nd rfl (by first | exact Or.inl rfl | exact Or.inr rfl))) (fun _ _ _ _ _ => ts_nil) (fun _ _ _ _ _ => (d_call (B.blk _ _ _ _ _) (f := 41) rfl G.f__law_at rfl (a_cons (d_slot 9) (a_cons (d_idx (B.blk _ _ _ _ _).x (d_slot 7) d_int (fun _ _ => rfl)) a_nil))))) a_nil)))) (pw_or1 (t_val B.x (d_call B (f := 41) rfl G.f__law_at rfl (a_cons (d_slot 6) (a_cons (d_idx B.x (d_slot 7) d_int (fun _ _ => rfl)) a_nil))))))) (ss_cons (s_ret d_bl) ss_nil) ss_nil) (ss_cons (s_ret (d_cmp B.x .eq (d_idx B.x (d_call B (f := 34) rfl G.f_follows rfl (a_cons (d_slot 1) (a_cons (d_bin B.x .add (d_slot 2) (d_tup (a_cons (d_slot 3) (a_cons (d_slot 4) a_nil)))) (a_cons (d_slot 6) a_nil)))) d_int (fun _ _ => rfl)) (d_str rfl) (nmk .eq _))) ss_nil)) ss_nil) (ss_cons (s_ret (d_cmp B.x .ne (d_idx B.x (d_call B (f := 34) rfl G.f_follows rfl (a_cons (d_slot 1) (a_cons (d_bin B.x .add (d_rev B (d_slot 2)) (d_tup (a_cons (d_slot 4) a_nil))) (a_cons (d_slot 6) a_nil)))) d_int (fun _ _ => rfl)) (d_str rfl) (nmk .ne _))) ss_nil))))))))))
theorem sc43 : FnScope N43 P43 (defScope s43) := ⟨rfl, rfl, rfl, by decide +kernel, rfl, by decide +kernel, by decide +kernel⟩
theorem der43 (G : GOk mg K ca fa) (cd : Value) (A : Around) (outer : List PySem.Env) (s : Shared) (H : HpA) (E : XK) (B : BOk (cxOf CX0 Pg w K mg base N43 "law" (defScope s43) (fa 43) cd A outer s H E).nox (pmAt (tb K ca) lf k) (fs fa fd) k) : PSs (cxOf CX0 Pg w K mg base N43 "law" (defScope s43) (fa 43) cd A outer s H E).nox (defBody s43) (dS (pmAt (tb K ca) lf k) b43) :=
  have sc := sc43
  (ss_cons (s_for B PassesOwn.never (i_seq B (d_call B (f := 38) rfl G.f__law_cells rfl (a_cons (d_slot 0) (a_cons d_int a_nil)))) (g_name (i := 1) sc.nd rfl (by first | exact Or.inl rfl | exact Or.inr rfl)) (ss_cons (s_set (i := 2) sc.nd rfl (by first | exact Or.inl rfl | exact Or.inr rfl) (d_call B (f := 36) rfl G.f__law_pot rfl (a_cons (d_slot 0) (a_cons (d_slot 1) a_nil)))) (ss_cons (s_if (d_notV B.x (t_val B.x (d_bltB B (bi := 5) rfl G.n_all (by decide +kernel) rfl (a_cons (d_comp B (own := [("lap", 3)]) rfl (by decide) sc.nd (i_rng1 G.n_range rfl d_int) (blkOk_by (by kernel_rfl)) (fun _ _ _ _ _ => (g_name (i := 3) sc.nd rfl (by first | exact Or.inl rfl | exact Or.inr rfl))) (fun _ _ _ _ _ => ts_nil) (fun _ _ _ _ _ => (d_call (B.blk _ _ _ _ _) (f := 42) rfl G.f__law_right rfl (a_cons (d_slot 2) a_nil)))) a_nil)))) (ss_cons (s_ret d_bl) ss_nil) ss_nil) ss_nil))) (ss_cons (s_ret d_bl) ss_nil))
end
def dd0 : He.DefD := ⟨("is_integer", none), "is_integer", "is_integer", defArgs s0, defBody s0, defScope s0, [], []⟩
def dd1 : He.DefD := ⟨("is_between", none), "is_between", "is_between", defArgs s1, defBody s1, defScope s1, [], []⟩
def dd2 : He.DefD := ⟨("common", none), "common", "common", defArgs s2, defBody s2, defScope s2, [], []⟩
def dd3 : He.DefD := ⟨("reduced", none), "reduced", "reduced", defArgs s3, defBody s3, defScope s3, [], []⟩
def dd4 : He.DefD := ⟨("added", none), "added", "added", defArgs s4, defBody s4, defScope s4, [], []⟩
def dd5 : He.DefD := ⟨("difference", none), "difference", "difference", defArgs s5, defBody s5, defScope s5, [], []⟩
def dd6 : He.DefD := ⟨("product", none), "product", "product", defArgs s6, defBody s6, defScope s6, [], []⟩
def dd7 : He.DefD := ⟨("quotient", none), "quotient", "quotient", defArgs s7, defBody s7, defScope s7, [], []⟩
def dd8 : He.DefD := ⟨("less", none), "less", "less", defArgs s8, defBody s8, defScope s8, [], []⟩
def dd9 : He.DefD := ⟨("Tableau", some "__init__"), "__init__", "Tableau.__init__", defArgs s9, defBody s9, defScope s9, [], []⟩
def dd10 : He.DefD := ⟨("Tableau", some "first_row"), "first_row", "Tableau.first_row", defArgs s10, defBody s10, defScope s10, [], []⟩
def dd11 : He.DefD := ⟨("Tableau", some "first_cost"), "first_cost", "Tableau.first_cost", defArgs s11, defBody s11, defScope s11, [], []⟩
def dd12 : He.DefD := ⟨("Tableau", some "solve"), "solve", "Tableau.solve", defArgs s12, defBody s12, defScope s12, [], []⟩
def dd13 : He.DefD := ⟨("Tableau", some "entering"), "entering", "Tableau.entering", defArgs s13, defBody s13, defScope s13, [], []⟩
def dd14 : He.DefD := ⟨("Tableau", some "leaving"), "leaving", "Tableau.leaving", defArgs s14, defBody s14, defScope s14, [], []⟩
def dd15 : He.DefD := ⟨("Tableau", some "turn"), "turn", "Tableau.turn", defArgs s15, defBody s15, defScope s15, [], []⟩
def dd16 : He.DefD := ⟨("Tableau", some "is_solved"), "is_solved", "Tableau.is_solved", defArgs s16, defBody s16, defScope s16, [], []⟩
def dd17 : He.DefD := ⟨("Tableau", some "parts"), "parts", "Tableau.parts", defArgs s17, defBody s17, defScope s17, [], []⟩
def dd18 : He.DefD := ⟨("Tableau", some "prices"), "prices", "Tableau.prices", defArgs s18, defBody s18, defScope s18, [], []⟩
def dd19 : He.DefD := ⟨("less_by", none), "less_by", "less_by", defArgs s19, defBody s19, defScope s19, [], []⟩
def dd20 : He.DefD := ⟨("parts_for", none), "parts_for", "parts_for", defArgs s20, defBody s20, defScope s20, [], []⟩
def dd21 : He.DefD := ⟨("is_row", none), "is_row", "is_row", defArgs s21, defBody s21, defScope s21, [], []⟩
def dd22 : He.DefD := ⟨("check_rows", none), "check_rows", "check_rows", defArgs s22, defBody s22, defScope s22, [], []⟩
def dd23 : He.DefD := ⟨("check_following", none), "check_following", "check_following", defArgs s23, defBody s23, defScope s23, [], []⟩
def dd24 : He.DefD := ⟨("whole", none), "whole", "whole", defArgs s24, defBody s24, defScope s24, [], []⟩
def dd25 : He.DefD := ⟨("column_of", none), "column_of", "column_of", defArgs s25, defBody s25, defScope s25, [], []⟩
def dd26 : He.DefD := ⟨("rest_column", none), "rest_column", "rest_column", defArgs s26, defBody s26, defScope s26, [], []⟩
def dd27 : He.DefD := ⟨("value_at", none), "value_at", "value_at", defArgs s27, defBody s27, defScope s27, [], []⟩
def dd28 : He.DefD := ⟨("turned_prices", none), "turned_prices", "turned_prices", defArgs s28, defBody s28, defScope s28, [], []⟩
def dd29 : He.DefD := ⟨("spot_of", none), "spot_of", "spot_of", defArgs s29, defBody s29, defScope s29, [], []⟩
def dd30 : He.DefD := ⟨("some_spot", none), "some_spot", "some_spot", defArgs s30, defBody s30, defScope s30, [], []⟩
def dd31 : He.DefD := ⟨("spot_along", none), "spot_along", "spot_along", defArgs s31, defBody s31, defScope s31, [], []⟩
def dd32 : He.DefD := ⟨("quick_times", none), "quick_times", "quick_times", defArgs s32, defBody s32, defScope s32, [], []⟩
def dd33 : He.DefD := ⟨("told_following", none), "told_following", "told_following", defArgs s33, defBody s33, defScope s33, [], []⟩
def dd34 : He.DefD := ⟨("follows", none), "follows", "follows", defArgs s34, defBody s34, defScope s34, [], []⟩
def dd35 : He.DefD := ⟨("holds_somewhere", none), "holds_somewhere", "holds_somewhere", defArgs s35, defBody s35, defScope s35, [], []⟩
def dd36 : He.DefD := ⟨("_law_pot", none), "_law_pot", "_law_pot", defArgs s36, defBody s36, defScope s36, [], []⟩
def dd37 : He.DefD := ⟨("_law_take", none), "_law_take", "_law_take", defArgs s37, defBody s37, defScope s37, [], []⟩
def dd38 : He.DefD := ⟨("_law_cells", none), "_law_cells", "_law_cells", defArgs s38, defBody s38, defScope s38, [], []⟩
def dd39 : He.DefD := ⟨("_law_row", none), "_law_row", "_law_row", defArgs s39, defBody s39, defScope s39, [], []⟩
def dd40 : He.DefD := ⟨("_law_together", none), "_law_together", "_law_together", defArgs s40, defBody s40, defScope s40, [], []⟩
def dd41 : He.DefD := ⟨("_law_at", none), "_law_at", "_law_at", defArgs s41, defBody s41, defScope s41, [], []⟩
def dd42 : He.DefD := ⟨("_law_right", none), "_law_right", "_law_right", defArgs s42, defBody s42, defScope s42, [], []⟩
def dd43 : He.DefD := ⟨("law", none), "law", "law", defArgs s43, defBody s43, defScope s43, [], []⟩
def fnL : List He.DefD := [dd0, dd1, dd2, dd3, dd4, dd5, dd6, dd7, dd8, dd9, dd10, dd11, dd12, dd13, dd14, dd15, dd16, dd17, dd18, dd19, dd20, dd21, dd22, dd23, dd24, dd25, dd26, dd27, dd28, dd29, dd30, dd31, dd32, dd33, dd34, dd35, dd36, dd37, dd38, dd39, dd40, dd41, dd42, dd43]
def atL : List (Str × Option Str) := [(("is_integer", none) : Str × Option Str), (("is_between", none) : Str × Option Str), (("common", none) : Str × Option Str), (("reduced", none) : Str × Option Str), (("added", none) : Str × Option Str), (("difference", none) : Str × Option Str), (("product", none) : Str × Option Str), (("quotient", none) : Str × Option Str), (("less", none) : Str × Option Str), (("Tableau", some "__init__") : Str × Option Str), (("Tableau", some "first_row") : Str × Option Str), (("Tableau", some "first_cost") : Str × Option Str), (("Tableau", some "solve") : Str × Option Str), (("Tableau", some "entering") : Str × Option Str), (("Tableau", some "leaving") : Str × Option Str), (("Tableau", some "turn") : Str × Option Str), (("Tableau", some "is_solved") : Str × Option Str), (("Tableau", some "parts") : Str × Option Str), (("Tableau", some "prices") : Str × Option Str), (("less_by", none) : Str × Option Str), (("parts_for", none) : Str × Option Str), (("is_row", none) : Str × Option Str), (("check_rows", none) : Str × Option Str), (("check_following", none) : Str × Option Str), (("whole", none) : Str × Option Str), (("column_of", none) : Str × Option Str), (("rest_column", none) : Str × Option Str), (("value_at", none) : Str × Option Str), (("turned_prices", none) : Str × Option Str), (("spot_of", none) : Str × Option Str), (("some_spot", none) : Str × Option Str), (("spot_along", none) : Str × Option Str), (("quick_times", none) : Str × Option Str), (("told_following", none) : Str × Option Str), (("follows", none) : Str × Option Str), (("holds_somewhere", none) : Str × Option Str), (("_law_pot", none) : Str × Option Str), (("_law_take", none) : Str × Option Str), (("_law_cells", none) : Str × Option Str), (("_law_row", none) : Str × Option Str), (("_law_together", none) : Str × Option Str), (("_law_at", none) : Str × Option Str), (("_law_right", none) : Str × Option Str), (("law", none) : Str × Option Str)]
def clN : List Str := ["Tableau"]
def faF (K : PySem.W.Frag) (i : Nat) : Addr := He.fAd K ((nth atL i).getD ("", none))
def caF (K : PySem.W.Frag) (i : Nat) : Addr := He.ga K ((nth clN i).getD "")
def faL : List He.Fa := [.glo "is_integer", .glo "is_between", .glo "common", .glo "reduced", .glo "added", .glo "difference", .glo "product", .glo "quotient", .glo "less", .glo "less_by", .glo "parts_for", .glo "is_row", .glo "check_rows", .glo "check_following", .glo "whole", .glo "column_of", .glo "rest_column", .glo "value_at", .glo "turned_prices", .glo "spot_of", .glo "some_spot", .glo "spot_along", .glo "quick_times", .glo "told_following", .glo "follows", .glo "holds_somewhere", .glo "_law_pot", .glo "_law_take", .glo "_law_cells", .glo "_law_row", .glo "_law_together", .glo "_law_at", .glo "_law_right", .glo "law", .glo "Tableau", .free "abs", .free "all", .free "bool", .free "enumerate", .free "int", .free "isinstance", .free "len", .free "list", .free "max", .free "min", .free "range", .free "sum", .free "tuple", .free "zip", .int "MOST_COLUMNS" 24, .int "MOST_ROWS" 60, .str "NEVER" ⟨#[110, 101, 118, 101, 114]⟩, .glo "NOTHING", .glo "ONE", .str "SPOT" ⟨#[115, 112, 111, 116]⟩, .str "TIMES" ⟨#[116, 105, 109, 101, 115]⟩, .cls "Tableau", .noat "Tableau" "own_cost", .noat "Tableau" "own_basis", .noat "Tableau" "own_rows", .noat "Tableau" "own_signs", .noat "Tableau" "own_high", .noat "Tableau" "own_many", .meth "Tableau" "prices", .meth "Tableau" "parts", .meth "Tableau" "is_solved", .meth "Tableau" "turn", .meth "Tableau" "leaving", .meth "Tableau" "entering", .meth "Tableau" "solve", .meth "Tableau" "first_cost", .meth "Tableau" "first_row", .mkr "Tableau"]
def tpL : List (Str × List He.Dv) := [("NOTHING", [.int 0, .int 1]), ("ONE", [.int 1, .int 1])]
section
variable {K : PySem.W.Frag} {h : Heap} {mg : Str → Option Value} (X : K.In h) (G0 : h.Ns mainGlobals mg) (c : SaysT faL fnL tpL K)
include X G0 c in
theorem gok : GOk mg K (caF K) (faF K) :=
  ⟨He.glo_ok X G0 (c.d.fact 0 (f := .glo "is_integer") rfl),
   He.glo_ok X G0 (c.d.fact 1 (f := .glo "is_between") rfl),
   He.glo_ok X G0 (c.d.fact 2 (f := .glo "common") rfl),
   He.glo_ok X G0 (c.d.fact 3 (f := .glo "reduced") rfl),
   He.glo_ok X G0 (c.d.fact 4 (f := .glo "added") rfl),
   He.glo_ok X G0 (c.d.fact 5 (f := .glo "difference") rfl),
   He.glo_ok X G0 (c.d.fact 6 (f := .glo "product") rfl),
   He.glo_ok X G0 (c.d.fact 7 (f := .glo "quotient") rfl),
   He.glo_ok X G0 (c.d.fact 8 (f := .glo "less") rfl),
   He.glo_ok X G0 (c.d.fact 9 (f := .glo "less_by") rfl),
   He.glo_ok X G0 (c.d.fact 10 (f := .glo "parts_for") rfl),
   He.glo_ok X G0 (c.d.fact 11 (f := .glo "is_row") rfl),
   He.glo_ok X G0 (c.d.fact 12 (f := .glo "check_rows") rfl),
   He.glo_ok X G0 (c.d.fact 13 (f := .glo "check_following") rfl),
   He.glo_ok X G0 (c.d.fact 14 (f := .glo "whole") rfl),
   He.glo_ok X G0 (c.d.fact 15 (f := .glo "column_of") rfl),
   He.glo_ok X G0 (c.d.fact 16 (f := .glo "rest_column") rfl),
   He.glo_ok X G0 (c.d.fact 17 (f := .glo "value_at") rfl),
   He.glo_ok X G0 (c.d.fact 18 (f := .glo "turned_prices") rfl),
   He.glo_ok X G0 (c.d.fact 19 (f := .glo "spot_of") rfl),
   He.glo_ok X G0 (c.d.fact 20 (f := .glo "some_spot") rfl),
   He.glo_ok X G0 (c.d.fact 21 (f := .glo "spot_along") rfl),
   He.glo_ok X G0 (c.d.fact 22 (f := .glo "quick_times") rfl),
   He.glo_ok X G0 (c.d.fact 23 (f := .glo "told_following") rfl),
   He.glo_ok X G0 (c.d.fact 24 (f := .glo "follows") rfl),
   He.glo_ok X G0 (c.d.fact 25 (f := .glo "holds_somewhere") rfl),
   He.glo_ok X G0 (c.d.fact 26 (f := .glo "_law_pot") rfl),
   He.glo_ok X G0 (c.d.fact 27 (f := .glo "_law_take") rfl),
   He.glo_ok X G0 (c.d.fact 28 (f := .glo "_law_cells") rfl),
   He.glo_ok X G0 (c.d.fact 29 (f := .glo "_law_row") rfl),
   He.glo_ok X G0 (c.d.fact 30 (f := .glo "_law_together") rfl),
   He.glo_ok X G0 (c.d.fact 31 (f := .glo "_law_at") rfl),
   He.glo_ok X G0 (c.d.fact 32 (f := .glo "_law_right") rfl),
   He.glo_ok X G0 (c.d.fact 33 (f := .glo "law") rfl),
   He.glo_ok X G0 (c.d.fact 34 (f := .glo "Tableau") rfl),
   He.free_ok X G0 (c.d.fact 35 (f := .free "abs") rfl),
   He.free_ok X G0 (c.d.fact 36 (f := .free "all") rfl),
   He.free_ok X G0 (c.d.fact 37 (f := .free "bool") rfl),
   He.free_ok X G0 (c.d.fact 38 (f := .free "enumerate") rfl),
   He.free_ok X G0 (c.d.fact 39 (f := .free "int") rfl),
   He.free_ok X G0 (c.d.fact 40 (f := .free "isinstance") rfl),
   He.free_ok X G0 (c.d.fact 41 (f := .free "len") rfl),
   He.free_ok X G0 (c.d.fact 42 (f := .free "list") rfl),
   He.free_ok X G0 (c.d.fact 43 (f := .free "max") rfl),
   He.free_ok X G0 (c.d.fact 44 (f := .free "min") rfl),
   He.free_ok X G0 (c.d.fact 45 (f := .free "range") rfl),
   He.free_ok X G0 (c.d.fact 46 (f := .free "sum") rfl),
   He.free_ok X G0 (c.d.fact 47 (f := .free "tuple") rfl),
   He.free_ok X G0 (c.d.fact 48 (f := .free "zip") rfl),
   (He.int_ok X G0 (c.d.fact 49 (f := .int "MOST_COLUMNS" 24) rfl)).elim fun t e => ⟨.int 24, .int 24 t, e, ⟨t, rfl⟩, fun _ _ => .int _⟩,
   (He.int_ok X G0 (c.d.fact 50 (f := .int "MOST_ROWS" 60) rfl)).elim fun t e => ⟨.int 60, .int 60 t, e, ⟨t, rfl⟩, fun _ _ => .int _⟩,
   (He.str_ok X G0 (c.d.fact 51 (f := .str "NEVER" ⟨#[110, 101, 118, 101, 114]⟩) rfl)).elim fun t e => ⟨.str ⟨#[110, 101, 118, 101, 114]⟩, .str ⟨#[110, 101, 118, 101, 114]⟩ t, e, ⟨t, rfl⟩, fun _ _ => .str _⟩,
   ⟨.ref (He.ga K "NOTHING"), .ref (He.ga K "NOTHING"), He.glo_ok X G0 (c.d.fact 52 (f := .glo "NOTHING") rfl), rfl, fun ι H => .tup (He.tupB_ok (c.t 0 rfl) H) (.cons (.int _) (.cons (.int _) .nil))⟩,
   ⟨.ref (He.ga K "ONE"), .ref (He.ga K "ONE"), He.glo_ok X G0 (c.d.fact 53 (f := .glo "ONE") rfl), rfl, fun ι H => .tup (He.tupB_ok (c.t 1 rfl) H) (.cons (.int _) (.cons (.int _) .nil))⟩,
   (He.str_ok X G0 (c.d.fact 54 (f := .str "SPOT" ⟨#[115, 112, 111, 116]⟩) rfl)).elim fun t e => ⟨.str ⟨#[115, 112, 111, 116]⟩, .str ⟨#[115, 112, 111, 116]⟩ t, e, ⟨t, rfl⟩, fun _ _ => .str _⟩,
   (He.str_ok X G0 (c.d.fact 55 (f := .str "TIMES" ⟨#[116, 105, 109, 101, 115]⟩) rfl)).elim fun t e => ⟨.str ⟨#[116, 105, 109, 101, 115]⟩, .str ⟨#[116, 105, 109, 101, 115]⟩ t, e, ⟨t, rfl⟩, fun _ _ => .str _⟩⟩
theorem an_nd : anL.Nodup := by decide +kernel
theorem an_ne : ("" : Str) ∉ anL := by decide +kernel
include c in
theorem tok : TOk (tb K (caF K)) := by
  refine ⟨fun i k hc => ?_, fun i k f hc hf => ?_, fun i k f g hc hf e => ?_, fun i k m f hc hm => ?_⟩
  ·
    have lt : i < 1 := nth_lt (l := clL) hc
    by_cases q0 : i = 0
    · subst q0
      have e0 := Option.some.inj (show some (⟨[(6, 10), (3, 11), (0, 12), (9, 13), (11, 14), (10, 15), (12, 16), (13, 17), (14, 18)], [1, 2, 8, 7, 5, 4], some 9⟩ : CI) = some k from hc)
      subst e0
      exact He.cls_ok (c.d.fact 56 (f := .cls "Tableau") rfl)
    exact absurd lt (by omega)
  ·
    have lt : i < 1 := nth_lt (l := clL) hc
    by_cases q0 : i = 0
    · subst q0
      have e0 := Option.some.inj (show some (⟨[(6, 10), (3, 11), (0, 12), (9, 13), (11, 14), (10, 15), (12, 16), (13, 17), (14, 18)], [1, 2, 8, 7, 5, 4], some 9⟩ : CI) = some k from hc)
      subst e0
      exact (List.forall_mem_cons.mpr ⟨He.noat_ok (c.d.fact 62 (f := .noat "Tableau" "own_many") rfl), List.forall_mem_cons.mpr ⟨He.noat_ok (c.d.fact 61 (f := .noat "Tableau" "own_high") rfl), List.forall_mem_cons.mpr ⟨He.noat_ok (c.d.fact 60 (f := .noat "Tableau" "own_signs") rfl), List.forall_mem_cons.mpr ⟨He.noat_ok (c.d.fact 59 (f := .noat "Tableau" "own_rows") rfl), List.forall_mem_cons.mpr ⟨He.noat_ok (c.d.fact 58 (f := .noat "Tableau" "own_basis") rfl), List.forall_mem_cons.mpr ⟨He.noat_ok (c.d.fact 57 (f := .noat "Tableau" "own_cost") rfl), fun _ h => nomatch h⟩⟩⟩⟩⟩⟩ : ∀ f ∈ ([1, 2, 8, 7, 5, 4] : List Nat), NoAttr K (caF K 0) (anF f)) f (memN_mem hf)
    exact absurd lt (by omega)
  ·
    have lt : i < 1 := nth_lt (l := clL) hc
    by_cases q0 : i = 0
    · subst q0
      have e0 := Option.some.inj (show some (⟨[(6, 10), (3, 11), (0, 12), (9, 13), (11, 14), (10, 15), (12, 16), (13, 17), (14, 18)], [1, 2, 8, 7, 5, 4], some 9⟩ : CI) = some k from hc)
      subst e0
      have hl : f < anL.length := (by decide : ∀ f ∈ ([1, 2, 8, 7, 5, 4] : List Nat), f < anL.length) f (memN_mem hf)
      exact an_inj an_nd an_ne hl e
    exact absurd lt (by omega)
  ·
    have lt : i < 1 := nth_lt (l := clL) hc
    by_cases q0 : i = 0
    · subst q0
      have e0 := Option.some.inj (show some (⟨[(6, 10), (3, 11), (0, 12), (9, 13), (11, 14), (10, 15), (12, 16), (13, 17), (14, 18)], [1, 2, 8, 7, 5, 4], some 9⟩ : CI) = some k from hc)
      subst e0
      exact (by decide : ∀ p ∈ ([(6, 10), (3, 11), (0, 12), (9, 13), (11, 14), (10, 15), (12, 16), (13, 17), (14, 18)] : List (Nat × Nat)), memN p.1 ([1, 2, 8, 7, 5, 4] : List Nat) = false) _ (lookN_mem hm)
    exact absurd lt (by omega)
include c in
theorem mok (fd : Nat → FuncData) : MOk (tb K (caF K)) (fs (faF K) fd) := by
  refine ⟨fun i k m f hc hm => ?_, fun i k f hc hf => ?_⟩
  ·
    have lt : i < 1 := nth_lt (l := clL) hc
    by_cases q0 : i = 0
    · subst q0
      have e0 := Option.some.inj (show some (⟨[(6, 10), (3, 11), (0, 12), (9, 13), (11, 14), (10, 15), (12, 16), (13, 17), (14, 18)], [1, 2, 8, 7, 5, 4], some 9⟩ : CI) = some k from hc)
      subst e0
      exact (List.forall_mem_cons.mpr ⟨⟨He.meth_ok (c.d.fact 71 (f := .meth "Tableau" "first_row") rfl), _, rfl⟩, List.forall_mem_cons.mpr ⟨⟨He.meth_ok (c.d.fact 70 (f := .meth "Tableau" "first_cost") rfl), _, rfl⟩, List.forall_mem_cons.mpr ⟨⟨He.meth_ok (c.d.fact 69 (f := .meth "Tableau" "solve") rfl), _, rfl⟩, List.forall_mem_cons.mpr ⟨⟨He.meth_ok (c.d.fact 68 (f := .meth "Tableau" "entering") rfl), _, rfl⟩, List.forall_mem_cons.mpr ⟨⟨He.meth_ok (c.d.fact 67 (f := .meth "Tableau" "leaving") rfl), _, rfl⟩, List.forall_mem_cons.mpr ⟨⟨He.meth_ok (c.d.fact 66 (f := .meth "Tableau" "turn") rfl), _, rfl⟩, List.forall_mem_cons.mpr ⟨⟨He.meth_ok (c.d.fact 65 (f := .meth "Tableau" "is_solved") rfl), _, rfl⟩, List.forall_mem_cons.mpr ⟨⟨He.meth_ok (c.d.fact 64 (f := .meth "Tableau" "parts") rfl), _, rfl⟩, List.forall_mem_cons.mpr ⟨⟨He.meth_ok (c.d.fact 63 (f := .meth "Tableau" "prices") rfl), _, rfl⟩, fun _ h => nomatch h⟩⟩⟩⟩⟩⟩⟩⟩⟩ : ∀ p ∈ ([(6, 10), (3, 11), (0, 12), (9, 13), (11, 14), (10, 15), (12, 16), (13, 17), (14, 18)] : List (Nat × Nat)), Meth K (caF K 0) (anF p.1) (faF K p.2) ∧ ∃ x, nth fiL p.2 = some x) _ (lookN_mem hm)
    exact absurd lt (by omega)
  ·
    have lt : i < 1 := nth_lt (l := clL) hc
    by_cases q0 : i = 0
    · subst q0
      have e0 := Option.some.inj (show some (⟨[(6, 10), (3, 11), (0, 12), (9, 13), (11, 14), (10, 15), (12, 16), (13, 17), (14, 18)], [1, 2, 8, 7, 5, 4], some 9⟩ : CI) = some k from hc)
      subst e0
      cases hf
      exact ⟨He.mkr_ok (c.d.fact 72 (f := .mkr "Tableau") rfl), _, rfl⟩
    exact absurd lt (by omega)
def FDs (K : PySem.W.Frag) (fd : Nat → FuncData) : Prop := ∀ i d, fnL[i]? = some d → FunD K d.name d.qual d.params d.body d.scope (d.dvs K) (d.kws K) (He.fAd K d.at_) (fd i)
theorem hold {fi : Nat} {i : FI} {R : Nat → FI → Prop} (hi : nth fiL fi = some i)
    (r0 : R 0 ⟨1, 1, b0⟩)
    (r1 : R 1 ⟨3, 3, b1⟩)
    (r2 : R 2 ⟨2, 2, b2⟩)
    (r3 : R 3 ⟨2, 3, b3⟩)
    (r4 : R 4 ⟨2, 2, b4⟩)
    (r5 : R 5 ⟨2, 2, b5⟩)
    (r6 : R 6 ⟨2, 2, b6⟩)
    (r7 : R 7 ⟨2, 2, b7⟩)
    (r8 : R 8 ⟨2, 2, b8⟩)
    (r9 : R 9 ⟨3, 6, b9⟩)
    (r10 : R 10 ⟨4, 8, b10⟩)
    (r11 : R 11 ⟨2, 4, b11⟩)
    (r12 : R 12 ⟨1, 2, b12⟩)
    (r13 : R 13 ⟨1, 2, b13⟩)
    (r14 : R 14 ⟨2, 6, b14⟩)
    (r15 : R 15 ⟨3, 6, b15⟩)
    (r16 : R 16 ⟨1, 1, b16⟩)
    (r17 : R 17 ⟨1, 4, b17⟩)
    (r18 : R 18 ⟨1, 5, b18⟩)
    (r19 : R 19 ⟨3, 6, b19⟩)
    (r20 : R 20 ⟨2, 3, b20⟩)
    (r21 : R 21 ⟨2, 3, b21⟩)
    (r22 : R 22 ⟨2, 3, b22⟩)
    (r23 : R 23 ⟨3, 3, b23⟩)
    (r24 : R 24 ⟨1, 4, b24⟩)
    (r25 : R 25 ⟨1, 1, b25⟩)
    (r26 : R 26 ⟨1, 1, b26⟩)
    (r27 : R 27 ⟨2, 5, b27⟩)
    (r28 : R 28 ⟨1, 3, b28⟩)
    (r29 : R 29 ⟨1, 4, b29⟩)
    (r30 : R 30 ⟨2, 6, b30⟩)
    (r31 : R 31 ⟨3, 8, b31⟩)
    (r32 : R 32 ⟨2, 6, b32⟩)
    (r33 : R 33 ⟨3, 12, b33⟩)
    (r34 : R 34 ⟨3, 3, b34⟩)
    (r35 : R 35 ⟨2, 4, b35⟩)
    (r36 : R 36 ⟨2, 5, b36⟩)
    (r37 : R 37 ⟨2, 5, b37⟩)
    (r38 : R 38 ⟨2, 2, b38⟩)
    (r39 : R 39 ⟨2, 3, b39⟩)
    (r40 : R 40 ⟨3, 8, b40⟩)
    (r41 : R 41 ⟨2, 6, b41⟩)
    (r42 : R 42 ⟨1, 10, b42⟩)
    (r43 : R 43 ⟨1, 4, b43⟩)
    : R fi i := by
  have lt : fi < 44 := nth_lt (l := fiL) hi
  by_cases q0 : fi = 0
  · subst q0; exact (Option.some.inj (show some (⟨1, 1, b0⟩ : FI) = some i from hi)) ▸ r0
  by_cases q1 : fi = 1
  · subst q1; exact (Option.some.inj (show some (⟨3, 3, b1⟩ : FI) = some i from hi)) ▸ r1
  by_cases q2 : fi = 2
  · subst q2; exact (Option.some.inj (show some (⟨2, 2, b2⟩ : FI) = some i from hi)) ▸ r2
  by_cases q3 : fi = 3
  · subst q3; exact (Option.some.inj (show some (⟨2, 3, b3⟩ : FI) = some i from hi)) ▸ r3
  by_cases q4 : fi = 4
  · subst q4; exact (Option.some.inj (show some (⟨2, 2, b4⟩ : FI) = some i from hi)) ▸ r4
  by_cases q5 : fi = 5
  · subst q5; exact (Option.some.inj (show some (⟨2, 2, b5⟩ : FI) = some i from hi)) ▸ r5
  by_cases q6 : fi = 6
  · subst q6; exact (Option.some.inj (show some (⟨2, 2, b6⟩ : FI) = some i from hi)) ▸ r6
  by_cases q7 : fi = 7
  · subst q7; exact (Option.some.inj (show some (⟨2, 2, b7⟩ : FI) = some i from hi)) ▸ r7
  by_cases q8 : fi = 8
  · subst q8; exact (Option.some.inj (show some (⟨2, 2, b8⟩ : FI) = some i from hi)) ▸ r8
  by_cases q9 : fi = 9
  · subst q9; exact (Option.some.inj (show some (⟨3, 6, b9⟩ : FI) = some i from hi)) ▸ r9
  by_cases q10 : fi = 10
  · subst q10; exact (Option.some.inj (show some (⟨4, 8, b10⟩ : FI) = some i from hi)) ▸ r10
  by_cases q11 : fi = 11
  · subst q11; exact (Option.some.inj (show some (⟨2, 4, b11⟩ : FI) = some i from hi)) ▸ r11
  by_cases q12 : fi = 12
  · subst q12; exact (Option.some.inj (show some (⟨1, 2, b12⟩ : FI) = some i from hi)) ▸ r12
  by_cases q13 : fi = 13
  · subst q13; exact (Option.some.inj (show some (⟨1, 2, b13⟩ : FI) = some i from hi)) ▸ r13
  by_cases q14 : fi = 14
  · subst q14; exact (Option.some.inj (show some (⟨2, 6, b14⟩ : FI) = some i from hi)) ▸ r14
  by_cases q15 : fi = 15
  · subst q15; exact (Option.some.inj (show some (⟨3, 6, b15⟩ : FI) = some i from hi)) ▸ r15
  by_cases q16 : fi = 16
  · subst q16; exact (Option.some.inj (show some (⟨1, 1, b16⟩ : FI) = some i from hi)) ▸ r16
  by_cases q17 : fi = 17
  · subst q17; exact (Option.some.inj (show some (⟨1, 4, b17⟩ : FI) = some i from hi)) ▸ r17
  by_cases q18 : fi = 18
  · subst q18; exact (Option.some.inj (show some (⟨1, 5, b18⟩ : FI) = some i from hi)) ▸ r18
  by_cases q19 : fi = 19
  · subst q19; exact (Option.some.inj (show some (⟨3, 6, b19⟩ : FI) = some i from hi)) ▸ r19
  by_cases q20 : fi = 20
  · subst q20; exact (Option.some.inj (show some (⟨2, 3, b20⟩ : FI) = some i from hi)) ▸ r20
  by_cases q21 : fi = 21
  · subst q21; exact (Option.some.inj (show some (⟨2, 3, b21⟩ : FI) = some i from hi)) ▸ r21
  by_cases q22 : fi = 22
  · subst q22; exact (Option.some.inj (show some (⟨2, 3, b22⟩ : FI) = some i from hi)) ▸ r22
  by_cases q23 : fi = 23
  · subst q23; exact (Option.some.inj (show some (⟨3, 3, b23⟩ : FI) = some i from hi)) ▸ r23
  by_cases q24 : fi = 24
  · subst q24; exact (Option.some.inj (show some (⟨1, 4, b24⟩ : FI) = some i from hi)) ▸ r24
  by_cases q25 : fi = 25
  · subst q25; exact (Option.some.inj (show some (⟨1, 1, b25⟩ : FI) = some i from hi)) ▸ r25
  by_cases q26 : fi = 26
  · subst q26; exact (Option.some.inj (show some (⟨1, 1, b26⟩ : FI) = some i from hi)) ▸ r26
  by_cases q27 : fi = 27
  · subst q27; exact (Option.some.inj (show some (⟨2, 5, b27⟩ : FI) = some i from hi)) ▸ r27
  by_cases q28 : fi = 28
  · subst q28; exact (Option.some.inj (show some (⟨1, 3, b28⟩ : FI) = some i from hi)) ▸ r28
  by_cases q29 : fi = 29
  · subst q29; exact (Option.some.inj (show some (⟨1, 4, b29⟩ : FI) = some i from hi)) ▸ r29
  by_cases q30 : fi = 30
  · subst q30; exact (Option.some.inj (show some (⟨2, 6, b30⟩ : FI) = some i from hi)) ▸ r30
  by_cases q31 : fi = 31
  · subst q31; exact (Option.some.inj (show some (⟨3, 8, b31⟩ : FI) = some i from hi)) ▸ r31
  by_cases q32 : fi = 32
  · subst q32; exact (Option.some.inj (show some (⟨2, 6, b32⟩ : FI) = some i from hi)) ▸ r32
  by_cases q33 : fi = 33
  · subst q33; exact (Option.some.inj (show some (⟨3, 12, b33⟩ : FI) = some i from hi)) ▸ r33
  by_cases q34 : fi = 34
  · subst q34; exact (Option.some.inj (show some (⟨3, 3, b34⟩ : FI) = some i from hi)) ▸ r34
  by_cases q35 : fi = 35
  · subst q35; exact (Option.some.inj (show some (⟨2, 4, b35⟩ : FI) = some i from hi)) ▸ r35
  by_cases q36 : fi = 36
  · subst q36; exact (Option.some.inj (show some (⟨2, 5, b36⟩ : FI) = some i from hi)) ▸ r36
  by_cases q37 : fi = 37
  · subst q37; exact (Option.some.inj (show some (⟨2, 5, b37⟩ : FI) = some i from hi)) ▸ r37
  by_cases q38 : fi = 38
  · subst q38; exact (Option.some.inj (show some (⟨2, 2, b38⟩ : FI) = some i from hi)) ▸ r38
  by_cases q39 : fi = 39
  · subst q39; exact (Option.some.inj (show some (⟨2, 3, b39⟩ : FI) = some i from hi)) ▸ r39
  by_cases q40 : fi = 40
  · subst q40; exact (Option.some.inj (show some (⟨3, 8, b40⟩ : FI) = some i from hi)) ▸ r40
  by_cases q41 : fi = 41
  · subst q41; exact (Option.some.inj (show some (⟨2, 6, b41⟩ : FI) = some i from hi)) ▸ r41
  by_cases q42 : fi = 42
  · subst q42; exact (Option.some.inj (show some (⟨1, 10, b42⟩ : FI) = some i from hi)) ▸ r42
  by_cases q43 : fi = 43
  · subst q43; exact (Option.some.inj (show some (⟨1, 4, b43⟩ : FI) = some i from hi)) ▸ r43
  exact absurd lt (by omega)
include c in
theorem topok {fd : Nat → FuncData} (fds : FDs K fd) : TopOk K (tb K (caF K)) (fs (faF K) fd) where
  hK := rfl
  t := tok c
  m := mok c fd
  bnd := fun fi i hi => hold (R := fun fi i => Binds K (fd fi) ((fs (faF K) fd).ps fi) []) hi
    (FunD.bindsN (ps := P0) (fds 0 _ rfl) fun _ _ _ _ _ _ us hl => match us, hl with | [_], _ => rfl)
    (FunD.bindsN (ps := P1) (fds 1 _ rfl) fun _ _ _ _ _ _ us hl => match us, hl with | [_, _, _], _ => rfl)
    (FunD.bindsN (ps := P2) (fds 2 _ rfl) fun _ _ _ _ _ _ us hl => match us, hl with | [_, _], _ => rfl)
    (FunD.bindsN (ps := P3) (fds 3 _ rfl) fun _ _ _ _ _ _ us hl => match us, hl with | [_, _], _ => rfl)
    (FunD.bindsN (ps := P4) (fds 4 _ rfl) fun _ _ _ _ _ _ us hl => match us, hl with | [_, _], _ => rfl)
    (FunD.bindsN (ps := P5) (fds 5 _ rfl) fun _ _ _ _ _ _ us hl => match us, hl with | [_, _], _ => rfl)
    (FunD.bindsN (ps := P6) (fds 6 _ rfl) fun _ _ _ _ _ _ us hl => match us, hl with | [_, _], _ => rfl)
    (FunD.bindsN (ps := P7) (fds 7 _ rfl) fun _ _ _ _ _ _ us hl => match us, hl with | [_, _], _ => rfl)
    (FunD.bindsN (ps := P8) (fds 8 _ rfl) fun _ _ _ _ _ _ us hl => match us, hl with | [_, _], _ => rfl)
    (FunD.bindsN (ps := P9) (fds 9 _ rfl) fun _ _ _ _ _ _ us hl => match us, hl with | [_, _, _], _ => rfl)
    (FunD.bindsN (ps := P10) (fds 10 _ rfl) fun _ _ _ _ _ _ us hl => match us, hl with | [_, _, _, _], _ => rfl)
    (FunD.bindsN (ps := P11) (fds 11 _ rfl) fun _ _ _ _ _ _ us hl => match us, hl with | [_, _], _ => rfl)
    (FunD.bindsN (ps := P12) (fds 12 _ rfl) fun _ _ _ _ _ _ us hl => match us, hl with | [_], _ => rfl)
    (FunD.bindsN (ps := P13) (fds 13 _ rfl) fun _ _ _ _ _ _ us hl => match us, hl with | [_], _ => rfl)
    (FunD.bindsN (ps := P14) (fds 14 _ rfl) fun _ _ _ _ _ _ us hl => match us, hl with | [_, _], _ => rfl)
    (FunD.bindsN (ps := P15) (fds 15 _ rfl) fun _ _ _ _ _ _ us hl => match us, hl with | [_, _, _], _ => rfl)
    (FunD.bindsN (ps := P16) (fds 16 _ rfl) fun _ _ _ _ _ _ us hl => match us, hl with | [_], _ => rfl)
    (FunD.bindsN (ps := P17) (fds 17 _ rfl) fun _ _ _ _ _ _ us hl => match us, hl with | [_], _ => rfl)
    (FunD.bindsN (ps := P18) (fds 18 _ rfl) fun _ _ _ _ _ _ us hl => match us, hl with | [_], _ => rfl)
    (FunD.bindsN (ps := P19) (fds 19 _ rfl) fun _ _ _ _ _ _ us hl => match us, hl with | [_, _, _], _ => rfl)
    (FunD.bindsN (ps := P20) (fds 20 _ rfl) fun _ _ _ _ _ _ us hl => match us, hl with | [_, _], _ => rfl)
    (FunD.bindsN (ps := P21) (fds 21 _ rfl) fun _ _ _ _ _ _ us hl => match us, hl with | [_, _], _ => rfl)
    (FunD.bindsN (ps := P22) (fds 22 _ rfl) fun _ _ _ _ _ _ us hl => match us, hl with | [_, _], _ => rfl)
    (FunD.bindsN (ps := P23) (fds 23 _ rfl) fun _ _ _ _ _ _ us hl => match us, hl with | [_, _, _], _ => rfl)
    (FunD.bindsN (ps := P24) (fds 24 _ rfl) fun _ _ _ _ _ _ us hl => match us, hl with | [_], _ => rfl)
    (FunD.bindsN (ps := P25) (fds 25 _ rfl) fun _ _ _ _ _ _ us hl => match us, hl with | [_], _ => rfl)
    (FunD.bindsN (ps := P26) (fds 26 _ rfl) fun _ _ _ _ _ _ us hl => match us, hl with | [_], _ => rfl)
    (FunD.bindsN (ps := P27) (fds 27 _ rfl) fun _ _ _ _ _ _ us hl => match us, hl with | [_, _], _ => rfl)
    (FunD.bindsN (ps := P28) (fds 28 _ rfl) fun _ _ _ _ _ _ us hl => match us, hl with | [_], _ => rfl)
    (FunD.bindsN (ps := P29) (fds 29 _ rfl) fun _ _ _ _ _ _ us hl => match us, hl with | [_], _ => rfl)
    (FunD.bindsN (ps := P30) (fds 30 _ rfl) fun _ _ _ _ _ _ us hl => match us, hl with | [_, _], _ => rfl)
    (FunD.bindsN (ps := P31) (fds 31 _ rfl) fun _ _ _ _ _ _ us hl => match us, hl with | [_, _, _], _ => rfl)
    (FunD.bindsN (ps := P32) (fds 32 _ rfl) fun _ _ _ _ _ _ us hl => match us, hl with | [_, _], _ => rfl)
    (FunD.bindsN (ps := P33) (fds 33 _ rfl) fun _ _ _ _ _ _ us hl => match us, hl with | [_, _, _], _ => rfl)
    (FunD.bindsN (ps := P34) (fds 34 _ rfl) fun _ _ _ _ _ _ us hl => match us, hl with | [_, _, _], _ => rfl)
    (FunD.bindsN (ps := P35) (fds 35 _ rfl) fun _ _ _ _ _ _ us hl => match us, hl with | [_, _], _ => rfl)
    (FunD.bindsN (ps := P36) (fds 36 _ rfl) fun _ _ _ _ _ _ us hl => match us, hl with | [_, _], _ => rfl)
    (FunD.bindsN (ps := P37) (fds 37 _ rfl) fun _ _ _ _ _ _ us hl => match us, hl with | [_, _], _ => rfl)
    (FunD.bindsN (ps := P38) (fds 38 _ rfl) fun _ _ _ _ _ _ us hl => match us, hl with | [_, _], _ => rfl)
    (FunD.bindsN (ps := P39) (fds 39 _ rfl) fun _ _ _ _ _ _ us hl => match us, hl with | [_, _], _ => rfl)
    (FunD.bindsN (ps := P40) (fds 40 _ rfl) fun _ _ _ _ _ _ us hl => match us, hl with | [_, _, _], _ => rfl)
    (FunD.bindsN (ps := P41) (fds 41 _ rfl) fun _ _ _ _ _ _ us hl => match us, hl with | [_, _], _ => rfl)
    (FunD.bindsN (ps := P42) (fds 42 _ rfl) fun _ _ _ _ _ _ us hl => match us, hl with | [_], _ => rfl)
    (FunD.bindsN (ps := P43) (fds 43 _ rfl) fun _ _ _ _ _ _ us hl => match us, hl with | [_], _ => rfl)
  kp := fun fi i hi => hold (R := fun fi i => PySem.W.keepIn K (.ref (faF K fi)) = true) hi
    (fds 0 _ rfl).kp (fds 1 _ rfl).kp (fds 2 _ rfl).kp (fds 3 _ rfl).kp (fds 4 _ rfl).kp (fds 5 _ rfl).kp (fds 6 _ rfl).kp (fds 7 _ rfl).kp (fds 8 _ rfl).kp (fds 9 _ rfl).kp (fds 10 _ rfl).kp (fds 11 _ rfl).kp (fds 12 _ rfl).kp (fds 13 _ rfl).kp (fds 14 _ rfl).kp (fds 15 _ rfl).kp (fds 16 _ rfl).kp (fds 17 _ rfl).kp (fds 18 _ rfl).kp (fds 19 _ rfl).kp (fds 20 _ rfl).kp (fds 21 _ rfl).kp (fds 22 _ rfl).kp (fds 23 _ rfl).kp (fds 24 _ rfl).kp (fds 25 _ rfl).kp (fds 26 _ rfl).kp (fds 27 _ rfl).kp (fds 28 _ rfl).kp (fds 29 _ rfl).kp (fds 30 _ rfl).kp (fds 31 _ rfl).kp (fds 32 _ rfl).kp (fds 33 _ rfl).kp (fds 34 _ rfl).kp (fds 35 _ rfl).kp (fds 36 _ rfl).kp (fds 37 _ rfl).kp (fds 38 _ rfl).kp (fds 39 _ rfl).kp (fds 40 _ rfl).kp (fds 41 _ rfl).kp (fds 42 _ rfl).kp (fds 43 _ rfl).kp
  len := fun fi i hi => hold (R := fun fi i => ((fs (faF K) fd).ps fi).length = i.many) hi
    rfl rfl rfl rfl rfl rfl rfl rfl rfl rfl rfl rfl rfl rfl rfl rfl rfl rfl rfl rfl rfl rfl rfl rfl rfl rfl rfl rfl rfl rfl rfl rfl rfl rfl rfl rfl rfl rfl rfl rfl rfl rfl rfl rfl
include X G0 c in
theorem steps {Pg : Program} {w : World} {base : Heap} {fd : Nat → FuncData} (fds : FDs K fd) {lf : Nat} (k : Nat) (h1 : AllOk Pg w K mg base (tb K (caF K)) (fs (faF K) fd) lf k) (h2 : ∀ j, k = j + 1 → AllOk Pg w K mg base (tb K (caF K)) (fs (faF K) fd) lf j) : AllOk Pg w K mg base (tb K (caF K)) (fs (faF K) fd) lf (k + 1) := by
  have o := topok c fds
  have G := gok X G0 c
  intro fi i hi
  refine hold (R := fun fi i => FnOk Pg w K mg base CX0 (k + 1) (faF K fi) (fd fi) ((fs (faF K) fd).ps fi) (spC (tb K (caF K)) (fs (faF K) fd) (run gg lf (k + 1)) fi)) hi ?_ ?_ ?_ ?_ ?_ ?_ ?_ ?_ ?_ ?_ ?_ ?_ ?_ ?_ ?_ ?_ ?_ ?_ ?_ ?_ ?_ ?_ ?_ ?_ ?_ ?_ ?_ ?_ ?_ ?_ ?_ ?_ ?_ ?_ ?_ ?_ ?_ ?_ ?_ ?_ ?_ ?_ ?_ ?_
  · exact step_of (fi := 0) o h1 h2 rfl (fds 0 _ rfl) sc0 rfl (fun cd A outer s H E B => der0 G cd A outer s H E B)
  · exact step_of (fi := 1) o h1 h2 rfl (fds 1 _ rfl) sc1 rfl (fun cd A outer s H E B => der1 G cd A outer s H E B)
  · exact step_of (fi := 2) o h1 h2 rfl (fds 2 _ rfl) sc2 rfl (fun cd A outer s H E B => der2 G cd A outer s H E B)
  · exact step_of (fi := 3) o h1 h2 rfl (fds 3 _ rfl) sc3 rfl (fun cd A outer s H E B => der3 G cd A outer s H E B)
  · exact step_of (fi := 4) o h1 h2 rfl (fds 4 _ rfl) sc4 rfl (fun cd A outer s H E B => der4 G cd A outer s H E B)
  · exact step_of (fi := 5) o h1 h2 rfl (fds 5 _ rfl) sc5 rfl (fun cd A outer s H E B => der5 G cd A outer s H E B)
  · exact step_of (fi := 6) o h1 h2 rfl (fds 6 _ rfl) sc6 rfl (fun cd A outer s H E B => der6 G cd A outer s H E B)
  · exact step_of (fi := 7) o h1 h2 rfl (fds 7 _ rfl) sc7 rfl (fun cd A outer s H E B => der7 G cd A outer s H E B)
  · exact step_of (fi := 8) o h1 h2 rfl (fds 8 _ rfl) sc8 rfl (fun cd A outer s H E B => der8 G cd A outer s H E B)
  · exact step_of (fi := 9) o h1 h2 rfl (fds 9 _ rfl) sc9 rfl (fun cd A outer s H E B => der9 G cd A outer s H E B)
  · exact step_of (fi := 10) o h1 h2 rfl (fds 10 _ rfl) sc10 rfl (fun cd A outer s H E B => der10 G cd A outer s H E B)
  · exact step_of (fi := 11) o h1 h2 rfl (fds 11 _ rfl) sc11 rfl (fun cd A outer s H E B => der11 G cd A outer s H E B)
  · exact step_of (fi := 12) o h1 h2 rfl (fds 12 _ rfl) sc12 rfl (fun cd A outer s H E B => der12 G cd A outer s H E B)
  · exact step_of (fi := 13) o h1 h2 rfl (fds 13 _ rfl) sc13 rfl (fun cd A outer s H E B => der13 G cd A outer s H E B)
  · exact step_of (fi := 14) o h1 h2 rfl (fds 14 _ rfl) sc14 rfl (fun cd A outer s H E B => der14 G cd A outer s H E B)
  · exact step_of (fi := 15) o h1 h2 rfl (fds 15 _ rfl) sc15 rfl (fun cd A outer s H E B => der15 G cd A outer s H E B)
  · exact step_of (fi := 16) o h1 h2 rfl (fds 16 _ rfl) sc16 rfl (fun cd A outer s H E B => der16 G cd A outer s H E B)
  · exact step_of (fi := 17) o h1 h2 rfl (fds 17 _ rfl) sc17 rfl (fun cd A outer s H E B => der17 G cd A outer s H E B)
  · exact step_of (fi := 18) o h1 h2 rfl (fds 18 _ rfl) sc18 rfl (fun cd A outer s H E B => der18 G cd A outer s H E B)
  · exact step_of (fi := 19) o h1 h2 rfl (fds 19 _ rfl) sc19 rfl (fun cd A outer s H E B => der19 G cd A outer s H E B)
  · exact step_of (fi := 20) o h1 h2 rfl (fds 20 _ rfl) sc20 rfl (fun cd A outer s H E B => der20 G cd A outer s H E B)
  · exact step_of (fi := 21) o h1 h2 rfl (fds 21 _ rfl) sc21 rfl (fun cd A outer s H E B => der21 G cd A outer s H E B)
  · exact step_of (fi := 22) o h1 h2 rfl (fds 22 _ rfl) sc22 rfl (fun cd A outer s H E B => der22 G cd A outer s H E B)
  · exact step_of (fi := 23) o h1 h2 rfl (fds 23 _ rfl) sc23 rfl (fun cd A outer s H E B => der23 G cd A outer s H E B)
  · exact step_of (fi := 24) o h1 h2 rfl (fds 24 _ rfl) sc24 rfl (fun cd A outer s H E B => der24 G cd A outer s H E B)
  · exact step_of (fi := 25) o h1 h2 rfl (fds 25 _ rfl) sc25 rfl (fun cd A outer s H E B => der25 G cd A outer s H E B)
  · exact step_of (fi := 26) o h1 h2 rfl (fds 26 _ rfl) sc26 rfl (fun cd A outer s H E B => der26 G cd A outer s H E B)
  · exact step_of (fi := 27) o h1 h2 rfl (fds 27 _ rfl) sc27 rfl (fun cd A outer s H E B => der27 G cd A outer s H E B)
  · exact step_of (fi := 28) o h1 h2 rfl (fds 28 _ rfl) sc28 rfl (fun cd A outer s H E B => der28 G cd A outer s H E B)
  · exact step_of (fi := 29) o h1 h2 rfl (fds 29 _ rfl) sc29 rfl (fun cd A outer s H E B => der29 G cd A outer s H E B)
  · exact step_of (fi := 30) o h1 h2 rfl (fds 30 _ rfl) sc30 rfl (fun cd A outer s H E B => der30 G cd A outer s H E B)
  · exact step_of (fi := 31) o h1 h2 rfl (fds 31 _ rfl) sc31 rfl (fun cd A outer s H E B => der31 G cd A outer s H E B)
  · exact step_of (fi := 32) o h1 h2 rfl (fds 32 _ rfl) sc32 rfl (fun cd A outer s H E B => der32 G cd A outer s H E B)
  · exact step_of (fi := 33) o h1 h2 rfl (fds 33 _ rfl) sc33 rfl (fun cd A outer s H E B => der33 G cd A outer s H E B)
  · exact step_of (fi := 34) o h1 h2 rfl (fds 34 _ rfl) sc34 rfl (fun cd A outer s H E B => der34 G cd A outer s H E B)
  · exact step_of (fi := 35) o h1 h2 rfl (fds 35 _ rfl) sc35 rfl (fun cd A outer s H E B => der35 G cd A outer s H E B)
  · exact step_of (fi := 36) o h1 h2 rfl (fds 36 _ rfl) sc36 rfl (fun cd A outer s H E B => der36 G cd A outer s H E B)
  · exact step_of (fi := 37) o h1 h2 rfl (fds 37 _ rfl) sc37 rfl (fun cd A outer s H E B => der37 G cd A outer s H E B)
  · exact step_of (fi := 38) o h1 h2 rfl (fds 38 _ rfl) sc38 rfl (fun cd A outer s H E B => der38 G cd A outer s H E B)
  · exact step_of (fi := 39) o h1 h2 rfl (fds 39 _ rfl) sc39 rfl (fun cd A outer s H E B => der39 G cd A outer s H E B)
  · exact step_of (fi := 40) o h1 h2 rfl (fds 40 _ rfl) sc40 rfl (fun cd A outer s H E B => der40 G cd A outer s H E B)
  · exact step_of (fi := 41) o h1 h2 rfl (fds 41 _ rfl) sc41 rfl (fun cd A outer s H E B => der41 G cd A outer s H E B)
  · exact step_of (fi := 42) o h1 h2 rfl (fds 42 _ rfl) sc42 rfl (fun cd A outer s H E B => der42 G cd A outer s H E B)
  · exact step_of (fi := 43) o h1 h2 rfl (fds 43 _ rfl) sc43 rfl (fun cd A outer s H E B => der43 G cd A outer s H E B)
include X G0 c in
theorem facts {Pg : Program} {w : World} (k : Nat) : ∃ fd : Nat → FuncData, FDs K fd ∧ ∀ base : Heap, FnOk Pg w K mg base CX0 k (faF K 43) (fd 43) P43 (spLaw (tb K (caF K)) (fs (faF K) fd) k 43) := by
  obtain ⟨fd, hf⟩ := fds c.d (d0 := dd0) rfl
  exact ⟨fd, hf, fun base => law_ok (fi := 43) (i := ⟨1, 4, b43⟩) rfl fun lf => (all_of (topok c hf) (steps X G0 c hf) k).1⟩
end
end L57
namespace L57
open PySem PySem.W PySem.Calls PyProof.Rows VI
abbrev RR : OpenRow := OpenLaw.row PySem.Challenge.rw_endsorever_k57_whole_following_on_and_on
def loose : List PySem.Str := ([("EndsError" : PySem.Str), ("BadRows" : PySem.Str), ("BadRow" : PySem.Str), ("is_integer" : PySem.Str), ("is_between" : PySem.Str), ("common" : PySem.Str), ("reduced" : PySem.Str), ("added" : PySem.Str), ("difference" : PySem.Str), ("product" : PySem.Str), ("quotient" : PySem.Str), ("less" : PySem.Str), ("NOTHING" : PySem.Str), ("ONE" : PySem.Str), ("Tableau" : PySem.Str), ("less_by" : PySem.Str), ("parts_for" : PySem.Str), ("is_row" : PySem.Str), ("TIMES" : PySem.Str), ("NEVER" : PySem.Str), ("SPOT" : PySem.Str), ("MOST_COLUMNS" : PySem.Str), ("MOST_ROWS" : PySem.Str), ("check_rows" : PySem.Str), ("check_following" : PySem.Str), ("whole" : PySem.Str), ("column_of" : PySem.Str), ("rest_column" : PySem.Str), ("value_at" : PySem.Str), ("turned_prices" : PySem.Str), ("spot_of" : PySem.Str), ("some_spot" : PySem.Str), ("spot_along" : PySem.Str), ("quick_times" : PySem.Str), ("told_following" : PySem.Str), ("follows" : PySem.Str), ("holds_somewhere" : PySem.Str), ("_law_pot" : PySem.Str), ("_law_take" : PySem.Str), ("_law_cells" : PySem.Str)] : List PySem.Str) ++ ([("_law_row" : PySem.Str), ("_law_together" : PySem.Str), ("_law_at" : PySem.Str), ("_law_right" : PySem.Str)] : List PySem.Str)
abbrev hk : Hook := hookT 6 faL fnL tpL
def ob (s : SharedT) : He.AlD := obsTG 6 faL fnL tpL (HandSHeadRun.getT s)
theorem ob_eq (s : SharedT) : ob s = hk.obs s.abs := obsTG_eq (HandSHeadRun.getT_eq s)
theorem runs (w : World) : HandSHeadRun.RunEq RR (view RR.prog [50]) hk ob 40000 loose w := by
  intro os
  kernel_rfl
end L57
open PySem PySem.W PySem.Calls PyProof.Rows
theorem L57.holds (k : Nat) (hk : k ≤ 200) (H : ∀ ns : List Int, ns.length ≤ 63 → ∃ lf h', VI.run L57.gg lf k 43 [.ref 0] (VI.h0 ns) = .ok (.bl true) h') : PySem.Challenge.rw_endsorever_k57_whole_following_on_and_on.Holds := by
  w_on; o_law
  refine HandSHeadRun.head_any (r := OpenLaw.row PySem.Challenge.rw_endsorever_k57_whole_following_on_and_on) (q := view (OpenLaw.row PySem.Challenge.rw_endsorever_k57_whole_following_on_and_on).prog [50]) (H := L57.hk) (ob := L57.ob) (M := 40000) (loose := L57.loose) (d := HandSHeadRun.topDef (OpenLaw.row PySem.Challenge.rw_endsorever_k57_whole_following_on_and_on).prog 50) (kwd := []) L57.ob_eq
    (by kernel_rfl) (fun s => by kernel_rfl) L57.runs (by kernel_rfl) (by kernel_rfl) (by kernel_rfl) (by rfl) (by first | assumption | decide +kernel) (by decide +kernel) ⟨rfl, rfl, rfl, rfl, rfl, by decide +kernel⟩ ?hw ?hc
  case hw => w_witness2
  case hc =>
    refine L2.walk_ofE (l := PySem.Challenge.rw_endsorever_k57_whole_following_on_and_on) (n := 63) (k := k) (x := "script") (CX := L2.CX0) rfl (by decide) (by kernel_rfl) ?R ?F (fun _ _ _ _ z => z)
    case R => exact L2.Room.mono (k := 200) ⟨rfl, by decide, by decide⟩ hk
    case F =>
      intro w mg fa h Y G hmg0
      obtain ⟨K, KX, c⟩ := Y
      have hmg : mg ("law" : PySem.Str) = some (.ref fa) := by
        have e : (HandSHeadRun.topDef (OpenLaw.row PySem.Challenge.rw_endsorever_k57_whole_following_on_and_on).prog 50).name = ("law" : PySem.Str) := by kernel_rfl
        rw [← e]
        exact hmg0
      obtain ⟨fd, hf, hF⟩ := L57.facts (Pg := (PySem.Challenge.rw_endsorever_k57_whole_following_on_and_on).prog) (w := w) KX G c k
      have e := hmg.symm.trans (L57.gok KX G c).f_law
      cases e
      refine ⟨K, fd 43, _, KX, ?_, fun H0 a ns hl ho hS => VI.law_sp rfl ho hS (H ns hl), fun base _ _ => hF base⟩
      intro s u
      exact L2.FunD.bindsA (ps := ["script"]) (hf 43 _ rfl) (fun _ _ _ _ _ _ us hl => match us, hl with | [_], _ => rfl) s [u] rfl

theorem PySem.Challenge.cw_endsorever_k57_whole_following_on_and_on_holds : PySem.Challenge.rw_endsorever_k57_whole_following_on_and_on.Holds := by
  have g : ∀ ns : List Int, (VI.h0 ns).get 0 = some (.frz (ns.map .int)) := fun ns => by
    unfold VI.h0
    rw [VI.Hp.get_push, if_pos rfl]
  exact L57.holds 40 (by decide) fun ns nl => W57.keeps ns nl (VI.h0 ns) (W57.seq_frz (g ns)) ⟨_, g ns⟩
