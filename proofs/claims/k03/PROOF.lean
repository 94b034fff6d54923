import PyProof.Rows.All
import Wide.All
import OpenK.AllK
import Wide.FinOn
import HandS.ForMost
import HandS.Exc
import HandS.TryOnly
import HandS.TryMany
import HandS.ExcOwn
import HandS.ExcSuper
import HandS.ExcIs
import HandS.IsInst
import HandS.CallLocal
import HandS.CallSlots
import HandS.TupAny
import HandS.Conv
import HandS.Style
import HandS.EndBits
import PySem.Challenge.RW_fewshifts_k03_whole_all_numbers_of_a_kin
set_option Elab.async false
set_option linter.all false
set_option maxRecDepth 100000
set_option maxHeartbeats 4000000
/-! MpA: a small evaluator: values, heap, the text of defs, its meaning. -/
namespace Mp
open PySem

/-! ### values, objects, the heap -/
inductive MV where
  | non | bl (b : Bool) | int (i : Int) | str (s : List Nat) | tup (xs : List MV) | ref (a : Nat) | fn (f : Nat)

inductive MO where
  | lst (fz : Bool) (xs : List MV)
  | ins (C : Nat) (fs : List (Nat × MV))
  | dct (kvs : List (MV × MV))

inductive Tr where
  | nil | nd (o : Option MO) (l r : Tr)
def Tr.get : Tr → List Bool → Option MO
  | .nil, _ => none
  | .nd o _ _, [] => o
  | .nd _ l _, true :: b => l.get b
  | .nd _ _ r, false :: b => r.get b
def Tr.set (o : MO) : List Bool → Tr → Tr
  | [], .nil => .nd (some o) .nil .nil
  | [], .nd _ l r => .nd (some o) l r
  | true :: b, .nil => .nd none (Tr.set o b .nil) .nil
  | true :: b, .nd p l r => .nd p (Tr.set o b l) r
  | false :: b, .nil => .nd none .nil (Tr.set o b .nil)
  | false :: b, .nd p l r => .nd p l (Tr.set o b r)
theorem Tr.get_nil : ∀ b, Tr.get .nil b = none
  | [] => rfl
  | _ :: _ => rfl
theorem Tr.get_set (o : MO) : ∀ (b c : List Bool) (t : Tr), (Tr.set o b t).get c = if c = b then some o else t.get c
  | [], [], .nil => rfl
  | [], [], .nd _ _ _ => rfl
  | [], true :: c, .nil => by simp [Tr.set, Tr.get, Tr.get_nil]
  | [], false :: c, .nil => by simp [Tr.set, Tr.get, Tr.get_nil]
  | [], true :: c, .nd _ _ _ => by simp [Tr.set, Tr.get]
  | [], false :: c, .nd _ _ _ => by simp [Tr.set, Tr.get]
  | true :: b, [], .nil => by simp [Tr.set, Tr.get]
  | true :: b, [], .nd _ _ _ => by simp [Tr.set, Tr.get]
  | true :: b, true :: c, .nil => by simp [Tr.set, Tr.get, Tr.get_set o b c, Tr.get_nil]
  | true :: b, true :: c, .nd _ _ _ => by simp [Tr.set, Tr.get, Tr.get_set o b c]
  | true :: b, false :: c, .nil => by simp [Tr.set, Tr.get, Tr.get_nil]
  | true :: b, false :: c, .nd _ _ _ => by simp [Tr.set, Tr.get]
  | false :: b, [], .nil => by simp [Tr.set, Tr.get]
  | false :: b, [], .nd _ _ _ => by simp [Tr.set, Tr.get]
  | false :: b, true :: c, .nil => by simp [Tr.set, Tr.get, Tr.get_nil]
  | false :: b, true :: c, .nd _ _ _ => by simp [Tr.set, Tr.get]
  | false :: b, false :: c, .nil => by simp [Tr.set, Tr.get, Tr.get_set o b c, Tr.get_nil]
  | false :: b, false :: c, .nd _ _ _ => by simp [Tr.set, Tr.get, Tr.get_set o b c]

/-- a number as a way down the tree -/
def bitsF : Nat → Nat → List Bool
  | 0, _ => []
  | _ + 1, 0 => []
  | f + 1, n + 1 => (n % 2 == 0) :: bitsF f (n / 2)
def bits (n : Nat) : List Bool := bitsF (n + 1) n
theorem bitsF_inj : ∀ (f g n m : Nat), n < f → m < g → bitsF f n = bitsF g m → n = m
  | 0, _, _, _, h, _, _ => absurd h (Nat.not_lt_zero _)
  | _, 0, _, _, _, h, _ => absurd h (Nat.not_lt_zero _)
  | f + 1, g + 1, 0, 0, _, _, _ => rfl
  | f + 1, g + 1, 0, m + 1, _, _, e => by simp [bitsF] at e
  | f + 1, g + 1, n + 1, 0, _, _, e => by simp [bitsF] at e
  | f + 1, g + 1, n + 1, m + 1, h1, h2, e => by
    simp only [bitsF, List.cons.injEq] at e
    have q := bitsF_inj f g (n / 2) (m / 2) (by omega) (by omega) e.2
    have p : (n % 2 == 0) = (m % 2 == 0) := e.1
    by_cases a : n % 2 = 0
    · have b : m % 2 = 0 := by
        rw [a] at p
        simpa using p.symm
      omega
    · have b : ¬ m % 2 = 0 := by
        intro z
        rw [z] at p
        exact a (by simpa using p)
      omega
theorem bits_inj {n m : Nat} (e : bits n = bits m) : n = m := bitsF_inj _ _ _ _ (Nat.lt_succ_self _) (Nat.lt_succ_self _) e

structure MH where
  sz : Nat
  t : Tr
def MH.get (h : MH) (a : Nat) : Option MO := h.t.get (bits a)
def MH.set (h : MH) (a : Nat) (o : MO) : MH := ⟨h.sz, Tr.set o (bits a) h.t⟩
def MH.push (h : MH) (o : MO) : MH := ⟨h.sz + 1, Tr.set o (bits h.sz) h.t⟩
theorem MH.get_set (h : MH) (a b : Nat) (o : MO) : (h.set a o).get b = if b = a then some o else h.get b := by
  unfold MH.get MH.set
  rw [Tr.get_set]
  by_cases e : b = a
  · rw [if_pos e, if_pos (by rw [e])]
  · rw [if_neg e, if_neg fun z => e (bits_inj z)]
theorem MH.get_push (h : MH) (b : Nat) (o : MO) : (h.push o).get b = if b = h.sz then some o else h.get b := by
  unfold MH.get MH.push
  rw [Tr.get_set]
  by_cases e : b = h.sz
  · rw [if_pos e, if_pos (by rw [e])]
  · rw [if_neg e, if_neg fun z => e (bits_inj z)]
theorem MH.sz_push (h : MH) (o : MO) : (h.push o).sz = h.sz + 1 := rfl
theorem MH.sz_set (h : MH) (a : Nat) (o : MO) : (h.set a o).sz = h.sz := rfl

/-! ### ends -/
structure Exn where
  C : Nat
  arg : Option MV
inductive Out (α : Type) where
  | ok (a : α) (h : MH)
  | exc (x : Exn) (h : MH)
  | bad
noncomputable def Out.bind {α β : Type} (r : Out α) (f : α → MH → Out β) : Out β := @Out.rec α (fun _ => Out β) f .exc .bad r
/-- a value that may lack -/
def giv {α : Type} (o : Option α) (h : MH) : Out α := match o with
  | some a => .ok a h
  | none => .bad

abbrev En := List (Option MV)
inductive OS where
  | nx (σ : En) (h : MH) | rt (v : MV) (h : MH) | bk (σ : En) (h : MH) | ct (σ : En) (h : MH) | exc (x : Exn) (σ : En) (h : MH) | bad
noncomputable def OS.seq (r : OS) (f : En → MH → OS) : OS := @OS.rec (fun _ => OS) f .rt .bk .ct .exc .bad r
/-- an expression ahead of a statement's rest -/
noncomputable def Out.st {α : Type} (r : Out α) (σ : En) (f : α → MH → OS) : OS := @Out.rec α (fun _ => OS) f (fun x h => .exc x σ h) .bad r

/-! ### operators -/
def szL : Nat := 16777216
def i64 (i : Int) : Bool := decide (-18446744073709551616 < i) && decide (i < 18446744073709551616)
def lstAt (h : MH) (a : Nat) : Option (List MV) := match h.get a with
  | some (.lst _ xs) => some xs
  | _ => none
/-- a list that may be written -/
def mutAt (h : MH) (a : Nat) : Option (List MV) := match h.get a with
  | some (.lst false xs) => some xs
  | _ => none
def newL (xs : List MV) (h : MH) : Out MV := .ok (.ref h.sz) (h.push (.lst false xs))
def repV (n : Nat) (xs : List MV) : List MV := (List.replicate n xs).flatten

def addV : MV → MV → MH → Out MV
  | .int i, .int j, h => .ok (.int (i + j)) h
  | .str x, .str y, h => bif Nat.ble (x.length + y.length) szL then .ok (.str (x ++ y)) h else .bad
  | .tup x, .tup y, h => bif Nat.ble (x.length + y.length) szL then .ok (.tup (x ++ y)) h else .bad
  | .ref x, .ref y, h => match mutAt h x, mutAt h y with
    | some xs, some ys => bif Nat.ble (xs.length + ys.length) szL then newL (xs ++ ys) h else .bad
    | _, _ => .bad
  | _, _, _ => .bad
def subV : MV → MV → MH → Out MV
  | .int i, .int j, h => .ok (.int (i - j)) h
  | _, _, _ => .bad
def repL (xs : List MV) (k : Int) (h : MH) : Out MV := bif decide (-9223372036854775808 ≤ k) && decide (k < 9223372036854775808) && Nat.ble (xs.length * k.toNat) szL then newL (repV k.toNat xs) h else .bad
def mulV : MV → MV → MH → Out MV
  | .int i, .int j, h => bif i64 i || i64 j then .ok (.int (i * j)) h else .bad
  | .ref x, .int k, h => match mutAt h x with
    | some xs => repL xs k h
    | none => .bad
  | _, _, _ => .bad
def cDiv (j : Int) : Bool := decide (0 < j) && decide (j < 1073741824)
def fdivV : MV → MV → MH → Out MV
  | .int i, .int j, h => bif cDiv j then .ok (.int (i / j)) h else .bad
  | _, _, _ => .bad
def modV : MV → MV → MH → Out MV
  | .int i, .int j, h => bif decide (0 < j) then .ok (.int (i % j)) h else .bad
  | _, _, _ => .bad
def cPow (i j : Int) : Bool := decide (0 ≤ j) && decide (j ≤ 1000000) && i64 i
def powV : MV → MV → MH → Out MV
  | .int i, .int j, h => bif cPow i j then .ok (.int (i ^ j.toNat)) h else .bad
  | _, _, _ => .bad
def shlV : MV → MV → MH → Out MV
  | .int i, .int j, h => bif cPow i j then .ok (.int (i * ((2 ^ j.toNat : Nat) : Int))) h else .bad
  | _, _, _ => .bad
def shrV : MV → MV → MH → Out MV
  | .int i, .int j, h => bif decide (0 ≤ j) then .ok (.int (i / ((2 ^ j.toNat : Nat) : Int))) h else .bad
  | _, _, _ => .bad
def no2 : MV → MV → MH → Out MV := fun _ _ _ => .bad
noncomputable def evBin (op : Operator) : MV → MV → MH → Out MV := @Operator.rec (fun _ => MV → MV → MH → Out MV) addV subV mulV no2 no2 modV powV shlV shrV no2 no2 no2 fdivV op

/-! ### data: what == and repr look at -/
def mapO {α β : Type} (f : α → Option β) : List α → Option (List β)
  | [] => some []
  | x :: r => match f x, mapO f r with
    | some y, some s => some (y :: s)
    | _, _ => none
def toD (h : MH) : Nat → MV → Option PyData
  | _, .non => some .none
  | _, .bl b => some (.bool b)
  | _, .int i => some (.int i)
  | _, .str s => some (.str ⟨s.toArray⟩)
  | n + 1, .tup xs => (mapO (toD h n) xs).map .tuple
  | n + 1, .ref a => match lstAt h a with
    | some xs => (mapO (toD h n) xs).map .list
    | none => none
  | _, _ => none
def deep : Nat := 64
def eqD (a b : MV) (h : MH) : Option Bool := match toD h deep a, toD h deep b with
  | some d, some e => bif SeqAt.shaped d && SeqAt.shaped e then some (PyData.eqv d e) else none
  | _, _ => none
def evEq (a b : MV) (h : MH) : Option Bool := match a, b with
  | .int i, .int j => some (decide (i = j))
  | .str x, .str y => some (decide (x = y))
  | .bl x, .bl y => some (x == y)
  | a, b => eqD a b h
def evNe (a b : MV) (h : MH) : Option Bool := (evEq a b h).map (!·)
def isNon : MV → Bool
  | .non => true
  | _ => false
def ltV (a b : MV) (_ : MH) : Option Bool := match a, b with
  | .int i, .int j => some (decide (i < j))
  | _, _ => none
def leV (a b : MV) (_ : MH) : Option Bool := match a, b with
  | .int i, .int j => some (decide (i ≤ j))
  | _, _ => none
def gtV (a b : MV) (_ : MH) : Option Bool := match a, b with
  | .int i, .int j => some (decide (j < i))
  | _, _ => none
def geV (a b : MV) (_ : MH) : Option Bool := match a, b with
  | .int i, .int j => some (decide (j ≤ i))
  | _, _ => none
def isV (a b : MV) (_ : MH) : Option Bool := bif isNon b then some (isNon a) else none
def isntV (a b : MV) (_ : MH) : Option Bool := bif isNon b then some (!isNon a) else none
def noC (_ _ : MV) (_ : MH) : Option Bool := none
noncomputable def evCmp (op : CmpOp) : MV → MV → MH → Option Bool := @CmpOp.rec (fun _ => MV → MV → MH → Option Bool) evEq evNe ltV leV gtV geV isV isntV noC noC op
def evTru (a : MV) (h : MH) : Option Bool := match a with
  | .non => some false
  | .bl b => some b
  | .int i => some (!decide (i = 0))
  | .str s => bif Nat.ble s.length szL then some (!s.isEmpty) else none
  | .tup xs => some (!xs.isEmpty)
  | .ref x => match h.get x with
    | some (.lst _ xs) => some (!xs.isEmpty)
    | _ => none
  | .fn _ => none

/-! ### items, slices -/
def nth {α : Type} : List α → Nat → Option α
  | [], _ => none
  | x :: _, 0 => some x
  | _ :: r, n + 1 => nth r n
def evIx (a b : MV) (h : MH) : Option MV := match a, b with
  | .tup xs, .int i => (L2.ixN xs.length i).bind (nth xs)
  | .ref x, .int i => (lstAt h x).bind fun xs => (L2.ixN xs.length i).bind (nth xs)
  | _, _ => none

/-! ### built-ins -/
inductive BI where
  | int1 | abs1 | len1 | max2 | min2 | divmod2 | all1 | list1
def allB : List MV → Option (List Bool)
  | [] => some []
  | .bl b :: r => (allB r).map (b :: ·)
  | _ :: _ => none
abbrev BF := List MV → MH → Out MV
def int1V : BF
  | [.int i], h => .ok (.int i) h
  | _, _ => .bad
def abs1V : BF
  | [.int i], h => .ok (.int (if i < 0 then -i else i)) h
  | _, _ => .bad
def len1V : BF
  | [.tup xs], h => .ok (.int xs.length) h
  | [.ref a], h => match lstAt h a with
    | some xs => .ok (.int xs.length) h
    | none => .bad
  | _, _ => .bad
def max2V : BF
  | [.int i, .int j], h => .ok (.int (if j > i then j else i)) h
  | _, _ => .bad
def min2V : BF
  | [.int i, .int j], h => .ok (.int (if j < i then j else i)) h
  | _, _ => .bad
def divmod2V : BF
  | [.int i, .int j], h => bif cDiv j then .ok (.tup [.int (i / j), .int (i % j)]) h else .bad
  | _, _ => .bad
def all1V : BF
  | [.ref a], h => match lstAt h a with
    | some xs => match allB xs with
      | some bs => .ok (.bl (bs.all id)) h
      | none => .bad
    | none => .bad
  | _, _ => .bad
def list1V : BF
  | [.ref a], h => match lstAt h a with
    | some xs => newL xs h
    | none => .bad
  | [.tup xs], h => newL xs h
  | _, _ => .bad
noncomputable def evBI (f : BI) : BF := @BI.rec (fun _ => BF) int1V abs1V len1V max2V min2V divmod2V all1V list1V f

/-! ### what is walked -/
inductive IT where
  | rng (lo hi : Int) | seq (xs : List MV) | lst (a : Nat)
def IT.at (it : IT) (i : Nat) (h : MH) : Option (Option MV) := match it with
  | .rng lo hi => some (if lo + i < hi then some (.int (lo + i)) else none)
  | .seq xs => some (nth xs i)
  | .lst a => match lstAt h a with
    | some xs => some (nth xs i)
    | none => none

/-! ### the text -/
inductive TyK where
  | int | bool | str | tup | lst
def tyIs (k : TyK) (v : MV) (h : MH) : Option Bool := match v with
  | .non => some false
  | .bl _ => match k with
    | .int | .bool => some true
    | _ => some false
  | .int _ => match k with
    | .int => some true
    | _ => some false
  | .str _ => match k with
    | .str => some true
    | _ => some false
  | .tup _ => match k with
    | .tup => some true
    | _ => some false
  | .ref a => match h.get a with
    | some (.lst _ _) => match k with
      | .lst => some true
      | _ => some false
    | _ => none
  | .fn _ => none
inductive ME where
  | cst (v : MV)
  | var (i : Nat)
  | gl (g : Nat)
  | bin (op : Operator) (a b : ME)
  | neg (a : ME)
  | nt (a : ME)
  | and2 (a b : ME)
  | or2 (a b : ME)
  | cmp (op : CmpOp) (a b : ME)
  | cmp2 (op op' : CmpOp) (a b c : ME)
  | ife (t a b : ME)
  | tup (es : ME)
  | lst (es : ME)
  | ix (a i : ME)
  | sl (a lo hi : ME)
  | call (f : Nat) (es : ME)
  | callk (f : Nat) (es kws : ME) (perm : List Nat)
  | bi (f : BI) (es : ME)
  | isi (k : TyK) (a : ME)
  | lc (tg it cond elt : ME) (own : List Nat)
  | lrng1 (b : ME)
  | lrng2 (a b : ME)
  | nil
  | cons (a r : ME)
  | iSeq (a : ME)
  | iRng1 (b : ME)
  | iRng2 (a b : ME)
  | gNm (i : Nat)
  | gTup (ts : ME)
  | gIx (a i : ME)

inductive MS where
  | nil | cons (s r : MS)
  | asg (tg e : ME)
  | ex (e : ME)
  | ret (e : ME)
  | ret0 | pass | brk | cont
  | ite (t : ME) (a b : MS)
  | whl (t : ME) (b : MS)
  | for_ (tg it : ME) (b : MS)
  | never

structure FD where
  np : Nat
  ns : Nat
  body : MS
structure Ctx where
  call : Nat → List MV → MH → Out MV
  con : Nat → Option MV
  fuel : Nat

/-! ### the meaning -/
structure Sm where
  /-- as a value -/
  e : En → MH → Out MV
  /-- as a test -/
  t : En → MH → Out Bool
  /-- as a row of values -/
  l : En → MH → Out (List MV)
  /-- as what is walked -/
  i : En → MH → Out IT
  /-- as a target -/
  g : MV → En → MH → Out En
  /-- as targets -/
  gs : List MV → En → MH → Out En
  /-- as a part of a slice -/
  p : En → MH → Out (Option Int)

def noE : En → MH → Out MV := fun _ _ => .bad
def noL : En → MH → Out (List MV) := fun _ _ => .bad
def noI : En → MH → Out IT := fun _ _ => .bad
def noG : MV → En → MH → Out En := fun _ _ _ => .bad
def noGs : List MV → En → MH → Out En := fun _ _ _ => .bad
noncomputable def truth (e : En → MH → Out MV) : En → MH → Out Bool := fun σ h => (e σ h).bind fun v h1 => giv (evTru v h1) h1
noncomputable def partOf (e : En → MH → Out MV) : En → MH → Out (Option Int) := fun σ h => (e σ h).bind fun v h1 => match v with
  | .int i => .ok (some i) h1
  | _ => .bad
/-- a plain expression -/
noncomputable def Sm.ofE (e : En → MH → Out MV) : Sm := ⟨e, truth e, noL, noI, noG, noGs, partOf e⟩
/-- a comparison: its test is its value -/
noncomputable def valT (t : En → MH → Out Bool) : En → MH → Out MV := fun σ h => (t σ h).bind fun b h1 => .ok (.bl b) h1
def wipeE (σ : En) : List Nat → En
  | [] => σ
  | v :: vs => (wipeE σ vs).set v none

/-- a comprehension's turns: D is the list that is made -/
noncomputable def lcGo (tg : MV → En → MH → Out En) (cond : En → MH → Out Bool) (elt : En → MH → Out MV) (it : IT) (D : Nat) (σ : En) : Nat → Nat → MH → Out Unit
  | 0, _, _ => .bad
  | n + 1, i, h => match it.at i h with
    | none => .bad
    | some none => .ok () h
    | some (some v) => (tg v σ h).bind fun σ1 h1 => (cond σ1 h1).bind fun b h2 =>
      bif b then (elt σ1 h2).bind fun y h3 => match mutAt h3 D with
        | some acc => bif Nat.blt acc.length szL then lcGo tg cond elt it D σ n (i + 1) (h3.set D (.lst false (acc ++ [y]))) else .bad
        | none => .bad
      else lcGo tg cond elt it D σ n (i + 1) h2
/-- no exception leaves a comprehension here -/
def noExc {α : Type} (r : Out α) : Out α := match r with
  | .exc _ _ => .bad
  | r => r

noncomputable section
namespace Sm
def cst (v : MV) : Sm := .ofE fun _ h => .ok v h
def var (i : Nat) : Sm := .ofE fun σ h => giv (nth σ i).join h
def gl (c : Ctx) (g : Nat) : Sm := .ofE fun _ h => giv (c.con g) h
def bin (op : Operator) (a b : Sm) : Sm := .ofE fun σ h => (a.e σ h).bind fun x h1 => (b.e σ h1).bind fun y h2 => evBin op x y h2
def negV (x : MV) (h : MH) : Out MV := match x with
  | .int i => .ok (.int (-i)) h
  | _ => .bad
def neg (a : Sm) : Sm := .ofE fun σ h => (a.e σ h).bind negV
def notV (x : MV) (h : MH) : Out MV := match x with
  | .bl b => .ok (.bl (!b)) h
  | _ => .bad
/-- a test that is no plain truth of its value -/
def ofT (e : En → MH → Out MV) (t : En → MH → Out Bool) : Sm := ⟨e, t, noL, noI, noG, noGs, partOf e⟩
def nt (a : Sm) : Sm := .ofT (fun σ h => (a.e σ h).bind notV) (fun σ h => (a.t σ h).bind fun b h1 => .ok (!b) h1)
def andV (r : MH → Out MV) (x : MV) (h : MH) : Out MV := match x with
  | .bl k => bif k then r h else .ok (.bl false) h
  | _ => .bad
def orV (r : MH → Out MV) (x : MV) (h : MH) : Out MV := match x with
  | .bl k => bif k then .ok (.bl true) h else r h
  | _ => .bad
def and2 (a b : Sm) : Sm := .ofT (fun σ h => (a.e σ h).bind (andV (b.e σ))) (fun σ h => (a.t σ h).bind fun x h1 => bif x then b.t σ h1 else .ok false h1)
def or2 (a b : Sm) : Sm := .ofT (fun σ h => (a.e σ h).bind (orV (b.e σ))) (fun σ h => (a.t σ h).bind fun x h1 => bif x then .ok true h1 else b.t σ h1)
def cmpT (op : CmpOp) (a b : Sm) (σ : En) (h : MH) : Out Bool := (a.e σ h).bind fun x h1 => (b.e σ h1).bind fun y h2 => giv (evCmp op x y h2) h2
def cmp (op : CmpOp) (a b : Sm) : Sm := .ofT (valT (cmpT op a b)) (cmpT op a b)
def cmp2T (op op' : CmpOp) (a b d : Sm) (σ : En) (h : MH) : Out Bool := (a.e σ h).bind fun x h1 => (b.e σ h1).bind fun y h2 => (giv (evCmp op x y h2) h2).bind fun k h3 =>
  bif k then (d.e σ h3).bind fun z h4 => giv (evCmp op' y z h4) h4 else .ok false h3
def cmp2 (op op' : CmpOp) (a b d : Sm) : Sm := .ofT (valT (cmp2T op op' a b d)) (cmp2T op op' a b d)
def ife (t a b : Sm) : Sm := .ofT (fun σ h => (t.t σ h).bind fun k h1 => bif k then a.e σ h1 else b.e σ h1) (fun σ h => (t.t σ h).bind fun k h1 => bif k then a.t σ h1 else b.t σ h1)
def tup (es : Sm) : Sm := .ofE fun σ h => (es.l σ h).bind fun xs h1 => bif Nat.ble xs.length szL then .ok (.tup xs) h1 else .bad
def lst (es : Sm) : Sm := .ofE fun σ h => (es.l σ h).bind fun xs h1 => bif Nat.ble xs.length szL then newL xs h1 else .bad
def ix (a i : Sm) : Sm := .ofE fun σ h => (a.e σ h).bind fun x h1 => (i.e σ h1).bind fun y h2 => giv (evIx x y h2) h2
def cutM (xs : List MV) (l u : Option Int) : List MV := (xs.drop (HT.sIx xs.length 0 l)).take (HT.sIx xs.length xs.length u - HT.sIx xs.length 0 l)
def slV (x : MV) (l u : Option Int) (h : MH) : Out MV := match x with
  | .tup xs => .ok (.tup (cutM xs l u)) h
  | .ref a => match lstAt h a with
    | some xs => newL (cutM xs l u) h
    | none => .bad
  | _ => .bad
def sl (a lo hi : Sm) : Sm := .ofE fun σ h => (a.e σ h).bind fun x h1 => (lo.p σ h1).bind fun l h2 => (hi.p σ h2).bind fun u h3 => slV x l u h3
def call (c : Ctx) (f : Nat) (es : Sm) : Sm := .ofE fun σ h => (es.l σ h).bind (c.call f)
def permV (perm : List Nat) (xs : List MV) : Option (List MV) := mapO (nth xs) perm
def callk (c : Ctx) (f : Nat) (es kws : Sm) (perm : List Nat) : Sm := .ofE fun σ h => (es.l σ h).bind fun xs h1 => (kws.l σ h1).bind fun ys h2 => (giv (permV perm (xs ++ ys)) h2).bind (c.call f)
def bi (f : BI) (es : Sm) : Sm := .ofE fun σ h => (es.l σ h).bind (evBI f)
def isi (k : TyK) (a : Sm) : Sm := .ofE fun σ h => (a.e σ h).bind fun x h1 => (giv (tyIs k x h1) h1).bind fun b h2 => .ok (.bl b) h2
def lc (c : Ctx) (tg it cond elt : Sm) (own : List Nat) : Sm := .ofE fun σ h => (it.i σ h).bind fun w h1 =>
  noExc ((lcGo tg.g cond.t elt.e w h1.sz (wipeE σ own) c.fuel 0 (h1.push (.lst false []))).bind fun _ h2 => .ok (.ref h1.sz) h2)
def rngL (lo : Int) (n : Nat) : List MV := (List.range n).map fun (k : Nat) => .int (lo + k)
def in62 (i : Int) : Bool := decide (-4611686018427387904 ≤ i) && decide (i < 4611686018427387904)
def lrngV (x y : MV) (h : MH) : Out MV := match x, y with
  | .int lo, .int hi => bif in62 lo && in62 hi && Nat.ble (hi - lo).toNat szL then newL (rngL lo (hi - lo).toNat) h else .bad
  | _, _ => .bad
def lrng1 (b : Sm) : Sm := .ofE fun σ h => (b.e σ h).bind (lrngV (.int 0))
def lrng2 (a b : Sm) : Sm := .ofE fun σ h => (a.e σ h).bind fun x h1 => (b.e σ h1).bind (lrngV x)
def nilG (vs : List MV) (σ : En) (h : MH) : Out En := match vs with
  | [] => .ok σ h
  | _ => .bad
def nil : Sm := ⟨noE, fun _ h => .ok true h, fun _ h => .ok [] h, noI, noG, nilG, fun _ h => .ok none h⟩
def consG (a r : Sm) (vs : List MV) (σ : En) (h : MH) : Out En := match vs with
  | v :: us => (a.g v σ h).bind fun σ1 h1 => noExc (r.gs us σ1 h1)
  | [] => .bad
def cons (a r : Sm) : Sm := ⟨noE, fun _ _ => .bad, fun σ h => (a.e σ h).bind fun x h1 => (r.l σ h1).bind fun xs h2 => .ok (x :: xs) h2, noI, noG, consG a r, fun _ _ => .bad⟩
def ofI (i : En → MH → Out IT) : Sm := ⟨noE, fun _ _ => .bad, noL, i, noG, noGs, fun _ _ => .bad⟩
def ofG (g : MV → En → MH → Out En) : Sm := ⟨noE, fun _ _ => .bad, noL, noI, g, noGs, fun _ _ => .bad⟩
def iSeqV (x : MV) (h : MH) : Out IT := match x with
  | .tup xs => .ok (.seq xs) h
  | .ref a => match lstAt h a with
    | some _ => .ok (.lst a) h
    | none => .bad
  | _ => .bad
def iSeq (a : Sm) : Sm := .ofI fun σ h => (a.e σ h).bind iSeqV
def iRngV (x y : MV) (h : MH) : Out IT := match x, y with
  | .int i, .int j => bif in62 i && in62 j then .ok (.rng i j) h else .bad
  | _, _ => .bad
def iRng1 (b : Sm) : Sm := .ofI fun σ h => (b.e σ h).bind (iRngV (.int 0))
def iRng2 (a b : Sm) : Sm := .ofI fun σ h => (a.e σ h).bind fun x h1 => (b.e σ h1).bind (iRngV x)
def gNm (i : Nat) : Sm := .ofG fun v σ h => .ok (σ.set i (some v)) h
def gTupV (ts : Sm) (v : MV) (σ : En) (h : MH) : Out En := match v with
  | .tup xs => noExc (ts.gs xs σ h)
  | _ => .bad
def gTup (ts : Sm) : Sm := .ofG (gTupV ts)
def setV (v x y : MV) (h : MH) : Option MH := match x, y with
  | .ref p, .int k => match mutAt h p with
    | some xs => match L2.ixN xs.length k with
      | some j => some (h.set p (.lst false (xs.set j v)))
      | none => none
    | none => none
  | _, _ => none
def gIx (a i : Sm) : Sm := .ofG fun v σ h => (a.e σ h).bind fun x h1 => (i.e σ h1).bind fun y h2 => (giv (setV v x y h2) h2).bind fun h3 _ => .ok σ h3
end Sm
end
noncomputable def ev (c : Ctx) (m : ME) : Sm :=
  @ME.rec (fun _ => Sm) Sm.cst Sm.var (Sm.gl c) (fun op _ _ a b => Sm.bin op a b) (fun _ a => Sm.neg a) (fun _ a => Sm.nt a) (fun _ _ a b => Sm.and2 a b) (fun _ _ a b => Sm.or2 a b)
    (fun op _ _ a b => Sm.cmp op a b) (fun op op' _ _ _ a b d => Sm.cmp2 op op' a b d) (fun _ _ _ t a b => Sm.ife t a b) (fun _ es => Sm.tup es) (fun _ es => Sm.lst es) (fun _ _ a i => Sm.ix a i)
    (fun _ _ _ a lo hi => Sm.sl a lo hi) (fun f _ es => Sm.call c f es) (fun f _ _ perm es kws => Sm.callk c f es kws perm) (fun f _ es => Sm.bi f es) (fun k _ a => Sm.isi k a)
    (fun _ _ _ _ own tg it cond elt => Sm.lc c tg it cond elt own) (fun _ b => Sm.lrng1 b) (fun _ _ a b => Sm.lrng2 a b) Sm.nil (fun _ _ a r => Sm.cons a r) (fun _ a => Sm.iSeq a) (fun _ b => Sm.iRng1 b) (fun _ _ a b => Sm.iRng2 a b) Sm.gNm (fun _ ts => Sm.gTup ts) (fun _ _ a i => Sm.gIx a i) m
theorem ev_bin (c : Ctx) (op : Operator) (a b : ME) : ev c (.bin op a b) = Sm.bin op (ev c a) (ev c b) := rfl
theorem ev_lc (c : Ctx) (tg it cond elt : ME) (own : List Nat) : ev c (.lc tg it cond elt own) = Sm.lc c (ev c tg) (ev c it) (ev c cond) (ev c elt) own := rfl

/-- a for's turns -/
noncomputable def forGo (tg : MV → En → MH → Out En) (body : En → MH → OS) (it : IT) : Nat → Nat → En → MH → OS
  | 0, _, _, _ => .bad
  | n + 1, i, σ, h => match it.at i h with
    | none => .bad
    | some none => .nx σ h
    | some (some v) => (tg v σ h).st σ fun σ1 h1 => match body σ1 h1 with
      | .nx σ2 h2 => forGo tg body it n (i + 1) σ2 h2
      | .ct σ2 h2 => forGo tg body it n (i + 1) σ2 h2
      | .bk σ2 h2 => .nx σ2 h2
      | r => r
/-- a while's turns -/
noncomputable def whlGo (t : En → MH → Out Bool) (body : En → MH → OS) : Nat → En → MH → OS
  | 0, _, _ => .bad
  | n + 1, σ, h => (t σ h).st σ fun b h1 => bif b then match body σ h1 with
      | .nx σ2 h2 => whlGo t body n σ2 h2
      | .ct σ2 h2 => whlGo t body n σ2 h2
      | .bk σ2 h2 => .nx σ2 h2
      | r => r
    else .nx σ h1
abbrev SS := En → MH → OS
noncomputable section
namespace SS
def nil : SS := fun σ h => .nx σ h
def cons (s r : SS) : SS := fun σ h => (s σ h).seq r
def asg (tg e : Sm) : SS := fun σ h => (e.e σ h).st σ fun v h1 => (tg.g v σ h1).st σ fun σ1 h2 => .nx σ1 h2
def ex (e : Sm) : SS := fun σ h => (e.e σ h).st σ fun _ h1 => .nx σ h1
def ret (e : Sm) : SS := fun σ h => (e.e σ h).st σ fun v h1 => .rt v h1
def ret0 : SS := fun _ h => .rt .non h
def brk : SS := fun σ h => .bk σ h
def cont : SS := fun σ h => .ct σ h
def ite (t : Sm) (a b : SS) : SS := fun σ h => (t.t σ h).st σ fun k h1 => bif k then a σ h1 else b σ h1
def whl (c : Ctx) (t : Sm) (b : SS) : SS := fun σ h => whlGo t.t b c.fuel σ h
def for_ (c : Ctx) (tg it : Sm) (b : SS) : SS := fun σ h => (it.i σ h).st σ fun w h1 => forGo tg.g b w c.fuel 0 σ h1
def never : SS := fun _ _ => .bad
end SS
end
noncomputable def evS (c : Ctx) (s : MS) : SS :=
  @MS.rec (fun _ => SS) SS.nil (fun _ _ s r => SS.cons s r) (fun tg e => SS.asg (ev c tg) (ev c e)) (fun e => SS.ex (ev c e)) (fun e => SS.ret (ev c e)) SS.ret0 SS.nil SS.brk SS.cont
    (fun t _ _ a b => SS.ite (ev c t) a b) (fun t _ b => SS.whl c (ev c t) b) (fun tg it _ b => SS.for_ c (ev c tg) (ev c it) b) SS.never s

/-- a whole program: its defs, its constants -/
structure Pg where
  fn : Nat → Option FD
  con : Nat → Option MV
  fuel : Nat
def startE (ns : Nat) (vs : List MV) : En := vs.map some ++ List.replicate (ns - vs.length) none
/-- a def's end -/
def OS.out (r : OS) : Out MV := match r with
  | .nx _ h => .ok .non h
  | .rt v h => .ok v h
  | .exc x _ h => .exc x h
  | _ => .bad
noncomputable def callD (P : Pg) : Nat → Nat → List MV → MH → Out MV
  | 0, _, _, _ => .bad
  | d + 1, f, vs, h => match P.fn f with
    | some fd => if vs.length = fd.np then (evS ⟨callD P d, P.con, P.fuel⟩ fd.body (startE fd.ns vs) h).out else .bad
    | none => .bad
end Mp
/-! MpB: how the small evaluator's values and heap lie in the model's. -/
namespace Mp
open PySem L2

/-- where the program's things stand: the written part, the defs' addresses, the classes' (with the field that an error of one keeps) -/
structure Tb where
  K : PySem.W.Frag
  fa : Nat → Option Addr
  ca : Nat → Option Addr
  cf : Nat → Option Str

abbrev Io := Nat → Addr
mutual
inductive RV (T : Tb) (ι : Io) (n : Nat) (H : Hp) : MV → V → Prop
  | non : RV T ι n H .non .non
  | bl (b : Bool) : RV T ι n H (.bl b) (.bl b)
  | int (i : Int) : RV T ι n H (.int i) (.int i)
  | str (s : List Nat) : RV T ι n H (.str s) (.str ⟨s.toArray⟩)
  | tup {a : Addr} {xs : List MV} {vs : List V} (h : SqT T.K H a vs) (r : RVs T ι n H xs vs) : RV T ι n H (.tup xs) (.ref a)
  | ref {i : Nat} (h : i < n) : RV T ι n H (.ref i) (.ref (ι i))
  | fn {f : Nat} {a : Addr} (h : T.fa f = some a) : RV T ι n H (.fn f) (.ref a)
inductive RVs (T : Tb) (ι : Io) (n : Nat) (H : Hp) : List MV → List V → Prop
  | nil : RVs T ι n H [] []
  | cons {x : MV} {v : V} {xs : List MV} {vs : List V} (h : RV T ι n H x v) (r : RVs T ι n H xs vs) : RVs T ι n H (x :: xs) (v :: vs)
end

/-- tuples stand -/
def TK (K : PySem.W.Frag) (H H' : Hp) : Prop := ∀ a xs, SqT K H a xs → SqT K H' a xs
theorem TK.refl {K : PySem.W.Frag} {H : Hp} : TK K H H := fun _ _ h => h
theorem TK.trans {K : PySem.W.Frag} {H H1 H2 : Hp} (a : TK K H H1) (b : TK K H1 H2) : TK K H H2 := fun c xs h => b c xs (a c xs h)
theorem TK.new {K : PySem.W.Frag} {H : Hp} {p : Addr} {o : HO} (h : H p = none) : TK K H (upd H p o) := fun a xs r => by
  have q : ∀ {u : HO}, H a = some u → upd H p o a = some u := fun {u} e => by
    rw [upd_ne (ne_of_none e h)]; exact e
  rcases r with (e | ⟨o', e⟩) | e
  · exact .inl (.inl (q e))
  · exact .inl (.inr ⟨o', q e⟩)
  · exact .inr e
theorem TK.wr {K : PySem.W.Frag} {H : Hp} {p : Addr} {o : HO} (h : Mut (H p)) : TK K H (upd H p o) := fun a xs r => by
  have q : ∀ {u : HO}, ¬ Mut (some u) → H a = some u → upd H p o a = some u := fun {u} nm e => by
    rw [upd_ne (fun z => by subst z; rw [e] at h; exact nm h)]; exact e
  rcases r with (e | ⟨o', e⟩) | e
  · exact .inl (.inl (q (fun z => z) e))
  · exact .inl (.inr ⟨o', q (fun z => z) e⟩)
  · exact .inr e

section
variable {T : Tb} {ι ι' : Io} {n n' : Nat} {H H' : Hp}
mutual
theorem RV.mono (le : n ≤ n') (ag : ∀ i, i < n → ι' i = ι i) (tk : TK T.K H H') : ∀ {x : MV} {v : V}, RV T ι n H x v → RV T ι' n' H' x v
  | _, _, .non => .non
  | _, _, .bl b => .bl b
  | _, _, .int i => .int i
  | _, _, .str s => .str s
  | _, _, .tup h r => .tup (tk _ _ h) (RVs.mono le ag tk r)
  | _, _, .ref (i := i) h => by
    rw [← ag i h]
    exact .ref (Nat.lt_of_lt_of_le h le)
  | _, _, .fn h => .fn h
theorem RVs.mono (le : n ≤ n') (ag : ∀ i, i < n → ι' i = ι i) (tk : TK T.K H H') : ∀ {xs : List MV} {vs : List V}, RVs T ι n H xs vs → RVs T ι' n' H' xs vs
  | _, _, .nil => .nil
  | _, _, .cons h r => .cons (RV.mono le ag tk h) (RVs.mono le ag tk r)
end
theorem RVs.length : ∀ {xs : List MV} {vs : List V}, RVs T ι n H xs vs → xs.length = vs.length
  | _, _, .nil => rfl
  | _, _, .cons _ r => congrArg Nat.succ (RVs.length r)
theorem nth_eq {α : Type} : ∀ (xs : List α) (i : Nat), nth xs i = xs[i]?
  | [], i => by simp [nth]
  | x :: r, 0 => by simp [nth]
  | x :: r, i + 1 => by simp [nth, nth_eq r i]
theorem RVs.get : ∀ {xs : List MV} {vs : List V} {i : Nat} {x : MV}, RVs T ι n H xs vs → xs[i]? = some x → ∃ v, vs[i]? = some v ∧ RV T ι n H x v
  | _, _, _, _, .nil, e => by simp at e
  | _, _, 0, _, .cons h _, e => by
    simp at e
    subst e
    exact ⟨_, rfl, h⟩
  | _, _, i + 1, _, .cons _ r, e => by
    obtain ⟨v, e', h⟩ := RVs.get (i := i) r (by simpa using e)
    exact ⟨v, by simpa using e', h⟩
theorem RVs.get' : ∀ {xs : List MV} {vs : List V} {i : Nat} {v : V}, RVs T ι n H xs vs → vs[i]? = some v → ∃ x, xs[i]? = some x ∧ RV T ι n H x v
  | _, _, _, _, .nil, e => by simp at e
  | _, _, 0, _, .cons h _, e => by
    simp at e
    subst e
    exact ⟨_, rfl, h⟩
  | _, _, i + 1, _, .cons _ r, e => by
    obtain ⟨v, e', h⟩ := RVs.get' (i := i) r (by simpa using e)
    exact ⟨v, by simpa using e', h⟩
theorem RVs.append : ∀ {xs ys : List MV} {vs ws : List V}, RVs T ι n H xs vs → RVs T ι n H ys ws → RVs T ι n H (xs ++ ys) (vs ++ ws)
  | _, _, _, _, .nil, s => s
  | _, _, _, _, .cons h r, s => .cons h (RVs.append r s)
theorem RVs.take : ∀ {xs : List MV} {vs : List V} (k : Nat), RVs T ι n H xs vs → RVs T ι n H (xs.take k) (vs.take k)
  | _, _, 0, _ => .nil
  | _, _, _ + 1, .nil => .nil
  | _, _, k + 1, .cons h r => .cons h (RVs.take k r)
theorem RVs.drop : ∀ {xs : List MV} {vs : List V} (k : Nat), RVs T ι n H xs vs → RVs T ι n H (xs.drop k) (vs.drop k)
  | _, _, 0, r => r
  | _, _, _ + 1, .nil => .nil
  | _, _, k + 1, .cons _ r => RVs.drop k r
theorem RVs.set {x : MV} {v : V} (h : RV T ι n H x v) : ∀ {xs : List MV} {vs : List V} (k : Nat), RVs T ι n H xs vs → RVs T ι n H (xs.set k x) (vs.set k v)
  | _, _, _, .nil => .nil
  | _, _, 0, .cons _ r => .cons h r
  | _, _, k + 1, .cons q r => .cons q (RVs.set h k r)
end

/-! ### objects, heaps -/
/-- a list that is read, never written -/
def FrzL (K : PySem.W.Frag) (H : Hp) (a : Addr) (vs : List V) : Prop :=
  (∃ o, H a = some (.frz o (.lst vs))) ∨
    ∃ (o : Obj) (its : Array Value) (n : Nat), K.lookup a = some o ∧ o.cls = .type "list" ∧ o.dict = none ∧ o.data = .seq its n ∧ its.size ≤ sizeLine ∧ Vals vs its.toList
theorem FrzL.sq {K : PySem.W.Frag} {H : Hp} {a : Addr} {vs : List V} (h : FrzL K H a vs) : SqL K H a vs := h.elim (fun e => .inl (.inr e)) .inr
inductive RO (T : Tb) (ι : Io) (n : Nat) (H : Hp) : MO → Addr → Prop
  | lst {xs : List MV} {vs : List V} {a : Addr} (h : H a = some (.lst vs)) (r : RVs T ι n H xs vs) : RO T ι n H (.lst false xs) a
  | flst {xs : List MV} {vs : List V} {a : Addr} (h : FrzL T.K H a vs) (r : RVs T ι n H xs vs) : RO T ι n H (.lst true xs) a
def mutO : Option MO → Bool
  | some (.lst true _) => false
  | _ => true
structure RH (T : Tb) (ι : Io) (h : MH) (H : Hp) : Prop where
  inj : ∀ i j, i < h.sz → j < h.sz → mutO (h.get i) = true → mutO (h.get j) = true → ι i = ι j → i = j
  ob : ∀ i, i < h.sz → ∃ o, h.get i = some o ∧ RO T ι h.sz H o (ι i)
/-- what may come behind -/
structure Fut (T : Tb) (ι : Io) (h : MH) (H : Hp) (ι' : Io) (h' : MH) (H' : Hp) : Prop where
  le : h.sz ≤ h'.sz
  ag : ∀ i, i < h.sz → ι' i = ι i
  tk : TK T.K H H'
  rh : RH T ι' h' H'
section
variable {T : Tb} {ι ι' ι2 : Io} {h h' h2 : MH} {H H' H2 : Hp}
theorem Fut.refl (r : RH T ι h H) : Fut T ι h H ι h H := ⟨Nat.le_refl _, fun _ _ => rfl, .refl, r⟩
theorem Fut.trans (a : Fut T ι h H ι' h' H') (b : Fut T ι' h' H' ι2 h2 H2) : Fut T ι h H ι2 h2 H2 :=
  ⟨Nat.le_trans a.le b.le, fun i hi => (b.ag i (Nat.lt_of_lt_of_le hi a.le)).trans (a.ag i hi), a.tk.trans b.tk, b.rh⟩
theorem RV.fut (F : Fut T ι h H ι' h' H') {x : MV} {v : V} (r : RV T ι h.sz H x v) : RV T ι' h'.sz H' x v := r.mono F.le F.ag F.tk
theorem RVs.fut (F : Fut T ι h H ι' h' H') {xs : List MV} {vs : List V} (r : RVs T ι h.sz H xs vs) : RVs T ι' h'.sz H' xs vs := r.mono F.le F.ag F.tk
theorem RH.lst (r : RH T ι h H) {i : Nat} (hi : i < h.sz) {xs : List MV} (e : lstAt h i = some xs) : ∃ vs, SqL T.K H (ι i) vs ∧ RVs T ι h.sz H xs vs := by
  obtain ⟨o, e1, q⟩ := r.ob i hi
  unfold lstAt at e
  rw [e1] at e
  cases q with
  | lst q1 q2 => cases e; exact ⟨_, .inl (.inl q1), q2⟩
  | flst q1 q2 => cases e; exact ⟨_, q1.sq, q2⟩
theorem RH.mut (r : RH T ι h H) {i : Nat} (hi : i < h.sz) {xs : List MV} (e : mutAt h i = some xs) : h.get i = some (.lst false xs) ∧ ∃ vs, H (ι i) = some (.lst vs) ∧ RVs T ι h.sz H xs vs := by
  obtain ⟨o, e1, q⟩ := r.ob i hi
  unfold mutAt at e
  rw [e1] at e
  cases q with
  | lst q1 q2 => cases e; exact ⟨e1, _, q1, q2⟩
  | flst q1 q2 => cases e
/-- an object stays where the abstract heap changes elsewhere -/
theorem RO.keep {n n' : Nat} {o : MO} {a : Addr} (q : RO T ι n H o a) (le : n ≤ n') (ag : ∀ i, i < n → ι' i = ι i) (tk : TK T.K H H') (st : ∀ u, H a = some u → H' a = some u) : RO T ι' n' H' o a := by
  cases q with
  | lst h r => exact .lst (st _ h) (r.mono le ag tk)
  | flst h r =>
    refine .flst ?_ (r.mono le ag tk)
    rcases h with ⟨o, e⟩ | e
    · exact .inl ⟨o, st _ e⟩
    · exact .inr e
def pushI (ι : Io) (h : MH) (p : Addr) : Io := fun i => if i = h.sz then p else ι i
theorem pushI_old {p : Addr} {i : Nat} (hi : i < h.sz) : pushI ι h p i = ι i := if_neg (Nat.ne_of_lt hi)
theorem pushI_new {p : Addr} : pushI ι h p h.sz = p := if_pos rfl
/-- a new list -/
theorem RH.new (r : RH T ι h H) {p : Addr} (hp : H p = none) {xs : List MV} {vs : List V} (q : RVs T ι h.sz H xs vs) :
    Fut T ι h H (pushI ι h p) (h.push (.lst false xs)) (upd H p (.lst vs)) := by
  have le : h.sz ≤ (h.push (.lst false xs)).sz := Nat.le_succ _
  have ag : ∀ i, i < h.sz → pushI ι h p i = ι i := fun i hi => pushI_old hi
  have tk : TK T.K H (upd H p (.lst vs)) := .new hp
  have old : ∀ i, i < h.sz → (h.push (.lst false xs)).get i = h.get i := fun i hi => by rw [MH.get_push, if_neg (Nat.ne_of_lt hi)]
  have nw : (h.push (.lst false xs)).get h.sz = some (.lst false xs) := by rw [MH.get_push, if_pos rfl]
  have apart : ∀ i, i < h.sz → mutO (h.get i) = true → ι i ≠ p := fun i hi hm z => by
    obtain ⟨o, e1, q⟩ := r.ob i hi
    cases q with
    | lst q1 _ => rw [z, hp] at q1; cases q1
    | flst _ _ => rw [e1] at hm; cases hm
  refine ⟨le, ag, tk, fun i j hi hj mi mj e => ?_, fun i hi => ?_⟩
  · have hi' : i < h.sz ∨ i = h.sz := Nat.lt_succ_iff_lt_or_eq.mp hi
    have hj' : j < h.sz ∨ j = h.sz := Nat.lt_succ_iff_lt_or_eq.mp hj
    rcases hi' with hi' | rfl <;> rcases hj' with hj' | rfl
    · rw [ag i hi', ag j hj'] at e
      exact r.inj i j hi' hj' (by rw [← old i hi']; exact mi) (by rw [← old j hj']; exact mj) e
    · rw [ag i hi', pushI_new] at e
      exact absurd e (apart i hi' (by rw [← old i hi']; exact mi))
    · rw [ag j hj', pushI_new] at e
      exact absurd e.symm (apart j hj' (by rw [← old j hj']; exact mj))
    · rfl
  · have hi' : i < h.sz ∨ i = h.sz := Nat.lt_succ_iff_lt_or_eq.mp hi
    rcases hi' with hi' | rfl
    · obtain ⟨o, e1, q⟩ := r.ob i hi'
      refine ⟨o, by rw [old i hi']; exact e1, ?_⟩
      rw [ag i hi']
      exact q.keep le ag tk fun u e => by rw [upd_ne (ne_of_none e hp)]; exact e
    · refine ⟨_, nw, ?_⟩
      rw [pushI_new]
      exact .lst upd_same (q.mono le ag tk)
/-- a list written -/
theorem RH.wr (r : RH T ι h H) {i : Nat} (hi : i < h.sz) {xs ys : List MV} {ws : List V} (e : mutAt h i = some xs) (q : RVs T ι h.sz H ys ws) :
    Fut T ι h H ι (h.set i (.lst false ys)) (upd H (ι i) (.lst ws)) := by
  obtain ⟨e0, vs, e1, q1⟩ := r.mut hi e
  have tk : TK T.K H (upd H (ι i) (.lst ws)) := .wr (by rw [e1]; trivial)
  have mt : ∀ j, mutO ((h.set i (.lst false ys)).get j) = mutO (h.get j) := fun j => by
    rw [MH.get_set]
    by_cases hj : j = i
    · rw [if_pos hj, hj, e0]; rfl
    · rw [if_neg hj]
  refine ⟨Nat.le_refl _, fun _ _ => rfl, tk, fun a b ha hb ma mb z => r.inj a b ha hb (by rw [← mt]; exact ma) (by rw [← mt]; exact mb) z, fun j hj => ?_⟩
  by_cases hji : j = i
  · subst hji
    exact ⟨_, by rw [MH.get_set, if_pos rfl], .lst upd_same (q.mono (Nat.le_refl _) (fun _ _ => rfl) tk)⟩
  · obtain ⟨o, e2, q2⟩ := r.ob j hj
    refine ⟨o, by rw [MH.get_set, if_neg hji]; exact e2, ?_⟩
    cases q2 with
    | lst q3 q4 =>
      have ne : ι j ≠ ι i := fun y => hji (r.inj j i hj hi (by rw [e2]; rfl) (by rw [e0]; rfl) y)
      exact .lst (by rw [upd_ne ne]; exact q3) (q4.mono (Nat.le_refl _) (fun _ _ => rfl) tk)
    | flst q3 q4 =>
      refine .flst ?_ (q4.mono (Nat.le_refl _) (fun _ _ => rfl) tk)
      rcases q3 with ⟨o', q3⟩ | q3
      · have ne : ι j ≠ ι i := fun y => by rw [y, e1] at q3; cases q3
        exact .inl ⟨o', by rw [upd_ne ne]; exact q3⟩
      · exact .inr q3
end

/-! ### slots -/
structure RE (T : Tb) (ι : Io) (n : Nat) (H : Hp) (σ : En) (τ : St) : Prop where
  len : σ.length = τ.length
  at_ : ∀ (i : Nat) (v : MV), σ[i]? = some (some v) → ∃ u : V, τ[i]? = some (some u) ∧ RV T ι n H v u
section
variable {T : Tb} {ι ι' ι2 : Io} {n : Nat} {h h' h2 : MH} {H H' H2 : Hp} {σ : En} {τ : St}
theorem RE.fut (F : Fut T ι h H ι' h' H') (r : RE T ι h.sz H σ τ) : RE T ι' h'.sz H' σ τ :=
  ⟨r.len, fun i v e => let ⟨u, a, b⟩ := r.at_ i v e; ⟨u, a, b.fut F⟩⟩
theorem RE.set (r : RE T ι n H σ τ) {v : MV} {u : V} (q : RV T ι n H v u) (i : Nat) : RE T ι n H (σ.set i (some v)) (τ.set i (some u)) := by
  refine ⟨by simp [r.len], fun j w e => ?_⟩
  by_cases hj : i = j
  · subst hj
    by_cases hl : i < σ.length
    · rw [List.getElem?_set_self hl] at e
      cases e
      exact ⟨u, by rw [List.getElem?_set_self (by rw [← r.len]; exact hl)], q⟩
    · rw [List.getElem?_eq_none (by simpa using hl)] at e
      cases e
  · rw [List.getElem?_set_ne hj] at e
    obtain ⟨w', a, b⟩ := r.at_ j w e
    exact ⟨w', by rw [List.getElem?_set_ne hj]; exact a, b⟩
theorem RE.wipe (r : RE T ι n H σ τ) : ∀ vs : List Nat, RE T ι n H (wipeE σ vs) (L2.wipe τ vs)
  | [] => r
  | v :: vs => by
    have q := RE.wipe r vs
    refine ⟨by simp [wipeE, L2.wipe, q.len], fun j w e => ?_⟩
    unfold wipeE at e
    unfold L2.wipe
    by_cases hj : v = j
    · subst hj
      by_cases hl : v < (wipeE σ vs).length
      · rw [List.getElem?_set_self hl] at e
        cases e
      · rw [List.getElem?_eq_none (by simpa using hl)] at e
        cases e
    · rw [List.getElem?_set_ne hj] at e
      obtain ⟨w', a, b⟩ := q.at_ j w e
      exact ⟨w', by rw [List.getElem?_set_ne hj]; exact a, b⟩
/-- slots that changed -/
def Chg (sl : List Nat) (τ τ' : St) : Prop := τ'.length = τ.length ∧ ∀ j, j ∉ sl → τ'[j]? = τ[j]?
theorem Chg.refl {sl : List Nat} {τ : St} : Chg sl τ τ := ⟨rfl, fun _ _ => rfl⟩
theorem Chg.trans {sl : List Nat} {τ τ' τ2 : St} (a : Chg sl τ τ') (b : Chg sl τ' τ2) : Chg sl τ τ2 := ⟨b.1.trans a.1, fun j hj => (b.2 j hj).trans (a.2 j hj)⟩
theorem Chg.mono {sl sl' : List Nat} {τ τ' : St} (a : Chg sl τ τ') (hs : ∀ j ∈ sl, j ∈ sl') : Chg sl' τ τ' := ⟨a.1, fun j hj => a.2 j fun z => hj (hs j z)⟩
theorem Chg.one {i : Nat} {τ : St} {v : Option V} : Chg [i] τ (τ.set i v) := ⟨by simp, fun j hj => List.getElem?_set_ne (by simp at hj; exact fun z => hj z.symm)⟩
theorem wipe_get (τ : St) : ∀ (vs : List Nat) (j : Nat), (L2.wipe τ vs)[j]? = if j ∈ vs then (if j < τ.length then some none else none) else τ[j]?
  | [], j => by simp [L2.wipe]
  | v :: vs, j => by
    unfold L2.wipe
    by_cases hj : v = j
    · subst hj
      rw [if_pos (by simp)]
      by_cases hl : v < (L2.wipe τ vs).length
      · rw [List.getElem?_set_self hl, if_pos (by rw [wipe_length] at hl; exact hl)]
      · rw [List.getElem?_eq_none (by simpa using hl), if_neg (by rw [wipe_length] at hl; exact hl)]
    · rw [List.getElem?_set_ne hj, wipe_get τ vs j]
      have this : (j ∈ v :: vs) ↔ j ∈ vs :=
        ⟨fun z => (List.mem_cons.mp z).elim (fun y => absurd y.symm hj) id, List.mem_cons_of_mem _⟩
      by_cases hm : j ∈ vs
      · rw [if_pos hm, if_pos (this.mpr hm)]
      · rw [if_neg hm, if_neg fun z => hm (this.mp z)]
theorem Chg.wiped {vs : List Nat} {τ τ' : St} (c : Chg vs (L2.wipe τ vs) τ') : L2.wipe τ' vs = L2.wipe τ vs := by
  have hl : τ'.length = τ.length := by rw [c.1, wipe_length]
  apply List.ext_getElem?
  intro j
  rw [wipe_get, wipe_get]
  by_cases hj : j ∈ vs
  · rw [if_pos hj, if_pos hj, hl]
  · rw [if_neg hj, if_neg hj, c.2 j hj, wipe_get, if_neg hj]
end

/-! ### what is wanted behind -/
/-- an error as it lies -/
def RX (T : Tb) (ι : Io) (n : Nat) (H : Hp) (x : Exn) (cls : Value) (d : Option Addr) : Prop :=
  ∃ C, T.ca x.C = some C ∧ cls = .ref C ∧ match x.arg with
    | none => d = none
    | some mv => ∃ dd v fld, d = some dd ∧ T.cf x.C = some fld ∧ H dd = some (.xd [(fld, v)]) ∧ RV T ι n H mv v
abbrev Rl (α β : Type) := Io → Nat → Hp → α → β → Prop
def PQ (X : L2.Cx) (T : Tb) (τ : St) (ι : Io) (h : MH) (H : Hp) {α β : Type} (RA : Rl α β) (r : Out α) (Q : β → Hp → Prop) : Prop := match r with
  | .ok a h' => ∀ ι' H' b, Fut T ι h H ι' h' H' → RA ι' h'.sz H' a b → Q b H'
  | .exc x h' => Takes X (fun cls d τ' H' => τ' = τ ∧ ∃ ι', Fut T ι h H ι' h' H' ∧ RX T ι' h'.sz H' x cls d)
  | .bad => False
section
variable {X : L2.Cx} {T : Tb} {τ : St} {ι ι' : Io} {h h' : MH} {H H' : Hp} {α β γ δ : Type} {RA : Rl α β} {RG : Rl γ δ}
theorem PQ.fut (F : Fut T ι h H ι' h' H') {r : Out α} {Q : β → Hp → Prop} (q : PQ X T τ ι h H RA r Q) : PQ X T τ ι' h' H' RA r Q := by
  cases r with
  | ok a h1 => exact fun ι1 H1 b F1 ra => q ι1 H1 b (F.trans F1) ra
  | exc x h1 => exact Takes.imp q fun cls d τ' H1 ⟨e, ι1, F1, rx⟩ => ⟨e, ι1, F.trans F1, rx⟩
  | bad => exact q
theorem PQ.imp {r : Out α} {Q Q' : β → Hp → Prop} (q : PQ X T τ ι h H RA r Q) (i : ∀ b H1, Q b H1 → Q' b H1) : PQ X T τ ι h H RA r Q' := by
  cases r with
  | ok a h1 => exact fun ι1 H1 b F1 ra => i _ _ (q ι1 H1 b F1 ra)
  | exc x h1 => exact q
  | bad => exact q
theorem PQ.bind {r : Out α} {k : α → MH → Out γ} {Q : δ → Hp → Prop} (q : PQ X T τ ι h H RG (r.bind k) Q) :
    PQ X T τ ι h H RA r (fun b H1 => ∃ ι1 a h1, Fut T ι h H ι1 h1 H1 ∧ RA ι1 h1.sz H1 a b ∧ PQ X T τ ι1 h1 H1 RG (k a h1) Q) := by
  cases r with
  | ok a h1 => exact fun ι1 H1 b F1 ra => ⟨ι1, a, h1, F1, ra, PQ.fut F1 q⟩
  | exc x h1 => exact q
  | bad => exact q
/-- the end as it is -/
theorem PQ.ok {a : α} {b : β} {Q : β → Hp → Prop} (q : PQ X T τ ι h H RA (.ok a h') Q) (F : Fut T ι h H ι' h' H') (ra : RA ι' h'.sz H' a b) : Q b H' := q ι' H' b F ra
theorem PQ.here {a : α} {b : β} {Q : β → Hp → Prop} (q : PQ X T τ ι h H RA (.ok a h) Q) (r : RH T ι h H) (ra : RA ι h.sz H a b) : Q b H := q ι H b (.refl r) ra
theorem PQ.giv {o : Option α} {Q : β → Hp → Prop} (q : PQ X T τ ι h H RA (giv o h') Q) : ∃ a, o = some a ∧ PQ X T τ ι h H RA (.ok a h') Q := by
  cases o with
  | none => exact False.elim q
  | some a => exact ⟨a, rfl, q⟩
theorem PQ.bif {c : Bool} {r r' : Out α} {Q : β → Hp → Prop} (q : PQ X T τ ι h H RA (bif c then r else r') Q) : (c = true ∧ PQ X T τ ι h H RA r Q) ∨ (c = false ∧ PQ X T τ ι h H RA r' Q) := by
  cases c with
  | true => exact .inl ⟨rfl, q⟩
  | false => exact .inr ⟨rfl, q⟩
end
/-- what is read, as a reading -/
def tR (X : L2.Cx) (T : Tb) {α β : Type} (RA : Rl α β) (f : En → MH → Out α) : St → Hp → (β → Hp → Prop) → Prop := fun τ H Q =>
  ∃ ι σ h, RE T ι h.sz H σ τ ∧ RH T ι h H ∧ PQ X T τ ι h H RA (f σ h) Q
abbrev tE (X : L2.Cx) (T : Tb) (f : En → MH → Out MV) : TE := tR X T (RV T) f
abbrev tT (X : L2.Cx) (T : Tb) (f : En → MH → Out Bool) : TT := tR X T (fun _ _ _ a b => a = b) f
abbrev tL (X : L2.Cx) (T : Tb) (f : En → MH → Out (List MV)) : TA := tR X T (RVs T) f
abbrev tP (X : L2.Cx) (T : Tb) (f : En → MH → Out (Option Int)) : TO := tR X T (fun _ _ _ a b => a = b) f
/-- a list of values that may be walked -/
def RIt (T : Tb) : Rl IT It := fun ι n H it J => ∀ h h' ι' H', h.sz = n → Fut T ι h H ι' h' H' → ∀ i,
  (it.at i h' = some none → J.stop i H') ∧
  (∀ v, it.at i h' = some (some v) → J.go i H' ∧ ∀ x H2, J.yld i H' x H2 → ∃ ι2, Fut T ι' h' H' ι2 h' H2 ∧ RV T ι2 h'.sz H2 v x)
abbrev tI (X : L2.Cx) (T : Tb) (f : En → MH → Out IT) : TI := tR X T (RIt T) f
/-- a target: the slots behind, those of sl alone having changed -/
def RSl (T : Tb) (sl : List Nat) (τ : St) : Rl En St := fun ι n H σ' τ' => RE T ι n H σ' τ' ∧ Chg sl τ τ'
def tG (X : L2.Cx) (T : Tb) (sl : List Nat) (f : MV → En → MH → Out En) : TG := fun x τ H Q =>
  ∃ ι σ h v, RE T ι h.sz H σ τ ∧ RH T ι h H ∧ RV T ι h.sz H v x ∧ PQ X T τ ι h H (RSl T sl τ) (f v σ h) Q
def tGs (X : L2.Cx) (T : Tb) (sl : List Nat) (f : List MV → En → MH → Out En) : TGs := fun xs τ H Q =>
  ∃ ι σ h vs, RE T ι h.sz H σ τ ∧ RH T ι h H ∧ RVs T ι h.sz H vs xs ∧ PQ X T τ ι h H (RSl T sl τ) (f vs σ h) Q
/-- a statement -/
def SQ (X : L2.Cx) (T : Tb) (ι : Io) (h : MH) (H : Hp) (r : OS) (D : Ends) : Prop := match r with
  | .nx σ' h' => ∀ ι' τ' H', Fut T ι h H ι' h' H' → RE T ι' h'.sz H' σ' τ' → D.nx τ' H'
  | .rt v h' => ∀ ι' H' u, Fut T ι h H ι' h' H' → RV T ι' h'.sz H' v u → D.rt u H'
  | .bk σ' h' => ∀ ι' τ' H', Fut T ι h H ι' h' H' → RE T ι' h'.sz H' σ' τ' → D.bk τ' H'
  | .ct σ' h' => ∀ ι' τ' H', Fut T ι h H ι' h' H' → RE T ι' h'.sz H' σ' τ' → D.ct τ' H'
  | .exc x σ' h' => Takes X (fun cls d τ' H' => ∃ ι', Fut T ι h H ι' h' H' ∧ RE T ι' h'.sz H' σ' τ' ∧ RX T ι' h'.sz H' x cls d)
  | .bad => False
def tS (X : L2.Cx) (T : Tb) (f : SS) : TS := fun D τ H => ∃ ι σ h, RE T ι h.sz H σ τ ∧ RH T ι h H ∧ SQ X T ι h H (f σ h) D
end Mp
/-! MpC: operators, comparisons, truth, items, slices, built-ins: each by its rule. -/
namespace Mp
open PySem L2

theorem szL_eq : szL = sizeLine := by rw [sizeLine_eq]; rfl
theorem ble_line {n : Nat} (h : Nat.ble n szL = true) : n ≤ sizeLine := by rw [← szL_eq]; exact Nat.le_of_ble_eq_true h
theorem i64_iff {i : Int} (h : i64 i = true) : -(2 ^ 64) < i ∧ i < 2 ^ 64 := by
  unfold i64 at h
  rw [Bool.and_eq_true, decide_eq_true_eq, decide_eq_true_eq] at h
  exact ⟨by omega, by omega⟩
theorem nat_pow_cast (k : Nat) : (((2 ^ k : Nat) : Int)) = 2 ^ k := by simp

section
variable {T : Tb} {ι ι' : Io} {h h' : MH} {H H' : Hp}
/-- a new tuple -/
theorem RH.tup (r : RH T ι h H) {p : Addr} (hp : H p = none) {xs : List MV} {vs : List V} (q : RVs T ι h.sz H xs vs) :
    Fut T ι h H ι h (upd H p (.tup vs)) ∧ RV T ι h.sz (upd H p (.tup vs)) (.tup xs) (.ref p) := by
  have tk : TK T.K H (upd H p (.tup vs)) := .new hp
  refine ⟨⟨Nat.le_refl _, fun _ _ => rfl, tk, r.inj, fun i hi => ?_⟩, .tup (.inl (.inl upd_same)) (q.mono (Nat.le_refl _) (fun _ _ => rfl) tk)⟩
  obtain ⟨o, e1, q1⟩ := r.ob i hi
  exact ⟨o, e1, q1.keep (Nat.le_refl _) (fun _ _ => rfl) tk fun u e => by rw [upd_ne (ne_of_none e hp)]; exact e⟩
theorem RVs.nil_iff {n : Nat} {xs : List MV} {vs : List V} (r : RVs T ι n H xs vs) : xs = [] ↔ vs = [] := by
  cases r with
  | nil => simp
  | cons _ _ => simp
theorem RVs.isEmpty {n : Nat} {xs : List MV} {vs : List V} (r : RVs T ι n H xs vs) : xs.isEmpty = vs.isEmpty := by
  cases r <;> rfl
theorem RVs.rep {n : Nat} {xs : List MV} {vs : List V} (r : RVs T ι n H xs vs) : ∀ k : Nat, RVs T ι n H (List.replicate k xs).flatten (List.replicate k vs).flatten
  | 0 => .nil
  | k + 1 => by
    rw [List.replicate_succ, List.replicate_succ, List.flatten_cons, List.flatten_cons]
    exact r.append (RVs.rep r k)
end

section
variable {X : L2.Cx} {T : Tb} {τ : St} {ι ι' : Io} {h h' : MH} {H H' : Hp}
/-- an end that is a new list -/
theorem PQ.newL {xs : List MV} {vs : List V} {Q : VK} (q : PQ X T τ ι h H (RV T) (newL xs h) Q) (r : RH T ι h H) (rv : RVs T ι h.sz H xs vs) : ∀ p, H p = none → Q (.ref p) (upd H p (.lst vs)) := fun p hp => by
  have F := r.new hp rv
  have z : RV T (pushI ι h p) (h.push (.lst false xs)).sz (upd H p (.lst vs)) (.ref h.sz) (.ref (pushI ι h p h.sz)) := .ref (Nat.lt_succ_self _)
  rw [pushI_new] at z
  exact q (pushI ι h p) _ _ F z
/-- an end that is a new tuple -/
theorem PQ.newT {xs : List MV} {vs : List V} {Q : VK} (q : PQ X T τ ι h H (RV T) (.ok (.tup xs) h) Q) (r : RH T ι h H) (rv : RVs T ι h.sz H xs vs) : ∀ p, H p = none → Q (.ref p) (upd H p (.tup vs)) := fun p hp => by
  obtain ⟨F, z⟩ := r.tup hp rv
  exact q ι _ _ F z

/-- two values -/
def rOp (X : L2.Cx) (T : Tb) (f : MV → MV → MH → Out MV) : R2 := fun x y H Q => ∃ ι h a b τ, RH T ι h H ∧ RV T ι h.sz H a x ∧ RV T ι h.sz H b y ∧ PQ X T τ ι h H (RV T) (f a b h) Q

theorem str_len {s1 s2 : List Nat} (c : Nat.ble (s1.length + s2.length) szL = true) : (⟨s1.toArray⟩ : Str).length + (⟨s2.toArray⟩ : Str).length ≤ sizeLine := by
  have := ble_line c
  show s1.toArray.size + s2.toArray.size ≤ sizeLine
  simpa using this
theorem str_app (s1 s2 : List Nat) : ((⟨s1.toArray⟩ : Str) ++ (⟨s2.toArray⟩ : Str)) = ⟨(s1 ++ s2).toArray⟩ := by
  show (⟨s1.toArray ++ s2.toArray⟩ : Str) = _
  simp
theorem mp_add (hK : X.K = T.K) : OpR X (binaryOp .Add) (rOp X T addV) := by
  intro pins s σ H x y v u Q I rx ry hq
  obtain ⟨ι, h, a, b, τ, r, ra, rb, q⟩ := hq
  unfold addV at q
  split at q
  · cases ra; cases rb
    exact op_add pins s σ H _ _ v u Q I rx ry ⟨_, _, rfl, rfl, q.here r (.int _)⟩
  · cases ra; cases rb
    rcases PQ.bif q with ⟨c, q⟩ | ⟨_, q⟩
    · refine op_add_str pins s σ H _ _ v u Q I rx ry ⟨_, _, rfl, rfl, str_len c, ?_⟩
      rw [str_app]
      exact q.here r (.str _)
    · exact q.elim
  · cases ra with
    | tup ha ra =>
      cases rb with
      | tup hb rb =>
        rcases PQ.bif q with ⟨c, q⟩ | ⟨_, q⟩
        · have hz := ble_line c
          rw [ra.length, rb.length] at hz
          rw [← hK] at ha hb
          refine op_catA pins s σ H _ _ v u Q I rx ry ⟨_, _, _, _, rfl, rfl, ha, hb, hz, fun e => ?_, fun _ e => ?_, fun _ _ p hp => q.newT r (ra.append rb) p hp⟩
          · have e' := ra.nil_iff.mpr e
            subst e'
            rw [List.nil_append] at q
            exact q.here r (.tup (by rw [← hK]; exact hb) rb)
          · have e' := rb.nil_iff.mpr e
            subst e'
            rw [List.append_nil] at q
            exact q.here r (.tup (by rw [← hK]; exact ha) ra)
        · exact q.elim
  · split at q
    · rename_i e1 e2
      cases ra with
      | ref ha =>
        cases rb with
        | ref hb =>
          rcases PQ.bif q with ⟨c, q⟩ | ⟨_, q⟩
          · have hz := ble_line c
            obtain ⟨_, vs, h1, r1⟩ := r.mut ha e1
            obtain ⟨_, ws, h2, r2⟩ := r.mut hb e2
            rw [r1.length, r2.length] at hz
            exact op_cat pins s σ H _ _ v u Q I rx ry ⟨_, _, _, _, rfl, rfl, h1, h2, hz, q.newL r (r1.append r2)⟩
          · exact q.elim
    · exact q.elim
  · exact q.elim
theorem mp_sub : OpR X (binaryOp .Sub) (rOp X T subV) := by
  intro pins s σ H x y v u Q I rx ry hq
  obtain ⟨ι, h, a, b, τ, r, ra, rb, q⟩ := hq
  unfold subV at q
  split at q
  · cases ra; cases rb
    exact op_sub pins s σ H _ _ v u Q I rx ry ⟨_, _, rfl, rfl, q.here r (.int _)⟩
  · exact q.elim
theorem mp_mul : OpR X (binaryOp .Mult) (rOp X T mulV) := by
  intro pins s σ H x y v u Q I rx ry hq
  obtain ⟨ι, h, a, b, τ, r, ra, rb, q⟩ := hq
  unfold mulV at q
  split at q
  · cases ra; cases rb
    rcases PQ.bif q with ⟨c, q⟩ | ⟨_, q⟩
    · rw [Bool.or_eq_true] at c
      exact op_mul pins s σ H _ _ v u Q I rx ry ⟨_, _, rfl, rfl, c.imp i64_iff i64_iff, q.here r (.int _)⟩
    · exact q.elim
  · split at q
    · rename_i e1
      cases ra with
      | ref ha =>
        cases rb
        obtain ⟨_, vs, h1, r1⟩ := r.mut ha e1
        unfold repL at q
        rcases PQ.bif q with ⟨c, q⟩ | ⟨_, q⟩
        · rw [Bool.and_eq_true, Bool.and_eq_true, decide_eq_true_eq, decide_eq_true_eq] at c
          obtain ⟨⟨c1, c2⟩, c3⟩ := c
          have hz := ble_line c3
          rw [r1.length] at hz
          exact op_rep pins s σ H _ _ v u Q I rx ry ⟨_, _, _, rfl, rfl, h1, by omega, by omega, hz, q.newL r (r1.rep _)⟩
        · exact q.elim
    · exact q.elim
  · exact q.elim
theorem cDiv_iff {j : Int} (h : cDiv j = true) : 0 < j ∧ j < 1073741824 := by
  unfold cDiv at h
  rw [Bool.and_eq_true, decide_eq_true_eq, decide_eq_true_eq] at h
  exact h
theorem mp_fdiv : OpR X (binaryOp .FloorDiv) (rOp X T fdivV) := by
  intro pins s σ H x y v u Q I rx ry hq
  obtain ⟨ι, h, a, b, τ, r, ra, rb, q⟩ := hq
  unfold fdivV at q
  split at q
  · cases ra; cases rb
    rcases PQ.bif q with ⟨c, q⟩ | ⟨_, q⟩
    · exact op_fdiv pins s σ H _ _ v u Q I rx ry ⟨_, _, rfl, rfl, cDiv_iff c, q.here r (.int _)⟩
    · exact q.elim
  · exact q.elim
theorem mp_mod : OpR X (binaryOp .Mod) (rOp X T modV) := by
  intro pins s σ H x y v u Q I rx ry hq
  obtain ⟨ι, h, a, b, τ, r, ra, rb, q⟩ := hq
  unfold modV at q
  split at q
  · cases ra; cases rb
    rcases PQ.bif q with ⟨c, q⟩ | ⟨_, q⟩
    · exact op_mod pins s σ H _ _ v u Q I rx ry ⟨_, _, rfl, rfl, decide_eq_true_eq.mp c, q.here r (.int _)⟩
    · exact q.elim
  · exact q.elim
theorem cPow_iff {i j : Int} (h : cPow i j = true) : 0 ≤ j ∧ j ≤ 1000000 ∧ i.natAbs < 2 ^ 64 := by
  unfold cPow at h
  rw [Bool.and_eq_true, Bool.and_eq_true, decide_eq_true_eq, decide_eq_true_eq] at h
  have := i64_iff h.2
  exact ⟨h.1.1, h.1.2, by omega⟩
theorem mp_pow : OpR X (binaryOp .Pow) (rOp X T powV) := by
  intro pins s σ H x y v u Q I rx ry hq
  obtain ⟨ι, h, a, b, τ, r, ra, rb, q⟩ := hq
  unfold powV at q
  split at q
  · cases ra; cases rb
    rcases PQ.bif q with ⟨c, q⟩ | ⟨_, q⟩
    · exact op_pow pins s σ H _ _ v u Q I rx ry ⟨_, _, rfl, rfl, cPow_iff c, q.here r (.int _)⟩
    · exact q.elim
  · exact q.elim
theorem mp_shl : OpR X (binaryOp .LShift) (rOp X T shlV) := by
  intro pins s σ H x y v u Q I rx ry hq
  obtain ⟨ι, h, a, b, τ, r, ra, rb, q⟩ := hq
  unfold shlV at q
  split at q
  · cases ra; cases rb
    rcases PQ.bif q with ⟨c, q⟩ | ⟨_, q⟩
    · refine op_shl pins s σ H _ _ v u Q I rx ry ⟨_, _, rfl, rfl, cPow_iff c, ?_⟩
      rw [nat_pow_cast] at q
      exact q.here r (.int _)
    · exact q.elim
  · exact q.elim
theorem mp_shr : OpR X (binaryOp .RShift) (rOp X T shrV) := by
  intro pins s σ H x y v u Q I rx ry hq
  obtain ⟨ι, h, a, b, τ, r, ra, rb, q⟩ := hq
  unfold shrV at q
  split at q
  · cases ra; cases rb
    rcases PQ.bif q with ⟨c, q⟩ | ⟨_, q⟩
    · refine op_shr pins s σ H _ _ v u Q I rx ry ⟨_, _, rfl, rfl, decide_eq_true_eq.mp c, ?_⟩
      rw [nat_pow_cast] at q
      exact q.here r (.int _)
    · exact q.elim
  · exact q.elim
theorem mp_no {f : Value → Value → Sem Value} : OpR X f (rOp X T no2) := by
  intro pins s σ H x y v u Q I rx ry hq
  obtain ⟨ι, h, a, b, τ, r, ra, rb, q⟩ := hq
  exact q.elim
theorem mp_bin (hK : X.K = T.K) (op : Operator) : OpR X (binaryOp op) (rOp X T (evBin op)) := by
  cases op with
  | Add => exact mp_add hK
  | Sub => exact mp_sub
  | Mult => exact mp_mul
  | FloorDiv => exact mp_fdiv
  | Mod => exact mp_mod
  | Pow => exact mp_pow
  | LShift => exact mp_shl
  | RShift => exact mp_shr
  | _ => exact mp_no

/-! ### comparisons -/
def rCm (X : L2.Cx) (T : Tb) (f : MV → MV → MH → Option Bool) : R2 := fun x y H Q => ∃ ι h a b k, RH T ι h H ∧ RV T ι h.sz H a x ∧ RV T ι h.sz H b y ∧ f a b h = some k ∧ Q (.bl k) H
theorem mapO_all {α β : Type} {f : α → Option β} {P : α → β → Prop} (hf : ∀ x y, f x = some y → P x y) : ∀ {xs : List α} {ys : List β}, mapO f xs = some ys → Paired P xs ys
  | [], ys, e => by
    have : ys = [] := (Option.some.inj e).symm
    subst this
    exact .nil
  | x :: r, ys, e => by
    unfold mapO at e
    cases h1 : f x with
    | none => rw [h1] at e; cases e
    | some y =>
      cases h2 : mapO f r with
      | none => rw [h1, h2] at e; cases e
      | some s =>
        rw [h1, h2] at e
        cases e
        exact .cons (hf _ _ h1) (mapO_all hf h2)
theorem dps_of {T : Tb} {ι : Io} {n : Nat} {H : Hp} {f : MV → PyData → Prop} (hf : ∀ x d v, f x d → RV T ι n H x v → Dp T.K H v d) : ∀ {xs : List MV} {ds : List PyData} {vs : List V}, Paired f xs ds → RVs T ι n H xs vs → DpAll T.K H vs ds
  | _, _, _, .nil, .nil => .nil
  | _, _, _, .cons p q, .cons a b => .cons (hf _ _ _ p a) (dps_of hf q b)
theorem toD_ok {T : Tb} {ι : Io} {h : MH} {H : Hp} (r : RH T ι h H) : ∀ (n : Nat) {x : MV} {d : PyData} {v : V}, toD h n x = some d → RV T ι h.sz H x v → Dp T.K H v d := by
  intro n
  induction n with
  | zero =>
    intro x d v e rv
    cases rv with
    | non => cases (Option.some.inj e); exact .non
    | bl b => cases (Option.some.inj e); exact .bl b
    | int i => cases (Option.some.inj e); exact .int i
    | str s => cases (Option.some.inj e); exact .str _
    | tup _ _ => cases e
    | ref _ => cases e
    | fn _ => cases e
  | succ n ih =>
    intro x d v e rv
    cases rv with
    | non => cases (Option.some.inj e); exact .non
    | bl b => cases (Option.some.inj e); exact .bl b
    | int i => cases (Option.some.inj e); exact .int i
    | str s => cases (Option.some.inj e); exact .str _
    | tup hs rs =>
      simp only [toD, Option.map_eq_some_iff] at e
      obtain ⟨ds, e1, rfl⟩ := e
      exact .tup hs (dps_of (f := fun x d => toD h n x = some d) (fun x d v e r' => ih e r') (mapO_all (fun _ _ e => e) e1) rs)
    | ref hi =>
      simp only [toD] at e
      split at e
      · rename_i xs el
        simp only [Option.map_eq_some_iff] at e
        obtain ⟨ds, e1, rfl⟩ := e
        obtain ⟨vs, hs, rs⟩ := r.lst hi el
        exact .lst hs (dps_of (f := fun x d => toD h n x = some d) (fun x d v e r' => ih e r') (mapO_all (fun _ _ e => e) e1) rs)
      · cases e
    | fn _ => cases e
theorem str_inj {s t : List Nat} : ((⟨s.toArray⟩ : Str) = ⟨t.toArray⟩) ↔ s = t := by
  constructor
  · intro e
    have e1 : s.toArray = t.toArray := by injection e
    simpa using congrArg Array.toList e1
  · rintro rfl; rfl
theorem eqD_some {a b : MV} {h : MH} {k : Bool} (e : eqD a b h = some k) : ∃ d1 d2, toD h deep a = some d1 ∧ toD h deep b = some d2 ∧ SeqAt.shaped d1 = true ∧ SeqAt.shaped d2 = true ∧ PyData.eqv d1 d2 = k := by
  unfold eqD at e
  cases e1 : toD h deep a with
  | none => rw [e1] at e; cases e
  | some d1 =>
    cases e2 : toD h deep b with
    | none => rw [e1, e2] at e; cases e
    | some d2 =>
      rw [e1, e2] at e
      simp only at e
      cases c : SeqAt.shaped d1 && SeqAt.shaped d2 with
      | false => rw [c] at e; cases e
      | true =>
        rw [c] at e
        rw [Bool.and_eq_true] at c
        exact ⟨d1, d2, rfl, rfl, c.1, c.2, Option.some.inj e⟩
theorem evEq_some {a b : MV} {h : MH} {k : Bool} (e : evEq a b h = some k) : (∃ i j, a = .int i ∧ b = .int j ∧ k = decide (i = j)) ∨ (∃ i j, a = .str i ∧ b = .str j ∧ k = decide (i = j)) ∨ (∃ i j, a = .bl i ∧ b = .bl j ∧ k = (i == j)) ∨ eqD a b h = some k := by
  unfold evEq at e
  split at e
  · exact .inl ⟨_, _, rfl, rfl, (Option.some.inj e).symm⟩
  · exact .inr (.inl ⟨_, _, rfl, rfl, (Option.some.inj e).symm⟩)
  · exact .inr (.inr (.inl ⟨_, _, rfl, rfl, (Option.some.inj e).symm⟩))
  · exact .inr (.inr (.inr e))
theorem mp_eq (hK : X.K = T.K) (hu : X.A.units + 64 < cLine) : OpR X (compareOp .Eq) (rCm X T evEq) := by
  intro pins s σ H x y v u Q I rx ry hq
  obtain ⟨ι, h, a, b, k, r, ra, rb, e, q⟩ := hq
  rcases evEq_some e with ⟨i, j, rfl, rfl, rfl⟩ | ⟨i, j, rfl, rfl, rfl⟩ | ⟨i, j, rfl, rfl, rfl⟩ | e
  · cases ra; cases rb
    refine op_eq pins s σ H _ _ v u Q I rx ry ⟨rfl, ?_⟩
    rw [dec_int, Bool.beq_eq_decide_eq]
    exact q
  · cases ra; cases rb
    refine op_eq pins s σ H _ _ v u Q I rx ry ⟨rfl, ?_⟩
    have z : decide (V.str ⟨i.toArray⟩ = V.str ⟨j.toArray⟩) = decide (i = j) := by
      apply decide_eq_decide.mpr
      rw [V.str.injEq]
      exact str_inj
    rw [z]
    exact q
  · cases ra; cases rb
    refine op_eq pins s σ H _ _ v u Q I rx ry ⟨rfl, ?_⟩
    rw [dec_bl]
    exact q
  · obtain ⟨d1, d2, e1, e2, s1, s2, e3⟩ := eqD_some e
    subst e3
    have p1 := toD_ok r deep e1 ra
    have p2 := toD_ok r deep e2 rb
    rw [← hK] at p1 p2
    exact op_eqD hu pins s σ H _ _ v u Q I rx ry ⟨d1, d2, p1, p2, s1, s2, q⟩
theorem mp_ne (hK : X.K = T.K) (hu : X.A.units + 64 < cLine) : OpR X (compareOp .NotEq) (rCm X T evNe) := by
  intro pins s σ H x y v u Q I rx ry hq
  obtain ⟨ι, h, a, b, k, r, ra, rb, e, q⟩ := hq
  unfold evNe at e
  rw [Option.map_eq_some_iff] at e
  obtain ⟨k', e, rfl⟩ := e
  rcases evEq_some e with ⟨i, j, rfl, rfl, rfl⟩ | ⟨i, j, rfl, rfl, rfl⟩ | ⟨i, j, rfl, rfl, rfl⟩ | e
  · cases ra; cases rb
    refine op_ne pins s σ H _ _ v u Q I rx ry ⟨rfl, ?_⟩
    rw [dec_int, Bool.beq_eq_decide_eq]
    exact q
  · cases ra; cases rb
    refine op_ne pins s σ H _ _ v u Q I rx ry ⟨rfl, ?_⟩
    have z : decide (V.str ⟨i.toArray⟩ = V.str ⟨j.toArray⟩) = decide (i = j) := by
      apply decide_eq_decide.mpr
      rw [V.str.injEq]
      exact str_inj
    rw [z]
    exact q
  · cases ra; cases rb
    refine op_ne pins s σ H _ _ v u Q I rx ry ⟨rfl, ?_⟩
    rw [dec_bl]
    exact q
  · obtain ⟨d1, d2, e1, e2, s1, s2, e3⟩ := eqD_some e
    subst e3
    have p1 := toD_ok r deep e1 ra
    have p2 := toD_ok r deep e2 rb
    rw [← hK] at p1 p2
    exact op_neD hu pins s σ H _ _ v u Q I rx ry ⟨d1, d2, p1, p2, s1, s2, q⟩
theorem mp_lt : OpR X (compareOp .Lt) (rCm X T ltV) := by
  intro pins s σ H x y v u Q I rx ry hq
  obtain ⟨ι, h, a, b, k, r, ra, rb, e, q⟩ := hq
  unfold ltV at e
  split at e
  · cases ra; cases rb; cases e
    exact op_lt pins s σ H _ _ v u Q I rx ry ⟨_, _, rfl, rfl, q⟩
  · cases e
theorem mp_le : OpR X (compareOp .LtE) (rCm X T leV) := by
  intro pins s σ H x y v u Q I rx ry hq
  obtain ⟨ι, h, a, b, k, r, ra, rb, e, q⟩ := hq
  unfold leV at e
  split at e
  · cases ra; cases rb; cases e
    exact op_le pins s σ H _ _ v u Q I rx ry ⟨_, _, rfl, rfl, q⟩
  · cases e
theorem mp_gt : OpR X (compareOp .Gt) (rCm X T gtV) := by
  intro pins s σ H x y v u Q I rx ry hq
  obtain ⟨ι, h, a, b, k, r, ra, rb, e, q⟩ := hq
  unfold gtV at e
  split at e
  · cases ra; cases rb; cases e
    exact op_gt pins s σ H _ _ v u Q I rx ry ⟨_, _, rfl, rfl, q⟩
  · cases e
theorem mp_ge : OpR X (compareOp .GtE) (rCm X T geV) := by
  intro pins s σ H x y v u Q I rx ry hq
  obtain ⟨ι, h, a, b, k, r, ra, rb, e, q⟩ := hq
  unfold geV at e
  split at e
  · cases ra; cases rb; cases e
    exact op_ge pins s σ H _ _ v u Q I rx ry ⟨_, _, rfl, rfl, q⟩
  · cases e
theorem RV.non_iff {n : Nat} {x : MV} {v : V} (r : RV T ι n H x v) : decide (v = .non) = isNon x := by
  cases r <;> rfl
theorem isNon_eq {x : MV} (h : isNon x = true) : x = .non := by
  cases x <;> first | rfl | cases h
theorem mp_is : OpR X (compareOp .Is) (rCm X T isV) := by
  intro pins s σ H x y v u Q I rx ry hq
  obtain ⟨ι, h, a, b, k, r, ra, rb, e, q⟩ := hq
  unfold isV at e
  cases c : isNon b with
  | false => rw [c] at e; cases e
  | true =>
    rw [c] at e
    cases e
    cases isNon_eq c
    cases rb
    refine op_isN pins s σ H _ _ v u Q I rx ry ⟨rfl, ?_⟩
    rw [ra.non_iff]
    exact q
theorem mp_isnt : OpR X (compareOp .IsNot) (rCm X T isntV) := by
  intro pins s σ H x y v u Q I rx ry hq
  obtain ⟨ι, h, a, b, k, r, ra, rb, e, q⟩ := hq
  unfold isntV at e
  cases c : isNon b with
  | false => rw [c] at e; cases e
  | true =>
    rw [c] at e
    cases e
    cases isNon_eq c
    cases rb
    refine op_notN pins s σ H _ _ v u Q I rx ry ⟨rfl, ?_⟩
    rw [ra.non_iff]
    exact q
theorem mp_noC {op : CmpOp} : OpR X (compareOp op) (rCm X T noC) := by
  intro pins s σ H x y v u Q I rx ry hq
  obtain ⟨ι, h, a, b, k, r, ra, rb, e, q⟩ := hq
  cases e
theorem mp_cmp (hK : X.K = T.K) (hu : X.A.units + 64 < cLine) (op : CmpOp) : OpR X (compareOp op) (rCm X T (evCmp op)) := by
  cases op with
  | Eq => exact mp_eq hK hu
  | NotEq => exact mp_ne hK hu
  | Lt => exact mp_lt
  | LtE => exact mp_le
  | Gt => exact mp_gt
  | GtE => exact mp_ge
  | Is => exact mp_is
  | IsNot => exact mp_isnt
  | In => exact mp_noC
  | NotIn => exact mp_noC

/-! ### truth -/
theorem evTru_ok {K : PySem.W.Frag} (hK : K = T.K) (r : RH T ι h H) {x : MV} {v : V} {k : Bool} (rv : RV T ι h.sz H x v) (e : evTru x h = some k) : TruV K v H k := by
  subst hK
  cases rv with
  | non => cases e; rfl
  | bl b => cases e; rfl
  | int i =>
    cases e
    show (!decide (i = 0)) = (i != 0)
    rw [bne, Bool.beq_eq_decide_eq]
  | str s =>
    unfold evTru at e
    simp only at e
    cases c : Nat.ble s.length szL with
    | false => rw [c] at e; cases e
    | true =>
    rw [c] at e
    cases e
    refine ⟨(by show s.toArray.size ≤ sizeLine; simpa using ble_line c), ?_⟩
    show (!s.isEmpty) = (((s.toArray.size : Nat) : Int) != 0)
    cases s with
    | nil => rfl
    | cons a r =>
      simp only [List.isEmpty_cons, Bool.not_false, List.size_toArray, List.length_cons]
      symm
      rw [bne_iff_ne]
      omega
  | tup hs rs =>
    cases e
    exact .inr (.inl ⟨_, hs, by rw [rs.isEmpty]⟩)
  | @ref i hi =>
    unfold evTru at e
    simp only at e
    split at e
    · rename_i fz xs eg
      cases e
      have el := (show lstAt h i = some xs by unfold lstAt; rw [eg])
      obtain ⟨vs, hs, rs⟩ := r.lst hi el
      exact .inl ⟨vs, hs, by rw [rs.isEmpty]⟩
    · cases e
  | fn _ => cases e
end
end Mp
/-! MpD: items, slices, built-in calls. -/
namespace Mp
open PySem L2
section
variable {X : L2.Cx} {T : Tb} {τ : St} {ι ι' : Io} {h h' : MH} {H H' : Hp}
/-! ### items, slices -/
def rIxM (T : Tb) : R2 := fun x y H Q => ∃ ι h a b m, RH T ι h H ∧ RV T ι h.sz H a x ∧ RV T ι h.sz H b y ∧ evIx a b h = some m ∧ ∀ v, RV T ι h.sz H m v → Q v H
theorem at_of {n : Nat} {xs : List MV} {vs : List V} (r : RVs T ι n H xs vs) {i : Int} {m : MV} (e : (L2.ixN xs.length i).bind (nth xs) = some m) : ∃ v, atI vs i = some v ∧ RV T ι n H m v := by
  rw [Option.bind_eq_some_iff] at e
  obtain ⟨j, e1, e2⟩ := e
  rw [nth_eq] at e2
  obtain ⟨v, e3, rv⟩ := r.get e2
  refine ⟨v, ?_, rv⟩
  unfold atI
  rw [← r.length, e1]
  exact e3
theorem mp_ix (hK : X.K = T.K) : IxR X (rIxM T) := by
  intro value slice pins s σ H x y v u Q I rx ry hq hs
  obtain ⟨ι, h, a, b, m, r, ra, rb, e, q⟩ := hq
  unfold evIx at e
  split at e
  · cases rb
    cases ra with
    | tup ht rt =>
      obtain ⟨w, e1, rw'⟩ := at_of rt e
      rw [← hK] at ht
      exact ix_tup value slice pins s σ H _ _ v u Q I rx ry ⟨_, _, _, w, rfl, rfl, ht, e1, q w rw'⟩ hs
  · cases rb
    cases ra with
    | ref hi =>
      rw [Option.bind_eq_some_iff] at e
      obtain ⟨xs, el, e⟩ := e
      obtain ⟨vs, hl, rs⟩ := r.lst hi el
      obtain ⟨w, e1, rw'⟩ := at_of rs e
      rw [← hK] at hl
      exact ix_list value slice pins s σ H _ _ v u Q I rx ry ⟨_, _, _, w, rfl, rfl, hl, e1, q w rw'⟩ hs
  · cases e
def rSlM (X : L2.Cx) (T : Tb) : V → Option Int → Option Int → Hp → VK → Prop := fun x l u H Q => ∃ ι h a τ, RH T ι h H ∧ RV T ι h.sz H a x ∧ PQ X T τ ι h H (RV T) (Sm.slV a l u h) Q
theorem cut_eq {n : Nat} {xs : List MV} {vs : List V} (r : RVs T ι n H xs vs) (l u : Option Int) : RVs T ι n H (Sm.cutM xs l u) (cutV vs l u) := by
  unfold Sm.cutM cutV
  rw [r.length]
  exact (r.drop _).take _
theorem cut_whole {vs : List V} {l u : Option Int} (h : HT.sIx vs.length 0 l = 0 ∧ HT.sIx vs.length vs.length u = vs.length) : cutV vs l u = vs := by
  unfold cutV
  rw [h.1, h.2]
  simp
theorem mp_sl (hK : X.K = T.K) : SlR X (rSlM X T) := by
  intro pins s σ H x v vl vu lo hi sl Q I rx hs pl pu hq
  obtain ⟨ι, h, a, τ, r, ra, q⟩ := hq
  unfold Sm.slV at q
  split at q
  · cases ra with
    | tup ht rt =>
      have ht' := ht
      rw [← hK] at ht'
      refine sl_tupA pins s σ H _ v vl vu lo hi sl Q I rx hs pl pu ⟨_, _, rfl, ht', fun w => ?_, fun _ p hp => q.newT r (cut_eq rt lo hi) p hp⟩
      refine q.here r ?_
      have z := cut_eq rt lo hi
      rw [cut_whole w] at z
      exact .tup ht z
  · cases ra with
    | ref hi' =>
      split at q
      · rename_i xs el
        obtain ⟨vs, hl, rs⟩ := r.lst hi' el
        rw [← hK] at hl
        exact sl_list pins s σ H _ v vl vu lo hi sl Q I rx hs pl pu ⟨_, _, rfl, hl, q.newL r (cut_eq rs lo hi)⟩
      · exact q.elim
  · exact q.elim

/-! ### built-in calls -/
def rBi (X : L2.Cx) (T : Tb) (f : BF) : List V → Hp → VK → Prop := fun vs H Q => ∃ ι h xs τ, RH T ι h H ∧ RVs T ι h.sz H xs vs ∧ PQ X T τ ι h H (RV T) (f xs h) Q
theorem RVs.one {n : Nat} {x : MV} {vs : List V} (r : RVs T ι n H [x] vs) : ∃ v, vs = [v] ∧ RV T ι n H x v := by
  cases r with
  | cons a b => cases b; exact ⟨_, rfl, a⟩
theorem RVs.two {n : Nat} {x y : MV} {vs : List V} (r : RVs T ι n H [x, y] vs) : ∃ v w, vs = [v, w] ∧ RV T ι n H x v ∧ RV T ι n H y w := by
  cases r with
  | cons a b =>
    obtain ⟨w, rfl, c⟩ := b.one
    exact ⟨_, w, rfl, a, c⟩
theorem allB_ok : ∀ {n : Nat} {xs : List MV} {vs : List V} {bs : List Bool}, RVs T ι n H xs vs → allB xs = some bs → vs = bs.map V.bl
  | _, [], _, _, .nil, e => by cases e; rfl
  | _, x :: xs, _, _, .cons h r, e => by
    cases x with
    | bl b =>
      unfold allB at e
      rw [Option.map_eq_some_iff] at e
      obtain ⟨bs, e1, rfl⟩ := e
      cases h
      rw [List.map_cons, ← allB_ok r e1]
    | _ => cases e
theorem mb_int1 : CallR X (.type "int") (rBi X T int1V) := by
  intro pins s σ H vs us Q I rv hq
  obtain ⟨ι, h, xs, τ, r, rs, q⟩ := hq
  unfold int1V at q
  split at q
  · obtain ⟨v, rfl, ra⟩ := rs.one
    cases ra
    exact call_int1 pins s σ H _ us Q I rv (.inl ⟨_, rfl, q.here r (.int _)⟩)
  · exact q.elim
theorem mb_abs1 : CallR X (.builtin "abs") (rBi X T abs1V) := by
  intro pins s σ H vs us Q I rv hq
  obtain ⟨ι, h, xs, τ, r, rs, q⟩ := hq
  unfold abs1V at q
  split at q
  · obtain ⟨v, rfl, ra⟩ := rs.one
    cases ra
    exact call_abs pins s σ H _ us Q I rv ⟨_, rfl, q.here r (.int _)⟩
  · exact q.elim
theorem mb_len1 (hK : X.K = T.K) : CallR X (.builtin "len") (rBi X T len1V) := by
  intro pins s σ H vs us Q I rv hq
  obtain ⟨ι, h, xs, τ, r, rs, q⟩ := hq
  unfold len1V at q
  split at q
  · obtain ⟨v, rfl, ra⟩ := rs.one
    cases ra with
    | tup ht rt =>
      have ht' := ht
      rw [← hK] at ht'
      refine call_len_seq pins s σ H _ us Q I rv ⟨_, _, rfl, .inr ht', ?_⟩
      rw [← rt.length]
      exact q.here r (.int _)
  · obtain ⟨v, rfl, ra⟩ := rs.one
    cases ra with
    | ref hi =>
      split at q
      · rename_i ys el
        obtain ⟨ws, hl, r2⟩ := r.lst hi el
        rw [← hK] at hl
        refine call_len_seq pins s σ H _ us Q I rv ⟨_, _, rfl, .inl hl, ?_⟩
        rw [← r2.length]
        exact q.here r (.int _)
      · exact q.elim
  · exact q.elim
theorem mb_max2 (hc : X.calm = true) : CallR X (.builtin "max") (rBi X T max2V) := by
  intro pins s σ H vs us Q I rv hq
  obtain ⟨ι, h, xs, τ, r, rs, q⟩ := hq
  unfold max2V at q
  split at q
  · obtain ⟨v, w, rfl, ra, rb⟩ := rs.two
    cases ra; cases rb
    exact call_max2 hc pins s σ H _ us Q I rv ⟨_, _, rfl, q.here r (.int _)⟩
  · exact q.elim
theorem mb_min2 (hc : X.calm = true) : CallR X (.builtin "min") (rBi X T min2V) := by
  intro pins s σ H vs us Q I rv hq
  obtain ⟨ι, h, xs, τ, r, rs, q⟩ := hq
  unfold min2V at q
  split at q
  · obtain ⟨v, w, rfl, ra, rb⟩ := rs.two
    cases ra; cases rb
    exact call_min2 hc pins s σ H _ us Q I rv ⟨_, _, rfl, q.here r (.int _)⟩
  · exact q.elim
theorem mb_divmod2 : CallR X (.builtin "divmod") (rBi X T divmod2V) := by
  intro pins s σ H vs us Q I rv hq
  obtain ⟨ι, h, xs, τ, r, rs, q⟩ := hq
  unfold divmod2V at q
  split at q
  · obtain ⟨v, w, rfl, ra, rb⟩ := rs.two
    cases ra; cases rb
    rcases PQ.bif q with ⟨c, q⟩ | ⟨_, q⟩
    · exact call_divmod pins s σ H _ us Q I rv ⟨_, _, rfl, cDiv_iff c, q.newT r (.cons (.int _) (.cons (.int _) .nil))⟩
    · exact q.elim
  · exact q.elim
theorem mb_all1 (hc : X.calm = true) (hK : X.K = T.K) : CallR X (.builtin "all") (rBi X T all1V) := by
  intro pins s σ H vs us Q I rv hq
  obtain ⟨ι, h, xs, τ, r, rs, q⟩ := hq
  unfold all1V at q
  split at q
  · obtain ⟨v, rfl, ra⟩ := rs.one
    cases ra with
    | ref hi =>
      split at q
      · rename_i ys el
        split at q
        · rename_i bs eb
          obtain ⟨ws, hl, r2⟩ := r.lst hi el
          have e := allB_ok r2 eb
          subst e
          rw [← hK] at hl
          exact cr_all hc pins s σ H _ us Q I rv ⟨_, _, rfl, hl, q.here r (.bl _)⟩
        · exact q.elim
      · exact q.elim
  · exact q.elim
theorem mb_list1 (hK : X.K = T.K) : CallR X (.type "list") (rBi X T list1V) := by
  intro pins s σ H vs us Q I rv hq
  obtain ⟨ι, h, xs, τ, r, rs, q⟩ := hq
  unfold list1V at q
  split at q
  · obtain ⟨v, rfl, ra⟩ := rs.one
    cases ra with
    | ref hi =>
      split at q
      · rename_i ys el
        obtain ⟨ws, hl, r2⟩ := r.lst hi el
        rw [← hK] at hl
        exact call_list_of pins s σ H _ us Q I rv ⟨_, _, rfl, .inl hl, q.newL r r2⟩
      · exact q.elim
  · obtain ⟨v, rfl, ra⟩ := rs.one
    cases ra with
    | tup ht rt =>
      have ht' := ht
      rw [← hK] at ht'
      exact call_list_of pins s σ H _ us Q I rv ⟨_, _, rfl, .inr ht', q.newL r rt⟩
  · exact q.elim
/-- a built-in's name, and what it is -/
def BI.nm (f : BI) : Str := match f with
  | .int1 => "int" | .abs1 => "abs" | .len1 => "len" | .max2 => "max" | .min2 => "min" | .divmod2 => "divmod" | .all1 => "all" | .list1 => "list"
def BI.val (f : BI) : Value := match f with
  | .int1 => .type "int" | .abs1 => .builtin "abs" | .len1 => .builtin "len" | .max2 => .builtin "max" | .min2 => .builtin "min" | .divmod2 => .builtin "divmod" | .all1 => .builtin "all" | .list1 => .type "list"
theorem BI.boot (f : BI) : bootBuiltins f.nm = some f.val := by
  cases f <;> decide +kernel
theorem BI.nm_ne (f : BI) : f.nm ≠ "__name__" ∧ (f.nm == ("__debug__" : Str)) = false := by
  cases f <;> decide +kernel
theorem mp_bi (hc : X.calm = true) (hK : X.K = T.K) (f : BI) : CallR X f.val (rBi X T (evBI f)) := by
  cases f with
  | int1 => exact mb_int1
  | abs1 => exact mb_abs1
  | len1 => exact mb_len1 hK
  | max2 => exact mb_max2 hc
  | min2 => exact mb_min2 hc
  | divmod2 => exact mb_divmod2
  | all1 => exact mb_all1 hc hK
  | list1 => exact mb_list1 hK

/-! ### isinstance -/
def TyK.nm (k : TyK) : String := match k with
  | .int => "int" | .bool => "bool" | .str => "str" | .tup => "tuple" | .lst => "list"
def TyK.sn (k : TyK) : Str := match k with
  | .int => "int" | .bool => "bool" | .str => "str" | .tup => "tuple" | .lst => "list"
theorem TyK.boot (k : TyK) : bootBuiltins k.sn = some (.type k.nm) := by
  cases k <;> decide +kernel
theorem TyK.sn_ne (k : TyK) : k.sn ≠ "__name__" ∧ (k.sn == ("__debug__" : Str)) = false := by
  cases k <;> decide +kernel
theorem tyx_tup {a : Addr} {vs : List V} (hs : SqT T.K H a vs) : TyX T.K H (.ref a) (.type "tuple") := by
  rcases hs with (e | ⟨o, e⟩) | ⟨o, its, n, e, c, _⟩
  · exact .base (.tup e)
  · exact .fTuple e
  · exact .kTuple e c
theorem tyx_lst {a : Addr} {vs : List V} (hs : SqL T.K H a vs) : TyX T.K H (.ref a) (.type "list") := by
  rcases hs with (e | ⟨o, e⟩) | ⟨o, its, n, e, c, _⟩
  · exact .base (.lst e)
  · exact .base (.frz e)
  · exact .kList e c
theorem kits : (∀ k : TyK, kitB "NoneType" k.nm = some false) ∧ (∀ k : TyK, kitB "bool" k.nm = some (match k with | .int => true | .bool => true | _ => false)) ∧ (∀ k : TyK, kitB "int" k.nm = some (match k with | .int => true | _ => false)) ∧
    (∀ k : TyK, kitB "str" k.nm = some (match k with | .str => true | _ => false)) ∧ (∀ k : TyK, kitB "tuple" k.nm = some (match k with | .tup => true | _ => false)) ∧ (∀ k : TyK, kitB "list" k.nm = some (match k with | .lst => true | _ => false)) := by
  refine ⟨?_, ?_, ?_, ?_, ?_, ?_⟩ <;> intro k <;> cases k <;> decide +kernel
theorem mp_isi (hK : X.K = T.K) (k : TyK) {pins : List (Addr × Obj)} {s : Shared} {σ : St} {a : MV} {x : V} {us : List Value} {b : Bool} {Q : VK} (I : Inv X pins σ H s) (r : RH T ι h H) (ra : RV T ι h.sz H a x) (e : tyIs k a h = some b)
    (rv : Vals [x, .ty k.nm] us) (q : Q (.bl b) H) : wpAny (model X.prog X.w) X.A (call (.builtin "isinstance") us) (EP X pins σ Q) X.xe s := by
  obtain ⟨z1, z2, z3, z4, z5, z6⟩ := kits
  have go : ∀ {t : String} {c : Bool}, TyX T.K H x (.type t) → kitB t k.nm = some c → c = b → wpAny (model X.prog X.w) X.A (call (.builtin "isinstance") us) (EP X pins σ Q) X.xe s := fun {t c} ty kb ec => by
    subst ec
    rw [← hK] at ty
    exact call_isi pins s σ H _ us Q I rv ⟨x, _, _, _, c, rfl, .ty _, ty, kit_ty kb, q⟩
  cases ra with
  | non => exact go (.base .non) (z1 k) (by cases k <;> cases e <;> rfl)
  | bl y => exact go (.base (.bl y)) (z2 k) (by cases k <;> cases e <;> rfl)
  | int i => exact go (.base (.int i)) (z3 k) (by cases k <;> cases e <;> rfl)
  | str y => exact go (.base (.str _)) (z4 k) (by cases k <;> cases e <;> rfl)
  | tup hs rs => exact go (tyx_tup hs) (z5 k) (by cases k <;> cases e <;> rfl)
  | @ref i hi =>
    unfold tyIs at e
    simp only at e
    split at e
    · rename_i fz xs eg
      obtain ⟨vs, hs, rs⟩ := r.lst hi (show lstAt h i = some xs by unfold lstAt; rw [eg])
      exact go (tyx_lst hs) (z6 k) (by cases k <;> cases e <;> rfl)
    · cases e
  | fn _ => cases e
end
end Mp
/-! MpE: that a text is the one that the evaluator has: the look; expressions. -/
namespace Mp
open PySem L2

/-! ### the look -/
/-- names by number -/
structure Ck where
  fnN : Nat → Option Str
  fnP : Nat → List Str
  conN : Nat → Option Str
  noMg : Str → Bool
def visB (sc : Scope) (x : Str) : Bool := match sc.names.lookup x with
  | some .local | some .cell | some .free => true
  | _ => false
def locB (sc : Scope) (top : Bool) (x : Str) : Bool := match sc.names.lookup x with
  | some .local => true
  | some .cell => top
  | _ => false
def glB (sc : Scope) (x : Str) : Bool := sc.names.lookup x == some .globalImplicit
def okNm (x : Str) : Bool := !(x == ("__debug__" : Str)) && !(x == ("__classdict__" : Str))
def notStar : Expr → Bool
  | .Starred _ _ => false
  | _ => true
def notSlice : Expr → Bool
  | .Slice _ _ _ _ => false
  | _ => true
def notSet : Expr → Bool
  | .Set _ _ _ => false
  | _ => true
def notComp : Expr → Bool
  | .ListComp _ _ _ _ => false
  | .SetComp _ _ _ _ => false
  | .DictComp _ _ _ _ _ => false
  | _ => true
structure Km where
  e : Scope → Expr → Bool
  l : Scope → List Expr → Bool
  k : Scope → List Str → List Keyword → Bool
  i : Scope → Expr → Bool
  g : Scope → Bool → Expr → Bool
  gs : Scope → Bool → List Expr → Bool
  p : Scope → Option Expr → Bool
  c : Scope → List Expr → Bool
  sl : List Nat
def kmL : Scope → List Expr → Bool := fun _ _ => false
def kmK : Scope → List Str → List Keyword → Bool := fun _ _ _ => false
def kmI : Scope → Expr → Bool := fun _ _ => false
def kmG : Scope → Bool → Expr → Bool := fun _ _ _ => false
def kmGs : Scope → Bool → List Expr → Bool := fun _ _ _ => false
def kmP : Scope → Option Expr → Bool := fun _ _ => false
def kmPe (e : Scope → Expr → Bool) (sc : Scope) (o : Option Expr) : Bool := match o with
  | some x => e sc x
  | none => false
def kmCe (e : Scope → Expr → Bool) (sc : Scope) (l : List Expr) : Bool := match l with
  | [x] => e sc x
  | _ => false
def Km.ofE (e : Scope → Expr → Bool) : Km := ⟨e, kmL, kmK, kmI, kmG, kmGs, kmPe e, kmCe e, []⟩
def ownS (N : List Str) (own : List Nat) : List (Str × Nat) := own.filterMap fun i => (N[i]?).map fun x => (x, i)
namespace Km
def cstB (v : MV) (e : Expr) : Bool := match e with
  | .Constant c _ _ => match c, v with
    | .none, .non => true
    | .bool b, .bl d => b == d
    | .int i, .int j => i == j
    | .str s, .str t => s.cps.toList == t
    | _, _ => false
  | _ => false
def cst (v : MV) : Km := .ofE fun _ e => cstB v e
def var (N : List Str) (i : Nat) : Km := .ofE fun sc e => match e with
  | .Name x _ => N[i]? == some x && visB sc x && okNm x
  | _ => false
def gl (C : Ck) (g : Nat) : Km := .ofE fun sc e => match e with
  | .Name x _ => C.conN g == some x && glB sc x && okNm x
  | _ => false
def bin (op : Operator) (a b : Km) : Km := .ofE fun sc e => match e with
  | .BinOp x o y _ => o == op && a.e sc x && b.e sc y
  | _ => false
def neg (a : Km) : Km := .ofE fun sc e => match e with
  | .UnaryOp .USub x _ => a.e sc x
  | _ => false
def nt (a : Km) : Km := .ofE fun sc e => match e with
  | .UnaryOp .Not x _ => a.e sc x
  | _ => false
/-- a row of and, of or: two or more -/
def row (op : BoolOp) (a b : Km) (sc : Scope) (o : BoolOp) (l : List Expr) (p : Pos) : Bool := match l with
  | x :: y :: r => o == op && a.e sc x && (match r with
    | [] => b.e sc y
    | _ :: _ => b.e sc (.BoolOp o (y :: r) p))
  | _ => false
def boo (op : BoolOp) (a b : Km) : Km := .ofE fun sc e => match e with
  | .BoolOp o l p => row op a b sc o l p
  | _ => false
def cmp (op : CmpOp) (a b : Km) : Km := .ofE fun sc e => match e with
  | .Compare x [o] [y] _ => o == op && a.e sc x && b.e sc y && notSet y
  | _ => false
def cmp2 (op op' : CmpOp) (a b d : Km) : Km := .ofE fun sc e => match e with
  | .Compare x [o, o'] [y, z] _ => o == op && o' == op' && a.e sc x && b.e sc y && d.e sc z && notSet y && notSet z
  | _ => false
def ife (t a b : Km) : Km := .ofE fun sc e => match e with
  | .IfExp x y z _ => t.e sc x && a.e sc y && b.e sc z
  | _ => false
def tup (es : Km) : Km := .ofE fun sc e => match e with
  | .Tuple l _ _ => es.l sc l
  | _ => false
def lst (es : Km) : Km := .ofE fun sc e => match e with
  | .List l _ => es.l sc l
  | _ => false
def ix (a i : Km) : Km := .ofE fun sc e => match e with
  | .Subscript x y _ => a.e sc x && i.e sc y && notSlice y
  | _ => false
def sl_ (a lo hi : Km) : Km := .ofE fun sc e => match e with
  | .Subscript x (.Slice l u none _) _ => a.e sc x && lo.p sc l && hi.p sc u
  | _ => false
def call (C : Ck) (f : Nat) (es : Km) : Km := .ofE fun sc e => match e with
  | .Call (.Name x _) l [] _ => C.fnN f == some x && glB sc x && okNm x && es.l sc l
  | _ => false
def kwNs (ks : List Keyword) : List Str := ks.filterMap (·.arg)
/-- where the parameters' values stand among those that are written -/
def permOk (ps : List Str) (n : Nat) (ks : List Str) (perm : List Nat) : Bool :=
  decide (n ≤ ps.length) && decide (n + ks.length = ps.length) && ks.all (fun k => !(ps.take n).contains k && ps.contains k) && decide (ks.Nodup) && decide (perm.map (fun j => (ps.take n ++ ks)[j]?) = ps.map some)
def callk (C : Ck) (f : Nat) (es kws : Km) (perm : List Nat) : Km := .ofE fun sc e => match e with
  | .Call (.Name x _) l ks _ => C.fnN f == some x && glB sc x && okNm x && es.l sc l && kws.k sc (kwNs ks) ks && permOk (C.fnP f) l.length (kwNs ks) perm
  | _ => false
def bi (C : Ck) (f : BI) (es : Km) : Km := .ofE fun sc e => match e with
  | .Call (.Name x _) (y :: l) [] _ => x == f.nm && glB sc x && C.noMg x && es.l sc (y :: l)
  | _ => false
def isi (C : Ck) (k : TyK) (a : Km) : Km := .ofE fun sc e => match e with
  | .Call (.Name f _) [x, .Name t _] [] _ => f == ("isinstance" : Str) && t == k.sn && glB sc f && glB sc t && C.noMg f && C.noMg t && a.e sc x && notStar x
  | _ => false
def lcB (N : List Str) (tg it cond elt : Km) (own : List Nat) (sc : Scope) (e : Expr) : Bool := match e with
  | .ListComp y [⟨t, i, ifs, 0⟩] scope _ => it.i sc i && notSet i && blkC N sc scope (ownS N own) && decide ((ownS N own).map (·.2) = own) && tg.g (relS scope sc) false t && tg.sl.all (own.contains ·) && cond.c (relS scope sc) ifs && elt.e (relS scope sc) y
  | _ => false
def lc (N : List Str) (tg it cond elt : Km) (own : List Nat) : Km := .ofE (lcB N tg it cond elt own)
def lrng1 (C : Ck) (b : Km) : Km := .ofE fun sc e => match e with
  | .Call (.Name f _) [.Call (.Name r _) [y] [] _] [] _ => f == ("list" : Str) && r == ("range" : Str) && glB sc f && glB sc r && C.noMg f && C.noMg r && b.e sc y && notStar y
  | _ => false
def lrng2 (C : Ck) (a b : Km) : Km := .ofE fun sc e => match e with
  | .Call (.Name f _) [.Call (.Name r _) [x, y] [] _] [] _ => f == ("list" : Str) && r == ("range" : Str) && glB sc f && glB sc r && C.noMg f && C.noMg r && a.e sc x && b.e sc y && notStar x && notStar y
  | _ => false
def noE : Scope → Expr → Bool := fun _ _ => false
def nil : Km := ⟨noE, fun _ l => l.isEmpty, fun _ _ l => l.isEmpty, kmI, kmG, fun _ _ l => l.isEmpty, fun _ o => o.isNone, fun _ l => l.isEmpty, []⟩
def consL (a r : Km) (sc : Scope) (l : List Expr) : Bool := match l with
  | x :: t => a.e sc x && notStar x && r.l sc t
  | [] => false
def consK (a r : Km) (sc : Scope) (ns : List Str) (l : List Keyword) : Bool := match l with
  | ⟨some n, x, _⟩ :: t => a.e sc x && r.k sc ns t
  | _ => false
def consG (a r : Km) (sc : Scope) (top : Bool) (l : List Expr) : Bool := match l with
  | x :: t => a.g sc top x && notStar x && r.gs sc top t
  | [] => false
def cons (a r : Km) : Km := ⟨noE, consL a r, consK a r, kmI, kmG, consG a r, kmP, kmL, a.sl ++ r.sl⟩
def iSeq (a : Km) : Km := ⟨noE, kmL, kmK, a.e, kmG, kmGs, kmP, kmL, []⟩
def iRng1B (C : Ck) (b : Km) (sc : Scope) (e : Expr) : Bool := match e with
  | .Call (.Name r _) [y] [] _ => r == ("range" : Str) && glB sc r && C.noMg r && b.e sc y && notStar y
  | _ => false
def iRng2B (C : Ck) (a b : Km) (sc : Scope) (e : Expr) : Bool := match e with
  | .Call (.Name r _) [x, y] [] _ => r == ("range" : Str) && glB sc r && C.noMg r && a.e sc x && b.e sc y && notStar x && notStar y
  | _ => false
def iRng1 (C : Ck) (b : Km) : Km := ⟨noE, kmL, kmK, iRng1B C b, kmG, kmGs, kmP, kmL, []⟩
def iRng2 (C : Ck) (a b : Km) : Km := ⟨noE, kmL, kmK, iRng2B C a b, kmG, kmGs, kmP, kmL, []⟩
def gNmB (N : List Str) (i : Nat) (sc : Scope) (top : Bool) (e : Expr) : Bool := match e with
  | .Name x _ => N[i]? == some x && locB sc top x
  | _ => false
def gNm (N : List Str) (i : Nat) : Km := ⟨noE, kmL, kmK, kmI, gNmB N i, kmGs, kmP, kmL, [i]⟩
def gTupB (ts : Km) (sc : Scope) (top : Bool) (e : Expr) : Bool := match e with
  | .Tuple l _ _ => ts.gs sc top l
  | _ => false
def gTup (ts : Km) : Km := ⟨noE, kmL, kmK, kmI, gTupB ts, kmGs, kmP, kmL, ts.sl⟩
def gIxB (a i : Km) (sc : Scope) (_ : Bool) (e : Expr) : Bool := match e with
  | .Subscript x y _ => a.e sc x && i.e sc y && notSlice y
  | _ => false
def gIx (a i : Km) : Km := ⟨noE, kmL, kmK, kmI, gIxB a i, kmGs, kmP, kmL, []⟩
end Km
noncomputable def ck (C : Ck) (N : List Str) (m : ME) : Km :=
  @ME.rec (fun _ => Km) Km.cst (Km.var N) (Km.gl C) (fun op _ _ a b => Km.bin op a b) (fun _ a => Km.neg a) (fun _ a => Km.nt a) (fun _ _ a b => Km.boo .And a b) (fun _ _ a b => Km.boo .Or a b)
    (fun op _ _ a b => Km.cmp op a b) (fun op op' _ _ _ a b d => Km.cmp2 op op' a b d) (fun _ _ _ t a b => Km.ife t a b) (fun _ es => Km.tup es) (fun _ es => Km.lst es) (fun _ _ a i => Km.ix a i)
    (fun _ _ _ a lo hi => Km.sl_ a lo hi) (fun f _ es => Km.call C f es) (fun f _ _ perm es kws => Km.callk C f es kws perm) (fun f _ es => Km.bi C f es) (fun k _ a => Km.isi C k a)
    (fun _ _ _ _ own tg it cond elt => Km.lc N tg it cond elt own) (fun _ b => Km.lrng1 C b) (fun _ _ a b => Km.lrng2 C a b) Km.nil (fun _ _ a r => Km.cons a r) (fun _ a => Km.iSeq a) (fun _ b => Km.iRng1 C b) (fun _ _ a b => Km.iRng2 C a b) (Km.gNm N) (fun _ ts => Km.gTup ts) (fun _ _ a i => Km.gIx a i) m

/-! ### what stands around a def's body -/
/-- a def's promise: what the evaluator's call gives -/
def spF (T : Tb) (P : Program) (w : World) (call : Nat → List MV → MH → Out MV) (f : Nat) (n : Nat) : Sp := fun vs H Q E => vs.length = n ∧ ∃ ι h xs, RH T ι h H ∧ RVs T ι h.sz H xs vs ∧ match call f xs h with
  | .ok v h' => ∀ ι' H' u, Fut T ι h H ι' h' H' → RV T ι' h'.sz H' v u → Q u H'
  | .exc x h' => ∀ ι' H' cls d, Fut T ι h H ι' h' H' → RX T ι' h'.sz H' x cls d → E cls d H'
  | .bad => False
/-- how its arguments are bound -/
structure BindP (fd : FuncData) (ps : List Str) : Prop where
  pos : ∀ us : List Value, us.length = ps.length → bindArgs fd ⟨us, []⟩ = pure (ps.zip us)
  kw : ∀ (us ws : List Value) (ks : List Str) (perm : List Nat), ws.length = ks.length → Km.permOk ps us.length ks perm = true → bindArgs fd ⟨us, ks.zip ws⟩ = pure (ps.zip (perm.filterMap fun j => (us ++ ws)[j]?))
structure Wd (C : Ck) (T : Tb) (c : Ctx) (P : Program) (w : World) (mg : Str → Option Value) (base : Heap) (A : Around) : Prop where
  none_ : ∀ x, C.noMg x = true → mg x = none
  con : ∀ g x, C.conN g = some x → ∃ m u v, c.con g = some m ∧ mg x = some u ∧ RelV v u ∧ ∀ ι n H, RV T ι n H m v
  fn : ∀ f x, C.fnN f = some x → ∃ a fd k, T.fa f = some a ∧ mg x = some (.ref a) ∧ PySem.W.keepIn T.K (.ref a) = true ∧ Room k A ∧ BindP fd (C.fnP f) ∧ (∀ xs h, xs.length ≠ (C.fnP f).length → c.call f xs h = .bad) ∧
    FnOk P w T.K mg base (L2.CX P w) k a fd (C.fnP f) (spF T P w c.call f (C.fnP f).length)
structure OkX (C : Ck) (T : Tb) (N : List Str) (c : Ctx) (X : L2.Cx) (sc : Scope) (top : Bool) : Prop where
  nd : N.Nodup
  N : X.N = N
  sc : X.env.scope = sc
  calm : X.calm = true
  K : X.K = T.K
  un : X.A.units + 64 < cLine
  top : top = true → ∀ x, X.fn x = true
  wd : Wd C T c X.prog X.w X.mg X.base X.A
end Mp
/-! MpF: each expression that the look lets by means what the evaluator says. -/
namespace Mp
open PySem L2
section
variable {X : L2.Cx} {e : Expr}
theorem PE.imp {t t' : TE} (h : PE X e t) (i : ∀ τ H Q, t' τ H Q → t τ H Q) : PE X e t' := ⟨fun pins s τ H Q I q => h.run pins s τ H Q I (i _ _ _ q)⟩
theorem PT.imp {t t' : TT} (h : PT X e t) (i : ∀ τ H Q, t' τ H Q → t τ H Q) : PT X e t' := ⟨fun pins s τ H Q I q => h.run pins s τ H Q I (i _ _ _ q)⟩
theorem PW.imp {t t' : TT} (h : PW X e t) (i : ∀ τ H Q, t' τ H Q → t τ H Q) : PW X e t' := ⟨fun wh pins s τ H Q I q => h.run wh pins s τ H Q I (i _ _ _ q)⟩
theorem star_cons {x : Expr} {es : List Expr} {env : Env} (h : notStar x = true) : starEach (x :: es) env = (false, eval x env) :: starEach es env := by
  cases x <;> first | rfl | cases h
theorem plain_ix {b : Expr} (h : notSlice b = true) : PlainIx b := fun o i => by
  cases b <;> first | rfl | cases h
theorem okNm_iff {x : Str} (h : okNm x = true) : (x == ("__debug__" : Str)) = false ∧ (x == ("__classdict__" : Str)) = false := by
  unfold okNm at h
  rw [Bool.and_eq_true, Bool.not_eq_true', Bool.not_eq_true'] at h
  exact h
theorem visB_iff {sc : Scope} {x : Str} (h : visB sc x = true) : Vis sc x := by
  unfold visB at h
  unfold Vis
  split at h
  · exact .inl (by assumption)
  · exact .inr (.inl (by assumption))
  · exact .inr (.inr (by assumption))
  · cases h
theorem glB_iff {sc : Scope} {x : Str} (h : glB sc x = true) : sc.names.lookup x = some .globalImplicit := by
  unfold glB at h
  exact eq_of_beq h
theorem mark_no {b : Expr} {op : CmpOp} (h : notSet b = true) : behindInMarks op b = false := by
  cases b <;> first | rfl | cases h
theorem marks_no {b c : Expr} {op op' : CmpOp} (h : notSet c = true) : lastMarks [op, op'] [b, c] = false := by
  cases c <;> first | (with_unfolding_all rfl) | cases h
end

section
variable {X : L2.Cx} {T : Tb} {τ : St} {ι ι' : Io} {h h' : MH} {H H' : Hp} {α β γ δ : Type} {RA : Rl α β} {RG : Rl γ δ}
/-- a part, then the rest -/
theorem tR.seq {σ : En} {f : En → MH → Out α} {k : α → MH → Out γ} {Q : δ → Hp → Prop} (re : RE T ι h.sz H σ τ) (rh : RH T ι h H) (q : PQ X T τ ι h H RG ((f σ h).bind k) Q) {R : β → Hp → Prop}
    (go : ∀ ι1 a h1 b H1, Fut T ι h H ι1 h1 H1 → RE T ι1 h1.sz H1 σ τ → RA ι1 h1.sz H1 a b → PQ X T τ ι1 h1 H1 RG (k a h1) Q → R b H1) : tR X T RA f τ H R :=
  ⟨ι, σ, h, re, rh, PQ.imp (PQ.bind (RA := RA) q) fun b H1 ⟨ι1, a, h1, F, ra, q1⟩ => go ι1 a h1 b H1 F (re.fut F) ra q1⟩
/-- .. without the slots -/
theorem rOp.of {f : MV → MV → MH → Out MV} {x y : MV} {v u : V} {Q : VK} (rh : RH T ι h H) (ra : RV T ι h.sz H x v) (rb : RV T ι h.sz H y u) (q : PQ X T τ ι h H (RV T) (f x y h) Q) : rOp X T f v u H Q := ⟨ι, h, x, y, τ, rh, ra, rb, q⟩
end

/-- what is shown of a part of the text -/
structure Snd (C : Ck) (T : Tb) (N : List Str) (c : Ctx) (m : ME) : Prop where
  e : ∀ X sc top, OkX C T N c X sc top → ∀ x, (ck C N m).e sc x = true → PE X x (tE X T (ev c m).e)
  t : ∀ X sc top, OkX C T N c X sc top → ∀ x, (ck C N m).e sc x = true → PT X x (tT X T (ev c m).t)
  w : ∀ X sc top, OkX C T N c X sc top → ∀ op l p, (ck C N m).e sc (.BoolOp op l p) = true → PW X (.BoolOp op l p) (tT X T (ev c m).t)
  l : ∀ X sc top, OkX C T N c X sc top → ∀ es, (ck C N m).l sc es = true → PA X es (tL X T (ev c m).l)
  k : ∀ X sc top, OkX C T N c X sc top → ∀ ns ks, (ck C N m).k sc ns ks = true → PK X ks (tL X T (ev c m).l)
  i : ∀ X sc top, OkX C T N c X sc top → ∀ x, (ck C N m).i sc x = true → ∀ tg, PI X tg x (tI X T (ev c m).i)
  g : ∀ X sc top, OkX C T N c X sc top → ∀ x, (ck C N m).g sc top x = true → PG X x (tG X T (ck C N m).sl (ev c m).g)
  gs : ∀ X sc top, OkX C T N c X sc top → ∀ es, (ck C N m).gs sc top es = true → PGs X es (tGs X T (ck C N m).sl (ev c m).gs)
  p : ∀ X sc top, OkX C T N c X sc top → ∀ o, (ck C N m).p sc o = true → PO X o (tP X T (ev c m).p)
  c : ∀ X sc top, OkX C T N c X sc top → ∀ l, (ck C N m).c sc l = true → PTs X l (tT X T (ev c m).t)

section
variable {C : Ck} {T : Tb} {N : List Str} {c : Ctx} {m : ME}
/-- of a plain expression: its value is enough; its test is the value's truth -/
theorem Snd.ofE {f : En → MH → Out MV} {ke : Scope → Expr → Bool} (hs : ev c m = Sm.ofE f) (hk : ck C N m = Km.ofE ke)
    (pl : ∀ sc x, ke sc x = true → ∀ env whole, isTrue x env whole = (do let v ← whole; standAt x.pos; holding [v] (truthy v)))
    (nb : ∀ sc op l p, ke sc (.BoolOp op l p) = false)
    (he : ∀ X sc top, OkX C T N c X sc top → ∀ x, ke sc x = true → PE X x (tE X T f)) : Snd C T N c m := by
  have pt : ∀ X sc top, OkX C T N c X sc top → ∀ x, ke sc x = true → PT X x (tT X T (truth f)) := fun X sc top ok x hx => by
    refine PT.imp (pt_truth (he X sc top ok x hx) (pl sc x hx X.env)) fun τ H Q ⟨ι, σ, h, re, rh, q⟩ => ?_
    refine tR.seq (RA := RV T) re rh q fun ι1 a h1 b H1 F re1 ra q1 => ?_
    obtain ⟨k, e1, q1⟩ := PQ.giv q1
    exact ⟨k, evTru_ok ok.K F.rh ra e1, q1.here F.rh rfl⟩
  refine ⟨?_, ?_, ?_, ?_, ?_, ?_, ?_, ?_, ?_, ?_⟩
  · intro X sc top ok x hx; rw [hk] at hx; rw [hs]; exact he X sc top ok x hx
  · intro X sc top ok x hx; rw [hk] at hx; rw [hs]; exact pt X sc top ok x hx
  · intro X sc top ok op l p hx; rw [hk] at hx; exact absurd hx (by show ¬ (ke sc _ = true); rw [nb]; exact Bool.false_ne_true)
  · intro X sc top ok es hx; rw [hk] at hx; exact nomatch hx
  · intro X sc top ok ns ks hx; rw [hk] at hx; exact nomatch hx
  · intro X sc top ok x hx; rw [hk] at hx; exact nomatch hx
  · intro X sc top ok x hx; rw [hk] at hx; exact nomatch hx
  · intro X sc top ok es hx; rw [hk] at hx; exact nomatch hx
  · intro X sc top ok o hx
    rw [hk] at hx
    rw [hs]
    cases o with
    | none => exact nomatch hx
    | some x =>
      have p := po_some (he X sc top ok x hx)
      refine ⟨fun pins s τ H Q I ⟨ι, σ, h, re, rh, q⟩ => p.run pins s τ H Q I ?_⟩
      refine tR.seq (RA := RV T) re rh q fun ι1 a h1 b H1 F re1 ra q1 => ?_
      split at q1
      · cases ra
        exact ⟨_, rfl, q1.here F.rh rfl⟩
      · exact q1.elim
  · intro X sc top ok l hx
    rw [hk] at hx
    rw [hs]
    unfold Km.ofE kmCe at hx
    simp only at hx
    split at hx
    · exact pts_one (pt X sc top ok _ hx)
    · cases hx
/-- no expression -/
theorem Snd.no (hk1 : ∀ sc x, (ck C N m).e sc x = false) (hk2 : ∀ sc x, (ck C N m).l sc x = false) (hk3 : ∀ sc n x, (ck C N m).k sc n x = false) (hk4 : ∀ sc x, (ck C N m).p sc x = false) (hk5 : ∀ sc x, (ck C N m).c sc x = false)
    (hk6 : ∀ sc t x, (ck C N m).gs sc t x = false)
    (hi : ∀ X sc top, OkX C T N c X sc top → ∀ x, (ck C N m).i sc x = true → ∀ tg, PI X tg x (tI X T (ev c m).i))
    (hg : ∀ X sc top, OkX C T N c X sc top → ∀ x, (ck C N m).g sc top x = true → PG X x (tG X T (ck C N m).sl (ev c m).g)) : Snd C T N c m := by
  refine ⟨?_, ?_, ?_, ?_, ?_, hi, hg, ?_, ?_, ?_⟩
  · intro X sc top ok x hx; rw [hk1] at hx; cases hx
  · intro X sc top ok x hx; rw [hk1] at hx; cases hx
  · intro X sc top ok op l p hx; rw [hk1] at hx; cases hx
  · intro X sc top ok es hx; rw [hk2] at hx; cases hx
  · intro X sc top ok ns ks hx; rw [hk3] at hx; cases hx
  · intro X sc top ok es hx; rw [hk6] at hx; cases hx
  · intro X sc top ok o hx; rw [hk4] at hx; cases hx
  · intro X sc top ok l hx; rw [hk5] at hx; cases hx

/-! ### constants, names -/
theorem snd_cst (v : MV) : Snd C T N c (.cst v) := by
  refine Snd.ofE (f := fun _ h => .ok v h) (ke := fun _ e => Km.cstB v e) rfl rfl (fun sc x hx env whole => ?_) (fun _ _ _ _ => rfl) fun X sc top ok x hx => ?_
  · cases x <;> first | rfl | exact nomatch hx
  · cases x with
    | Constant k j p =>
      unfold Km.cstB at hx
      simp only at hx
      split at hx
      · exact PE.imp pe_non fun τ H Q ⟨ι, σ, h, re, rh, q⟩ => q.here rh .non
      · have e := eq_of_beq hx
        subst e
        exact PE.imp pe_bl fun τ H Q ⟨ι, σ, h, re, rh, q⟩ => q.here rh (.bl _)
      · have e := eq_of_beq hx
        subst e
        exact PE.imp pe_int fun τ H Q ⟨ι, σ, h, re, rh, q⟩ => q.here rh (.int _)
      · rename_i s t
        have e := eq_of_beq hx
        have z : (⟨t.toArray⟩ : Str) = s := by rw [← e]
        rw [← z]
        exact PE.imp pe_str fun τ H Q ⟨ι, σ, h, re, rh, q⟩ => q.here rh (.str _)
      · cases hx
    | _ => exact nomatch hx
theorem snd_var (i : Nat) : Snd C T N c (.var i) := by
  refine Snd.ofE (f := fun σ h => giv (nth σ i).join h) rfl rfl (fun sc x hx env whole => ?_) (fun _ _ _ _ => rfl) fun X sc top ok x hx => ?_
  · cases x <;> first | rfl | exact nomatch hx
  · cases x with
    | Name x p =>
      simp only [Bool.and_eq_true] at hx
      obtain ⟨⟨h1, h2⟩, h3⟩ := hx
      have e1 := eq_of_beq h1
      have v := visB_iff h2
      obtain ⟨o1, o2⟩ := okNm_iff h3
      refine PE.imp (pe_var (i := i) (by rw [ok.N]; exact e1) (by rw [ok.sc]; exact v) o1 o2) fun τ H Q ⟨ι, σ, h, re, rh, q⟩ => ?_
      obtain ⟨a, e2, q⟩ := PQ.giv q
      rw [nth_eq, Option.join_eq_some_iff] at e2
      obtain ⟨u, e3, ra⟩ := re.at_ i a e2
      exact ⟨u, e3, q.here rh ra⟩
    | _ => exact nomatch hx
theorem snd_gl (g : Nat) : Snd C T N c (.gl g) := by
  refine Snd.ofE (f := fun _ h => giv (c.con g) h) rfl rfl (fun sc x hx env whole => ?_) (fun _ _ _ _ => rfl) fun X sc top ok x hx => ?_
  · cases x <;> first | rfl | exact nomatch hx
  · cases x with
    | Name x p =>
      simp only [Bool.and_eq_true] at hx
      obtain ⟨⟨h1, h2⟩, h3⟩ := hx
      have e1 := eq_of_beq h1
      obtain ⟨m, u, v, e2, e3, r, rv⟩ := ok.wd.con g x e1
      refine PE.imp (pe_glob (v := v) (show X.env.scope.names.lookup x = _ by rw [ok.sc]; exact glB_iff h2) e3 r (okNm_iff h3).1) fun τ H Q ⟨ι, σ, h, re, rh, q⟩ => ?_
      rw [e2] at q
      exact q.here rh (rv _ _ _)
    | _ => exact nomatch hx

/-! ### operators -/
theorem snd_bin (op : Operator) {a b : ME} (sa : Snd C T N c a) (sb : Snd C T N c b) : Snd C T N c (.bin op a b) := by
  refine Snd.ofE (f := fun σ h => ((ev c a).e σ h).bind fun x h1 => ((ev c b).e σ h1).bind fun y h2 => evBin op x y h2) rfl rfl (fun sc x hx env whole => ?_) (fun _ _ _ _ => rfl) fun X sc top ok x hx => ?_
  · cases x <;> first | rfl | exact nomatch hx
  · cases x with
    | BinOp x o y p =>
      simp only [Bool.and_eq_true] at hx
      obtain ⟨⟨h1, h2⟩, h3⟩ := hx
      have e1 := eq_of_beq h1
      subst e1
      refine PE.imp (pe_op (mp_bin (T := T) ok.K o) (sa.e X sc top ok x h2) (sb.e X sc top ok y h3)) fun τ H Q ⟨ι, σ, h, re, rh, q⟩ => ?_
      refine tR.seq (RA := RV T) re rh q fun ι1 a1 h1 b1 H1 F re1 ra q1 => ?_
      refine tR.seq (RA := RV T) re1 F.rh q1 fun ι2 a2 h2 b2 H2 F2 re2 rb q2 => ?_
      exact rOp.of F2.rh (ra.fut F2) rb q2
    | _ => exact nomatch hx
theorem snd_neg {a : ME} (sa : Snd C T N c a) : Snd C T N c (.neg a) := by
  refine Snd.ofE (f := fun σ h => ((ev c a).e σ h).bind Sm.negV) rfl rfl (fun sc x hx env whole => ?_) (fun _ _ _ _ => rfl) fun X sc top ok x hx => ?_
  · cases x with
    | UnaryOp o y p => cases o <;> first | rfl | exact nomatch hx
    | _ => exact nomatch hx
  · cases x with
    | UnaryOp o y p =>
      cases o with
      | USub =>
        refine PE.imp (pe_un un_neg (sa.e X sc top ok y hx)) fun τ H Q ⟨ι, σ, h, re, rh, q⟩ => ?_
        refine tR.seq (RA := RV T) re rh q fun ι1 a1 h1 b1 H1 F re1 ra q1 => ?_
        unfold Sm.negV at q1
        split at q1
        · cases ra
          exact ⟨_, rfl, q1.here F.rh (.int _)⟩
        · exact q1.elim
      | _ => exact nomatch hx
    | _ => exact nomatch hx
/-- an expression that has a test of its own -/
theorem Snd.ofT {fe : En → MH → Out MV} {ft : En → MH → Out Bool} {ke : Scope → Expr → Bool} (hs : ev c m = Sm.ofT fe ft) (hk : ck C N m = Km.ofE ke)
    (he : ∀ X sc top, OkX C T N c X sc top → ∀ x, ke sc x = true → PE X x (tE X T fe)) (ht : ∀ X sc top, OkX C T N c X sc top → ∀ x, ke sc x = true → PT X x (tT X T ft))
    (hw : ∀ X sc top, OkX C T N c X sc top → ∀ op l p, ke sc (.BoolOp op l p) = true → PW X (.BoolOp op l p) (tT X T ft)) : Snd C T N c m := by
  refine ⟨?_, ?_, ?_, ?_, ?_, ?_, ?_, ?_, ?_, ?_⟩
  · intro X sc top ok x hx; rw [hk] at hx; rw [hs]; exact he X sc top ok x hx
  · intro X sc top ok x hx; rw [hk] at hx; rw [hs]; exact ht X sc top ok x hx
  · intro X sc top ok op l p hx; rw [hk] at hx; rw [hs]; exact hw X sc top ok op l p hx
  · intro X sc top ok es hx; rw [hk] at hx; exact nomatch hx
  · intro X sc top ok ns ks hx; rw [hk] at hx; exact nomatch hx
  · intro X sc top ok x hx; rw [hk] at hx; exact nomatch hx
  · intro X sc top ok x hx; rw [hk] at hx; exact nomatch hx
  · intro X sc top ok es hx; rw [hk] at hx; exact nomatch hx
  · intro X sc top ok o hx
    rw [hk] at hx
    rw [hs]
    cases o with
    | none => exact nomatch hx
    | some x =>
      have p := po_some (he X sc top ok x hx)
      refine ⟨fun pins s τ H Q I ⟨ι, σ, h, re, rh, q⟩ => p.run pins s τ H Q I ?_⟩
      refine tR.seq (RA := RV T) re rh q fun ι1 a h1 b H1 F re1 ra q1 => ?_
      split at q1
      · cases ra
        exact ⟨_, rfl, q1.here F.rh rfl⟩
      · exact q1.elim
  · intro X sc top ok l hx
    rw [hk] at hx
    rw [hs]
    unfold Km.ofE kmCe at hx
    simp only at hx
    split at hx
    · exact pts_one (ht X sc top ok _ hx)
    · cases hx
theorem snd_nt {a : ME} (sa : Snd C T N c a) : Snd C T N c (.nt a) := by
  refine Snd.ofT rfl rfl (fun X sc top ok x hx => ?_) (fun X sc top ok x hx => ?_) fun X sc top ok op l p hx => nomatch hx
  · cases x with
    | UnaryOp o y p =>
      cases o with
      | Not =>
        refine PE.imp (pe_not (sa.e X sc top ok y hx)) fun τ H Q ⟨ι, σ, h, re, rh, q⟩ => ?_
        refine tR.seq (RA := RV T) re rh q fun ι1 a1 h1 b1 H1 F re1 ra q1 => ?_
        unfold Sm.notV at q1
        split at q1
        · cases ra
          exact ⟨_, rfl, q1.here F.rh (.bl _)⟩
        · exact q1.elim
      | _ => exact nomatch hx
    | _ => exact nomatch hx
  · cases x with
    | UnaryOp o y p =>
      cases o with
      | Not =>
        refine PT.imp (pt_not (sa.t X sc top ok y hx)) fun τ H Q ⟨ι, σ, h, re, rh, q⟩ => ?_
        refine tR.seq (RA := fun _ _ _ a b => a = b) re rh q fun ι1 a1 h1 b1 H1 F re1 ra q1 => ?_
        subst ra
        exact q1.here F.rh rfl
      | _ => exact nomatch hx
    | _ => exact nomatch hx
theorem row_cases {op o : BoolOp} {a b : Km} {sc : Scope} {l : List Expr} {p : Pos} (h : Km.row op a b sc o l p = true) : o = op ∧ ∃ x y r, l = x :: y :: r ∧ a.e sc x = true ∧ ((r = [] ∧ b.e sc y = true) ∨ (r ≠ [] ∧ b.e sc (.BoolOp o (y :: r) p) = true)) := by
  unfold Km.row at h
  split at h
  · rename_i x y r
    simp only [Bool.and_eq_true] at h
    obtain ⟨⟨h1, h2⟩, h3⟩ := h
    refine ⟨eq_of_beq h1, x, y, r, rfl, h2, ?_⟩
    split at h3
    · exact .inl ⟨rfl, h3⟩
    · exact .inr ⟨List.cons_ne_nil _ _, h3⟩
  · cases h
theorem snd_and {a b : ME} (sa : Snd C T N c a) (sb : Snd C T N c b) : Snd C T N c (.and2 a b) := by
  have hw : ∀ X sc top, OkX C T N c X sc top → ∀ op l p, Km.row .And (ck C N a) (ck C N b) sc op l p = true → PW X (.BoolOp op l p) (tT X T (fun σ h => ((ev c a).t σ h).bind fun x h1 => bif x then (ev c b).t σ h1 else .ok false h1)) := by
    intro X sc top ok op l p hx
    obtain ⟨rfl, x, y, r, rfl, h1, h2⟩ := row_cases hx
    have hb : PW X (.BoolOp .And (y :: r) p) (tT X T (ev c b).t) := by
      rcases h2 with ⟨rfl, h2⟩ | ⟨_, h2⟩
      · exact pw_and1 (sb.t X sc top ok y h2)
      · exact sb.w X sc top ok _ _ _ h2
    refine PW.imp (pw_and (sa.t X sc top ok x h1) hb) fun τ H Q ⟨ι, σ, h, re, rh, q⟩ => ?_
    refine tR.seq (RA := fun _ _ _ a b => a = b) re rh q fun ι1 a1 h1 b1 H1 F re1 ra q1 => ?_
    subst ra
    rcases PQ.bif q1 with ⟨rfl, q1⟩ | ⟨rfl, q1⟩
    · rw [if_pos rfl]
      exact ⟨ι1, σ, h1, re1, F.rh, q1⟩
    · rw [if_neg Bool.false_ne_true]
      exact q1.here F.rh rfl
  refine Snd.ofT rfl rfl (fun X sc top ok x hx => ?_) (fun X sc top ok x hx => ?_) hw
  · cases x with
    | BoolOp op l p =>
      obtain ⟨rfl, x, y, r, rfl, h1, h2⟩ := row_cases hx
      have hb : PE X (.BoolOp .And (y :: r) p) (tE X T (ev c b).e) := by
        rcases h2 with ⟨rfl, h2⟩ | ⟨_, h2⟩
        · exact pe_one (sb.e X sc top ok y h2)
        · exact sb.e X sc top ok _ h2
      refine PE.imp (pe_and (sa.e X sc top ok x h1) hb) fun τ H Q ⟨ι, σ, h, re, rh, q⟩ => ?_
      refine tR.seq (RA := RV T) re rh q fun ι1 a1 h1 b1 H1 F re1 ra q1 => ?_
      unfold Sm.andV at q1
      split at q1
      · cases ra
        refine ⟨_, rfl, ?_⟩
        rcases PQ.bif q1 with ⟨rfl, q1⟩ | ⟨rfl, q1⟩
        · rw [if_pos rfl]
          exact ⟨ι1, σ, h1, re1, F.rh, q1⟩
        · rw [if_neg Bool.false_ne_true]
          exact q1.here F.rh (.bl _)
      · exact q1.elim
    | _ => exact nomatch hx
  · cases x with
    | BoolOp op l p => exact (hw X sc top ok op l p hx).pt
    | _ => exact nomatch hx
theorem snd_or {a b : ME} (sa : Snd C T N c a) (sb : Snd C T N c b) : Snd C T N c (.or2 a b) := by
  have hw : ∀ X sc top, OkX C T N c X sc top → ∀ op l p, Km.row .Or (ck C N a) (ck C N b) sc op l p = true → PW X (.BoolOp op l p) (tT X T (fun σ h => ((ev c a).t σ h).bind fun x h1 => bif x then .ok true h1 else (ev c b).t σ h1)) := by
    intro X sc top ok op l p hx
    obtain ⟨rfl, x, y, r, rfl, h1, h2⟩ := row_cases hx
    have hb : PW X (.BoolOp .Or (y :: r) p) (tT X T (ev c b).t) := by
      rcases h2 with ⟨rfl, h2⟩ | ⟨_, h2⟩
      · exact pw_or1 (sb.t X sc top ok y h2)
      · exact sb.w X sc top ok _ _ _ h2
    refine PW.imp (pw_or (sa.t X sc top ok x h1) hb) fun τ H Q ⟨ι, σ, h, re, rh, q⟩ => ?_
    refine tR.seq (RA := fun _ _ _ a b => a = b) re rh q fun ι1 a1 h1 b1 H1 F re1 ra q1 => ?_
    subst ra
    rcases PQ.bif q1 with ⟨rfl, q1⟩ | ⟨rfl, q1⟩
    · rw [if_pos rfl]
      exact q1.here F.rh rfl
    · rw [if_neg Bool.false_ne_true]
      exact ⟨ι1, σ, h1, re1, F.rh, q1⟩
  refine Snd.ofT rfl rfl (fun X sc top ok x hx => ?_) (fun X sc top ok x hx => ?_) hw
  · cases x with
    | BoolOp op l p =>
      obtain ⟨rfl, x, y, r, rfl, h1, h2⟩ := row_cases hx
      have hb : PE X (.BoolOp .Or (y :: r) p) (tE X T (ev c b).e) := by
        rcases h2 with ⟨rfl, h2⟩ | ⟨_, h2⟩
        · exact pe_one (sb.e X sc top ok y h2)
        · exact sb.e X sc top ok _ h2
      refine PE.imp (pe_or (sa.e X sc top ok x h1) hb) fun τ H Q ⟨ι, σ, h, re, rh, q⟩ => ?_
      refine tR.seq (RA := RV T) re rh q fun ι1 a1 h1 b1 H1 F re1 ra q1 => ?_
      unfold Sm.orV at q1
      split at q1
      · cases ra
        refine ⟨_, rfl, ?_⟩
        rcases PQ.bif q1 with ⟨rfl, q1⟩ | ⟨rfl, q1⟩
        · rw [if_pos rfl]
          exact q1.here F.rh (.bl _)
        · rw [if_neg Bool.false_ne_true]
          exact ⟨ι1, σ, h1, re1, F.rh, q1⟩
      · exact q1.elim
    | _ => exact nomatch hx
  · cases x with
    | BoolOp op l p => exact (hw X sc top ok op l p hx).pt
    | _ => exact nomatch hx
theorem rCm.of {X : L2.Cx} {f : MV → MV → MH → Option Bool} {ι : Io} {h : MH} {H : Hp} {x y : MV} {v u : V} {Q : VK} {k : Bool} (rh : RH T ι h H) (ra : RV T ι h.sz H x v) (rb : RV T ι h.sz H y u) (e : f x y h = some k) (q : Q (.bl k) H) : rCm X T f v u H Q := ⟨ι, h, x, y, k, rh, ra, rb, e, q⟩
/-- the test's end as a value's -/
theorem valT_end {X : L2.Cx} {τ : St} {ι : Io} {h : MH} {H : Hp} {r : Out Bool} {Q : VK} (q : PQ X T τ ι h H (RV T) (r.bind fun b h1 => .ok (.bl b) h1) Q) : PQ X T τ ι h H (fun _ _ _ a b => a = b) r (fun b H1 => Q (.bl b) H1) :=
  PQ.imp (PQ.bind (RA := fun _ _ _ a b => a = b) q) fun b H1 ⟨ι1, a, h1, F, e, q1⟩ => by
    subst e
    exact q1.here F.rh (.bl _)
theorem snd_cmp (op : CmpOp) {a b : ME} (sa : Snd C T N c a) (sb : Snd C T N c b) : Snd C T N c (.cmp op a b) := by
  have go : ∀ (X : L2.Cx) sc top, OkX C T N c X sc top → ∀ τ H (Q : Bool → Hp → Prop), tT X T (Sm.cmpT op (ev c a) (ev c b)) τ H Q → tOp (rCm X T (evCmp op)) (tE X T (ev c a).e) (tE X T (ev c b).e) τ H fun x H1 => ∃ k, x = .bl k ∧ Q k H1 := by
    intro X sc top ok τ H Q ⟨ι, σ, h, re, rh, q⟩
    refine tR.seq (RA := RV T) re rh q fun ι1 a1 h1 b1 H1 F re1 ra q1 => ?_
    refine tR.seq (RA := RV T) re1 F.rh q1 fun ι2 a2 h2 b2 H2 F2 re2 rb q2 => ?_
    obtain ⟨k, e1, q2⟩ := PQ.giv q2
    exact rCm.of F2.rh (ra.fut F2) rb e1 ⟨k, rfl, q2.here F2.rh rfl⟩
  refine Snd.ofT rfl rfl (fun X sc top ok x hx => ?_) (fun X sc top ok x hx => ?_) fun X sc top ok op l p hx => nomatch hx
  · cases x with
    | Compare x ops ys p =>
      match ops, ys, hx with
      | [o], [y], hx =>
        simp only [Bool.and_eq_true] at hx
        obtain ⟨⟨⟨h1, h2⟩, h3⟩, h4⟩ := hx
        have e1 := eq_of_beq h1
        subst e1
        refine PE.imp (pe_cmpR (mp_cmp (T := T) ok.K ok.un o) (sa.e X sc top ok x h2) (sb.e X sc top ok y h3) (mark_no h4)) fun τ H Q ⟨ι, σ, h, re, rh, q⟩ => ?_
        refine tR.seq (RA := RV T) re rh (RG := fun _ _ _ a b => a = b) (valT_end (r := Sm.cmpT o (ev c a) (ev c b) σ h) q) fun ι1 a1 h1 b1 H1 F re1 ra q1 => ?_
        refine tR.seq (RA := RV T) re1 F.rh q1 fun ι2 a2 h2 b2 H2 F2 re2 rb q2 => ?_
        obtain ⟨k, e1, q2⟩ := PQ.giv q2
        exact rCm.of F2.rh (ra.fut F2) rb e1 (q2.here F2.rh rfl)
      | [], _, hx => exact nomatch hx
      | [_], [], hx => exact nomatch hx
      | [_], _ :: _ :: _, hx => exact nomatch hx
      | _ :: _ :: _, _, hx => exact nomatch hx
    | _ => exact nomatch hx
  · cases x with
    | Compare x ops ys p =>
      match ops, ys, hx with
      | [o], [y], hx =>
        simp only [Bool.and_eq_true] at hx
        obtain ⟨⟨⟨h1, h2⟩, h3⟩, h4⟩ := hx
        have e1 := eq_of_beq h1
        subst e1
        exact PT.imp (pt_cmpR (mp_cmp (T := T) ok.K ok.un o) (sa.e X sc top ok x h2) (sb.e X sc top ok y h3) (mark_no h4)) fun τ H Q q => go X sc top ok τ H Q q
      | [], _, hx => exact nomatch hx
      | [_], [], hx => exact nomatch hx
      | [_], _ :: _ :: _, hx => exact nomatch hx
      | _ :: _ :: _, _, hx => exact nomatch hx
    | _ => exact nomatch hx
theorem snd_cmp2 (op op' : CmpOp) {a b d : ME} (sa : Snd C T N c a) (sb : Snd C T N c b) (sd : Snd C T N c d) : Snd C T N c (.cmp2 op op' a b d) := by
  have go : ∀ (X : L2.Cx) sc top, OkX C T N c X sc top → ∀ τ H (Q : Bool → Hp → Prop) (R : VK), (∀ b H1, Q b H1 → R (.bl b) H1) → tT X T (Sm.cmp2T op op' (ev c a) (ev c b) (ev c d)) τ H Q →
      tChain (rCm X T (evCmp op)) (rCm X T (evCmp op')) (tE X T (ev c a).e) (tE X T (ev c b).e) (tE X T (ev c d).e) τ H R := by
    intro X sc top ok τ H Q R hR ⟨ι, σ, h, re, rh, q⟩
    refine tR.seq (RA := RV T) re rh q fun ι1 a1 h1 b1 H1 F re1 ra q1 => ?_
    refine tR.seq (RA := RV T) re1 F.rh q1 fun ι2 a2 h2 b2 H2 F2 re2 rb q2 => ?_
    cases e1 : evCmp op a1 a2 h2 with
    | none => rw [e1] at q2; exact q2.elim
    | some k =>
      rw [e1] at q2
      refine rCm.of F2.rh (ra.fut F2) rb e1 ⟨k, rfl, ?_⟩
      rcases PQ.bif (show PQ X T τ ι2 h2 H2 _ (bif k then ((ev c d).e σ h2).bind fun z h4 => giv (evCmp op' a2 z h4) h4 else .ok false h2) Q from q2) with ⟨rfl, q3⟩ | ⟨rfl, q3⟩
      · rw [if_pos rfl]
        refine tR.seq (RA := RV T) re2 F2.rh q3 fun ι3 a3 h3 b3 H3 F3 re3 rc q4 => ?_
        obtain ⟨k, e2, q4⟩ := PQ.giv q4
        exact rCm.of F3.rh (rb.fut F3) rc e2 (hR _ _ (q4.here F3.rh rfl))
      · rw [if_neg Bool.false_ne_true]
        exact hR _ _ (q3.here F2.rh rfl)
  refine Snd.ofT rfl rfl (fun X sc top ok x hx => ?_) (fun X sc top ok x hx => ?_) fun X sc top ok op l p hx => nomatch hx
  · cases x with
    | Compare x ops ys p =>
      match ops, ys, hx with
      | [o, o'], [y, z], hx =>
        simp only [Bool.and_eq_true] at hx
        obtain ⟨⟨⟨⟨⟨⟨h1, h2⟩, h3⟩, h4⟩, h5⟩, h6⟩, h7⟩ := hx
        have e1 := eq_of_beq h1
        have e2 := eq_of_beq h2
        subst e1 e2
        refine PE.imp (pe_chain (mp_cmp (T := T) ok.K ok.un o) (mp_cmp (T := T) ok.K ok.un o') (sa.e X sc top ok x h3) (sb.e X sc top ok y h4) (sd.e X sc top ok z h5) (marks_no h7)) fun τ H Q ⟨ι, σ, h, re, rh, q⟩ => ?_
        exact go X sc top ok τ H (fun b H1 => Q (.bl b) H1) Q (fun _ _ q => q) ⟨ι, σ, h, re, rh, valT_end (r := Sm.cmp2T o o' (ev c a) (ev c b) (ev c d) σ h) q⟩
      | [], _, hx => exact nomatch hx
      | [_], _, hx => exact nomatch hx
      | [_, _], [], hx => exact nomatch hx
      | [_, _], [_], hx => exact nomatch hx
      | [_, _], _ :: _ :: _ :: _, hx => exact nomatch hx
      | _ :: _ :: _ :: _, _, hx => exact nomatch hx
    | _ => exact nomatch hx
  · cases x with
    | Compare x ops ys p =>
      match ops, ys, hx with
      | [o, o'], [y, z], hx =>
        simp only [Bool.and_eq_true] at hx
        obtain ⟨⟨⟨⟨⟨⟨h1, h2⟩, h3⟩, h4⟩, h5⟩, h6⟩, h7⟩ := hx
        have e1 := eq_of_beq h1
        have e2 := eq_of_beq h2
        subst e1 e2
        exact PT.imp (pt_chain (mp_cmp (T := T) ok.K ok.un o) (mp_cmp (T := T) ok.K ok.un o') (sa.e X sc top ok x h3) (sb.e X sc top ok y h4) (sd.e X sc top ok z h5) (marks_no h7)) fun τ H Q q => go X sc top ok τ H Q _ (fun b _ q => ⟨b, rfl, q⟩) q
      | [], _, hx => exact nomatch hx
      | [_], _, hx => exact nomatch hx
      | [_, _], [], hx => exact nomatch hx
      | [_, _], [_], hx => exact nomatch hx
      | [_, _], _ :: _ :: _ :: _, hx => exact nomatch hx
      | _ :: _ :: _ :: _, _, hx => exact nomatch hx
    | _ => exact nomatch hx
end
end Mp
/-! MpG: expressions, the rest. -/
namespace Mp
open PySem L2
section
variable {C : Ck} {T : Tb} {N : List Str} {c : Ctx} {m : ME}
theorem pt_ifExp {X : L2.Cx} {x y z : Expr} {p : Pos} {tx ty tz : TT} (hx : PT X x tx) (hy : PT X y ty) (hz : PT X z tz) : PT X (.IfExp x y z p) (fun τ H Q => tx τ H fun k H1 => if k = true then ty τ H1 Q else tz τ H1 Q) := by
  refine ⟨fun pins s τ H Q I h => PyProof.Rows.isTrue_IfExp (thn (hx.run pins s τ H _ I h) fun k s1 ⟨H1, I1, q1⟩ => ?_)⟩
  cases k with
  | true => exact hy.run pins s1 τ H1 Q I1 q1
  | false => exact hz.run pins s1 τ H1 Q I1 q1
theorem snd_ife {t a b : ME} (st : Snd C T N c t) (sa : Snd C T N c a) (sb : Snd C T N c b) : Snd C T N c (.ife t a b) := by
  refine Snd.ofT rfl rfl (fun X sc top ok x hx => ?_) (fun X sc top ok x hx => ?_) fun X sc top ok op l p hx => nomatch hx
  · cases x with
    | IfExp x y z p =>
      simp only [Bool.and_eq_true] at hx
      obtain ⟨⟨h1, h2⟩, h3⟩ := hx
      refine PE.imp (pe_ifExp (st.t X sc top ok x h1) (sa.e X sc top ok y h2) (sb.e X sc top ok z h3)) fun τ H Q ⟨ι, σ, h, re, rh, q⟩ => ?_
      refine tR.seq (RA := fun _ _ _ a b => a = b) re rh q fun ι1 a1 h1 b1 H1 F re1 ra q1 => ?_
      subst ra
      rcases PQ.bif q1 with ⟨rfl, q1⟩ | ⟨rfl, q1⟩
      · rw [if_pos rfl]
        exact ⟨ι1, σ, h1, re1, F.rh, q1⟩
      · rw [if_neg Bool.false_ne_true]
        exact ⟨ι1, σ, h1, re1, F.rh, q1⟩
    | _ => exact nomatch hx
  · cases x with
    | IfExp x y z p =>
      simp only [Bool.and_eq_true] at hx
      obtain ⟨⟨h1, h2⟩, h3⟩ := hx
      refine PT.imp (pt_ifExp (st.t X sc top ok x h1) (sa.t X sc top ok y h2) (sb.t X sc top ok z h3)) fun τ H Q ⟨ι, σ, h, re, rh, q⟩ => ?_
      refine tR.seq (RA := fun _ _ _ a b => a = b) re rh q fun ι1 a1 h1 b1 H1 F re1 ra q1 => ?_
      subst ra
      rcases PQ.bif q1 with ⟨rfl, q1⟩ | ⟨rfl, q1⟩
      · rw [if_pos rfl]
        exact ⟨ι1, σ, h1, re1, F.rh, q1⟩
      · rw [if_neg Bool.false_ne_true]
        exact ⟨ι1, σ, h1, re1, F.rh, q1⟩
    | _ => exact nomatch hx
/-! ### displays, items -/
theorem snd_tup {es : ME} (se : Snd C T N c es) : Snd C T N c (.tup es) := by
  refine Snd.ofE (f := fun σ h => ((ev c es).l σ h).bind fun xs h1 => bif Nat.ble xs.length szL then .ok (.tup xs) h1 else .bad) rfl rfl (fun sc x hx env whole => ?_) (fun _ _ _ _ => rfl) fun X sc top ok x hx => ?_
  · cases x <;> first | rfl | exact nomatch hx
  · cases x with
    | Tuple l k p =>
      refine PE.imp (pe_tup (se.l X sc top ok l hx)) fun τ H Q ⟨ι, σ, h, re, rh, q⟩ => ?_
      refine tR.seq (RA := RVs T) re rh q fun ι1 a1 h1 b1 H1 F re1 ra q1 => ?_
      rcases PQ.bif q1 with ⟨e, q1⟩ | ⟨_, q1⟩
      · exact ⟨by rw [← ra.length]; exact ble_line e, q1.newT F.rh ra⟩
      · exact q1.elim
    | _ => exact nomatch hx
theorem snd_lst {es : ME} (se : Snd C T N c es) : Snd C T N c (.lst es) := by
  refine Snd.ofE (f := fun σ h => ((ev c es).l σ h).bind fun xs h1 => bif Nat.ble xs.length szL then newL xs h1 else .bad) rfl rfl (fun sc x hx env whole => ?_) (fun _ _ _ _ => rfl) fun X sc top ok x hx => ?_
  · cases x <;> first | rfl | exact nomatch hx
  · cases x with
    | List l p =>
      refine PE.imp (pe_lst (se.l X sc top ok l hx)) fun τ H Q ⟨ι, σ, h, re, rh, q⟩ => ?_
      refine tR.seq (RA := RVs T) re rh q fun ι1 a1 h1 b1 H1 F re1 ra q1 => ?_
      rcases PQ.bif q1 with ⟨e, q1⟩ | ⟨_, q1⟩
      · exact ⟨by rw [← ra.length]; exact ble_line e, q1.newL F.rh ra⟩
      · exact q1.elim
    | _ => exact nomatch hx
theorem snd_ix {a i : ME} (sa : Snd C T N c a) (si : Snd C T N c i) : Snd C T N c (.ix a i) := by
  refine Snd.ofE (f := fun σ h => ((ev c a).e σ h).bind fun x h1 => ((ev c i).e σ h1).bind fun y h2 => giv (evIx x y h2) h2) rfl rfl (fun sc x hx env whole => ?_) (fun _ _ _ _ => rfl) fun X sc top ok x hx => ?_
  · cases x <;> first | rfl | exact nomatch hx
  · cases x with
    | Subscript x y p =>
      simp only [Bool.and_eq_true] at hx
      obtain ⟨⟨h1, h2⟩, h3⟩ := hx
      refine PE.imp (pe_ix (mp_ix (T := T) ok.K) (sa.e X sc top ok x h1) (si.e X sc top ok y h2) (plain_ix h3)) fun τ H Q ⟨ι, σ, h, re, rh, q⟩ => ?_
      refine tR.seq (RA := RV T) re rh q fun ι1 a1 h1 b1 H1 F re1 ra q1 => ?_
      refine tR.seq (RA := RV T) re1 F.rh q1 fun ι2 a2 h2 b2 H2 F2 re2 rb q2 => ?_
      obtain ⟨k, e1, q2⟩ := PQ.giv q2
      exact ⟨ι2, h2, a1, a2, k, F2.rh, ra.fut F2, rb, e1, fun v rv => q2.here F2.rh rv⟩
    | _ => exact nomatch hx
theorem snd_sl {a lo hi : ME} (sa : Snd C T N c a) (sl : Snd C T N c lo) (sh : Snd C T N c hi) : Snd C T N c (.sl a lo hi) := by
  refine Snd.ofE (f := fun σ h => ((ev c a).e σ h).bind fun x h1 => ((ev c lo).p σ h1).bind fun l h2 => ((ev c hi).p σ h2).bind fun u h3 => Sm.slV x l u h3) rfl rfl (fun sc x hx env whole => ?_) (fun _ _ _ _ => rfl) fun X sc top ok x hx => ?_
  · cases x <;> first | rfl | exact nomatch hx
  · cases x with
    | Subscript x y p =>
      cases y with
      | Slice l u st p2 =>
        cases st with
        | none =>
          simp only [Bool.and_eq_true] at hx
          obtain ⟨⟨h1, h2⟩, h3⟩ := hx
          refine PE.imp (pe_slice (mp_sl (T := T) ok.K) (sa.e X sc top ok x h1) (sl.p X sc top ok l h2) (sh.p X sc top ok u h3)) fun τ H Q ⟨ι, σ, h, re, rh, q⟩ => ?_
          refine tR.seq (RA := RV T) re rh q fun ι1 a1 h1 b1 H1 F re1 ra q1 => ?_
          refine tR.seq (RA := fun _ _ _ a b => a = b) re1 F.rh q1 fun ι2 a2 h2 b2 H2 F2 re2 rb q2 => ?_
          refine tR.seq (RA := fun _ _ _ a b => a = b) re2 F2.rh q2 fun ι3 a3 h3 b3 H3 F3 re3 rc q3 => ?_
          subst rb rc
          exact ⟨ι3, h3, a1, τ, F3.rh, (ra.fut F2).fut F3, q3⟩
        | some _ => exact nomatch hx
      | _ => exact nomatch hx
    | _ => exact nomatch hx

/-! ### calls -/
/-- behind the arguments: the call -/
theorem run_spF {X : L2.Cx} {sc : Scope} {top : Bool} (ok : OkX C T N c X sc top) {f : Nat} {x : Str} (hf : C.fnN f = some x) {a : Addr} {fd : FuncData} {k : Nat} (hr : Room k X.A)
    (G : FnOk X.prog X.w T.K X.mg X.base (L2.CX X.prog X.w) k a fd (C.fnP f) (spF T X.prog X.w c.call f (C.fnP f).length))
    {pins : List (Addr × Obj)} {s : Shared} {τ : St} {H : Hp} {ι : Io} {h : MH} {xs : List MV} {vs : List V} {us zs : List Value} {kw : List (Str × Value)} {Q : VK}
    (I : Inv X pins τ H s) (rh : RH T ι h H) (rs : RVs T ι h.sz H xs vs) (rv : Vals vs zs) (hl : zs.length = (C.fnP f).length) (hb : bindArgs fd ⟨us, kw⟩ = pure ((C.fnP f).zip zs)) (q : PQ X T τ ι h H (RV T) (c.call f xs h) Q) :
    wpAny (model X.prog X.w) X.A (PySem.call (.ref a) us kw) (EP X pins τ Q) X.xe s := by
  have hl' : vs.length = (C.fnP f).length := rv.length.trans hl
  cases e : c.call f xs h with
  | bad => rw [e] at q; exact q.elim
  | ok v h' =>
    rw [e] at q
    refine wpAny_call (codeAny_mono (G.run X.A X.stack s H ⟨us, kw⟩ zs vs Q (fun _ _ _ => False) hr (ok.K ▸ I.env0) (.of_eq hb) rv ⟨hl', ι, h, xs, rh, rs, ?_⟩) fun r s' hq => ?_)
    · rw [e]
      exact q
    · cases r with
      | error e =>
        obtain ⟨_, _, _, _, _, _, _, _, _, _, _, _, z⟩ := hq
        exact z.elim
      | ok fl =>
        cases fl with
        | ret u => exact I.after hq
        | next => exact False.elim hq
        | brk => exact False.elim hq
        | cont => exact False.elim hq
  | exc y h' =>
    rw [e] at q
    refine wpAny_call (codeAny_mono (G.run X.A X.stack s H ⟨us, kw⟩ zs vs (fun _ _ => False) (fun cls d H' => ∃ ι', Fut T ι h H ι' h' H' ∧ RX T ι' h'.sz H' y cls d) hr (ok.K ▸ I.env0) (.of_eq hb) rv ⟨hl', ι, h, xs, rh, rs, ?_⟩) fun r s' hq => ?_)
    · rw [e]
      exact fun ι' H' cls d F rx => ⟨ι', F, rx⟩
    · cases r with
      | error e => exact q _ _ (XE.of_call I (fun cls d H' z => ⟨rfl, z⟩) hq)
      | ok fl =>
        cases fl with
        | ret u =>
          obtain ⟨v, H', a1, a2, a3, a4, a5, a6⟩ := hq
          exact a6.elim
        | next => exact False.elim hq
        | brk => exact False.elim hq
        | cont => exact False.elim hq
theorem l_star : ∀ (m : ME) (sc : Scope) (l : List Expr), (ck C N m).l sc l = true → ∀ x ∈ l, notStar x = true := by
  intro m
  induction m with
  | nil =>
    intro sc l h x hx
    have h : l.isEmpty = true := h
    rw [List.isEmpty_iff] at h
    subst h
    cases hx
  | cons a r _ ihr =>
    intro sc l h x hx
    cases l with
    | nil => cases hx
    | cons y t =>
      have h : ((ck C N a).e sc y && notStar y && (ck C N r).l sc t) = true := h
      simp only [Bool.and_eq_true] at h
      rcases List.mem_cons.mp hx with rfl | hx
      · exact h.1.2
      · exact ihr sc t h.2 x hx
  | _ => intro sc l h; exact nomatch h
theorem star_any {env : Env} {pos : Pos} : ∀ {es : List Expr}, (∀ x ∈ es, notStar x = true) → (backTo pos (starEach es env)).any (·.1) = false
  | [], _ => rfl
  | x :: es, h => by
    rw [star_cons (h x List.mem_cons_self)]
    show (false || (backTo pos (starEach es env)).any (·.1)) = false
    rw [star_any fun y hy => h y (List.mem_cons_of_mem _ hy)]
    rfl
theorem l_nil {sc : Scope} (h : (ck C N m).l sc [] = true) : m = .nil := by
  cases m <;> first | rfl | exact nomatch h
theorem snd_call (f : Nat) {es : ME} (se : Snd C T N c es) : Snd C T N c (.call f es) := by
  refine Snd.ofE (f := fun σ h => ((ev c es).l σ h).bind (c.call f)) rfl rfl (fun sc x hx env whole => ?_) (fun _ _ _ _ => rfl) fun X sc top ok x hx => ?_
  · cases x <;> first | rfl | exact nomatch hx
  · cases x with
    | Call fn l ks p =>
      cases fn with
      | Name x px =>
        cases ks with
        | nil =>
          simp only [Bool.and_eq_true] at hx
          obtain ⟨⟨⟨h1, h2⟩, h3⟩, h4⟩ := hx
          have hf := eq_of_beq h1
          obtain ⟨a, fd, k, e1, e2, e3, hr, hb, ar, G⟩ := ok.wd.fn f x hf
          have hst := l_star es sc l h4
          have pa := se.l X sc top ok l h4
          have hg : Gl X x := (show X.env.scope.names.lookup x = _ by rw [ok.sc]; exact glB_iff h2)
          have hk : PySem.W.keepIn X.K (.ref a) = true := by rw [ok.K]; exact e3
          refine ⟨fun pins s τ H Q I ⟨ι, σ, h, re, rh, q⟩ => ?_⟩
          have fin : ∀ {s1 : Shared} {H1 : Hp} {vs : List V} {us : List Value}, Inv X pins τ H1 s1 → Vals vs us →
              (∃ ι1 xs h1, Fut T ι h H ι1 h1 H1 ∧ RVs T ι1 h1.sz H1 xs vs ∧ PQ X T τ ι1 h1 H1 (RV T) (c.call f xs h1) Q) → wpAny (model X.prog X.w) X.A (PySem.call (.ref a) us) (EP X pins τ Q) X.xe s1 := by
            intro s1 H1 vs us I1 rv ⟨ι1, xs, h1, F, rs, q1⟩
            have hl : us.length = (C.fnP f).length := by
              rw [← rv.length, ← rs.length]
              refine Decidable.byContradiction fun ne => ?_
              rw [ar xs h1 ne] at q1
              exact q1.elim
            exact run_spF ok hf hr G I1 F.rh rs rv hl (hb.pos us hl) q1
          refine wpAny_Call_Name_kw (ld_glob I hg e2 ?_ (okNm_iff h3).1)
          cases l with
          | nil =>
            have e := l_nil h4
            subst e
            exact PySem.W.callWith_K0 I.kIn hk (fin I .nil ⟨ι, [], h, .refl rh, .nil, q⟩)
          | cons y l =>
            refine PySem.W.callWith_K (h₀ := X.base) I.ok.mod.kin hk ?_ (star_cons (hst y List.mem_cons_self)) (star_any fun w hw => hst w (List.mem_cons_of_mem _ hw))
            refine thn (pa.run p pins s τ H (fun vs H1 => ∃ ι1 xs h1, Fut T ι h H ι1 h1 H1 ∧ RVs T ι1 h1.sz H1 xs vs ∧ PQ X T τ ι1 h1 H1 (RV T) (c.call f xs h1) Q) I (tR.seq (RA := RVs T) re rh q fun ι1 a1 h1 b1 H1 F re1 ra q1 => ⟨ι1, a1, h1, F, ra, q1⟩)) fun us s1 ⟨vs, H1, I1, r, q1⟩ => ⟨I1.kIn, ?_⟩
            exact fin I1 r q1
        | cons _ _ => exact nomatch hx
      | _ => exact nomatch hx
    | _ => exact nomatch hx
theorem kw_all {env : Env} {pos : Pos} : ∀ {ks : List Keyword}, (∀ k ∈ ks, k.arg.isSome = true) → (backToKw pos (keywordEach ks env)).all (·.1.isSome) = true ∧ (backToKw pos (keywordEach ks env)).any (·.1.isNone) = false ∧ (backToKw pos (keywordEach ks env)).filterMap (·.1) = Km.kwNs ks
  | [], _ => ⟨rfl, rfl, rfl⟩
  | ⟨o, x, p⟩ :: ks, h => by
    obtain ⟨a1, a2, a3⟩ := kw_all (env := env) (pos := pos) fun k hk => h k (List.mem_cons_of_mem _ hk)
    have h0 : o.isSome = true := h _ List.mem_cons_self
    cases o with
    | none => cases h0
    | some n =>
      refine ⟨?_, ?_, ?_⟩
      · show (true && (backToKw pos (keywordEach ks env)).all (·.1.isSome)) = true
        rw [a1]; rfl
      · show (false || (backToKw pos (keywordEach ks env)).any (·.1.isNone)) = false
        rw [a2]; rfl
      · show n :: (backToKw pos (keywordEach ks env)).filterMap (·.1) = n :: Km.kwNs ks
        rw [a3]
theorem k_some : ∀ (m : ME) (sc : Scope) (ns : List Str) (l : List Keyword), (ck C N m).k sc ns l = true → ∀ k ∈ l, k.arg.isSome = true := by
  intro m
  induction m with
  | nil =>
    intro sc ns l h x hx
    have h : l.isEmpty = true := h
    rw [List.isEmpty_iff] at h
    subst h
    cases hx
  | cons a r _ ihr =>
    intro sc ns l h x hx
    cases l with
    | nil => cases hx
    | cons y t =>
      obtain ⟨o, y, p⟩ := y
      cases o with
      | none => exact nomatch h
      | some n =>
        have h : ((ck C N a).e sc y && (ck C N r).k sc ns t) = true := h
        simp only [Bool.and_eq_true] at h
        rcases List.mem_cons.mp hx with rfl | hx
        · rfl
        · exact ihr sc ns t h.2 x hx
  | _ => intro sc ns l h; exact nomatch h
theorem perm_vals {T : Tb} {ι : Io} {n : Nat} {H : Hp} {xs : List MV} {vs : List V} (r : RVs T ι n H xs vs) {us : List Value} (rv : Vals vs us) : ∀ {perm : List Nat} {zs : List MV}, mapO (nth xs) perm = some zs →
    ∃ ws, RVs T ι n H zs ws ∧ Vals ws (perm.filterMap fun j => us[j]?) ∧ (perm.filterMap fun j => us[j]?).length = perm.length
  | [], zs, e => by cases e; exact ⟨[], .nil, .nil, rfl⟩
  | j :: perm, zs, e => by
    unfold mapO at e
    cases e1 : nth xs j with
    | none => rw [e1] at e; cases e
    | some y =>
      cases e2 : mapO (nth xs) perm with
      | none => rw [e1, e2] at e; cases e
      | some ys =>
        rw [e1, e2] at e
        cases e
        obtain ⟨ws, r1, v1, l1⟩ := perm_vals r rv e2
        rw [nth_eq] at e1
        obtain ⟨v, e3, ry⟩ := r.get e1
        obtain ⟨u, e4, ru⟩ := rv.get e3
        refine ⟨v :: ws, .cons ry r1, ?_, ?_⟩
        · rw [List.filterMap_cons, e4]
          exact .cons ru v1
        · rw [List.filterMap_cons, e4]
          simp [l1]
theorem tR.seqE {X : L2.Cx} {τ : St} {ι : Io} {h : MH} {H : Hp} {α β γ δ : Type} {RA : Rl α β} {RG : Rl γ δ} {σ : En} {f : En → MH → Out α} {k : α → MH → Out γ} {Q : δ → Hp → Prop} (re : RE T ι h.sz H σ τ) (rh : RH T ι h H) (q : PQ X T τ ι h H RG ((f σ h).bind k) Q) {R : β → Hp → Prop}
    (go : ∀ ι1 a h1 b H1, f σ h = .ok a h1 → Fut T ι h H ι1 h1 H1 → RE T ι1 h1.sz H1 σ τ → RA ι1 h1.sz H1 a b → PQ X T τ ι1 h1 H1 RG (k a h1) Q → R b H1) : tR X T RA f τ H R := by
  refine ⟨ι, σ, h, re, rh, ?_⟩
  cases e : f σ h with
  | ok a h1 =>
    rw [e] at q
    exact fun ι1 H1 b F ra => go ι1 a h1 b H1 e F (re.fut F) ra (PQ.fut F q)
  | exc x h1 => rw [e] at q; exact q
  | bad => rw [e] at q; exact q
theorem l_len : ∀ (m : ME) (sc : Scope) (l : List Expr), (ck C N m).l sc l = true → ∀ σ h xs h1, (ev c m).l σ h = .ok xs h1 → xs.length = l.length := by
  intro m
  induction m with
  | nil =>
    intro sc l h σ h0 xs h1 e
    have h : l.isEmpty = true := h
    rw [List.isEmpty_iff] at h
    subst h
    have e : Out.ok [] h0 = Out.ok xs h1 := e
    cases e
    rfl
  | cons a r _ ihr =>
    intro sc l h σ h0 xs h1 e
    cases l with
    | nil => exact nomatch h
    | cons y t =>
      have h : ((ck C N a).e sc y && notStar y && (ck C N r).l sc t) = true := h
      simp only [Bool.and_eq_true] at h
      have e : (((ev c a).e σ h0).bind fun x h1 => ((ev c r).l σ h1).bind fun xs h2 => .ok (x :: xs) h2) = Out.ok xs h1 := e
      cases e1 : (ev c a).e σ h0 with
      | ok x h2 =>
        rw [e1] at e
        have e : (((ev c r).l σ h2).bind fun xs h2 => .ok (x :: xs) h2) = Out.ok xs h1 := e
        cases e2 : (ev c r).l σ h2 with
        | ok ys h3 =>
          rw [e2] at e
          have e : Out.ok (x :: ys) h3 = Out.ok xs h1 := e
          cases e
          show ys.length + 1 = t.length + 1
          rw [ihr sc t h.2 σ h2 ys _ e2]
        | exc _ _ => rw [e2] at e; exact nomatch e
        | bad => rw [e2] at e; exact nomatch e
      | exc _ _ => rw [e1] at e; exact nomatch e
      | bad => rw [e1] at e; exact nomatch e
  | _ => intro sc l h; exact nomatch h
theorem k_len : ∀ (m : ME) (sc : Scope) (ns : List Str) (l : List Keyword), (ck C N m).k sc ns l = true → ∀ σ h xs h1, (ev c m).l σ h = .ok xs h1 → xs.length = (Km.kwNs l).length := by
  intro m
  induction m with
  | nil =>
    intro sc ns l h σ h0 xs h1 e
    have h : l.isEmpty = true := h
    rw [List.isEmpty_iff] at h
    subst h
    have e : Out.ok [] h0 = Out.ok xs h1 := e
    cases e
    rfl
  | cons a r _ ihr =>
    intro sc ns l h σ h0 xs h1 e
    cases l with
    | nil => exact nomatch h
    | cons y t =>
      obtain ⟨o, y, p⟩ := y
      cases o with
      | none => exact nomatch h
      | some n =>
      have h : ((ck C N a).e sc y && (ck C N r).k sc ns t) = true := h
      simp only [Bool.and_eq_true] at h
      have e : (((ev c a).e σ h0).bind fun x h1 => ((ev c r).l σ h1).bind fun xs h2 => .ok (x :: xs) h2) = Out.ok xs h1 := e
      cases e1 : (ev c a).e σ h0 with
      | ok x h2 =>
        rw [e1] at e
        have e : (((ev c r).l σ h2).bind fun xs h2 => .ok (x :: xs) h2) = Out.ok xs h1 := e
        cases e2 : (ev c r).l σ h2 with
        | ok ys h3 =>
          rw [e2] at e
          have e : Out.ok (x :: ys) h3 = Out.ok xs h1 := e
          cases e
          show ys.length + 1 = (n :: Km.kwNs t).length
          rw [ihr sc ns t h.2 σ h2 ys _ e2, List.length_cons]
        | exc _ _ => rw [e2] at e; exact nomatch e
        | bad => rw [e2] at e; exact nomatch e
      | exc _ _ => rw [e1] at e; exact nomatch e
      | bad => rw [e1] at e; exact nomatch e
  | _ => intro sc ns l h; exact nomatch h
theorem snd_callk (f : Nat) {es kws : ME} (perm : List Nat) (se : Snd C T N c es) (sk : Snd C T N c kws) : Snd C T N c (.callk f es kws perm) := by
  refine Snd.ofE (f := fun σ h => ((ev c es).l σ h).bind fun xs h1 => ((ev c kws).l σ h1).bind fun ys h2 => (giv (Sm.permV perm (xs ++ ys)) h2).bind (c.call f)) rfl rfl (fun sc x hx env whole => ?_) (fun _ _ _ _ => rfl) fun X sc top ok x hx => ?_
  · cases x <;> first | rfl | exact nomatch hx
  · cases x with
    | Call fn l ks p =>
      cases fn with
      | Name x px =>
        simp only [Bool.and_eq_true] at hx
        obtain ⟨⟨⟨⟨⟨h1, h2⟩, h3⟩, h4⟩, h5⟩, h6⟩ := hx
        have hf := eq_of_beq h1
        obtain ⟨a, fd, k, e1, e2, e3, hr, hb, ar, G⟩ := ok.wd.fn f x hf
        have hst := l_star es sc l h4
        have hks := k_some kws sc _ ks h5
        obtain ⟨k1, k2, k3⟩ := kw_all (env := X.env) (pos := p) hks
        have pa := se.l X sc top ok l h4
        have pk := sk.k X sc top ok _ ks h5
        have hg : Gl X x := (show X.env.scope.names.lookup x = _ by rw [ok.sc]; exact glB_iff h2)
        have hk : PySem.W.keepIn X.K (.ref a) = true := by rw [ok.K]; exact e3
        refine ⟨fun pins s τ H Q I ⟨ι, σ, h, re, rh, q⟩ => ?_⟩
        have fin : ∀ {s1 : Shared} {H1 : Hp} {vs zs : List V} {us ws : List Value}, us.length = l.length → ws.length = (Km.kwNs ks).length → Inv X pins τ H1 s1 → Vals vs us → Vals zs ws →
            (∃ ι1 xs ys h1, Fut T ι h H ι1 h1 H1 ∧ RVs T ι1 h1.sz H1 xs vs ∧ RVs T ι1 h1.sz H1 ys zs ∧ PQ X T τ ι1 h1 H1 (RV T) ((giv (Sm.permV perm (xs ++ ys)) h1).bind (c.call f)) Q) →
            wpAny (model X.prog X.w) X.A (PySem.call (.ref a) us ((Km.kwNs ks).zip ws)) (EP X pins τ Q) X.xe s1 := by
          intro s1 H1 vs zs us ws lu lw I1 rv rz ⟨ι1, xs, ys, h1, F, rs, rt, q1⟩
          cases e4 : Sm.permV perm (xs ++ ys) with
          | none => rw [e4] at q1; exact q1.elim
          | some ms =>
            rw [e4] at q1
            obtain ⟨qs, r5, v5, l5⟩ := perm_vals (rs.append rt) (rv.append rz) e4
            have hp : perm.length = (C.fnP f).length := by
              unfold Km.permOk at h6
              simp only [Bool.and_eq_true, decide_eq_true_eq] at h6
              have := congrArg List.length h6.2
              simpa using this
            exact run_spF ok hf hr G I1 F.rh r5 v5 (l5.trans hp) (hb.kw us ws (Km.kwNs ks) perm lw (by rw [lu]; exact h6)) q1
        refine wpAny_Call_Name_kw (ld_glob I hg e2 ?_ (okNm_iff h3).1)
        have kws_ : ∀ {s1 : Shared} {H1 : Hp} {vs : List V} {us : List Value}, us.length = l.length → Inv X pins τ H1 s1 → Vals vs us →
            (∃ ι1 xs h1, Fut T ι h H ι1 h1 H1 ∧ RE T ι1 h1.sz H1 σ τ ∧ RVs T ι1 h1.sz H1 xs vs ∧ PQ X T τ ι1 h1 H1 (RV T) (((ev c kws).l σ h1).bind fun ys h2 => (giv (Sm.permV perm (xs ++ ys)) h2).bind (c.call f)) Q) →
            wpAny (model X.prog X.w) X.A (evalAll ((backToKw p (keywordEach ks X.env)).map (·.2))) (fun zs s2 => X.K.In s2.heap ∧ wpAny (model X.prog X.w) X.A (PySem.call (.ref a) ([] ++ us) (((backToKw p (keywordEach ks X.env)).filterMap (·.1)).zip zs)) (EP X pins τ Q) X.xe s2) X.xe s1 := by
          intro s1 H1 vs us lu I1 rv ⟨ι1, xs, h1, F, re1, rs, q1⟩
          refine thn (pk.run p pins s1 τ H1 (fun zs H2 => zs.length = (Km.kwNs ks).length ∧ ∃ ι2 xs ys h2, Fut T ι h H ι2 h2 H2 ∧ RVs T ι2 h2.sz H2 xs vs ∧ RVs T ι2 h2.sz H2 ys zs ∧ PQ X T τ ι2 h2 H2 (RV T) ((giv (Sm.permV perm (xs ++ ys)) h2).bind (c.call f)) Q) I1
            (tR.seqE (RA := RVs T) re1 F.rh q1 fun ι2 ys h2 b2 H2 e F2 re2 rb q2 => ⟨by rw [← rb.length]; exact k_len kws sc _ ks h5 _ _ _ _ e, ι2, xs, ys, h2, F.trans F2, rs.fut F2, rb, q2⟩)) fun zs s2 ⟨vz, H2, I2, rz, lz, q2⟩ => ⟨I2.kIn, ?_⟩
          rw [k3]
          exact fin lu (by rw [← rz.length]; exact lz) I2 rv rz q2
        cases l with
        | nil =>
          have e := l_nil h4
          subst e
          exact PySem.W.callWith_KW0 (h₀ := X.base) I.ok.mod.kin hk k1 (kws_ rfl I .nil ⟨ι, [], h, .refl rh, re, .nil, q⟩) (by show (false || (backToKw p (keywordEach ks X.env)).any (·.1.isNone)) = false; rw [k2]; rfl)
        | cons y l =>
          refine PySem.W.callWith_KW (h₀ := X.base) I.ok.mod.kin hk k1 ?_ (by rw [k2, star_any hst]; rfl) (star_cons (hst y List.mem_cons_self))
          refine thn (pa.run p pins s τ H (fun vs H1 => vs.length = (y :: l).length ∧ ∃ ι1 xs h1, Fut T ι h H ι1 h1 H1 ∧ RE T ι1 h1.sz H1 σ τ ∧ RVs T ι1 h1.sz H1 xs vs ∧ PQ X T τ ι1 h1 H1 (RV T) (((ev c kws).l σ h1).bind fun ys h2 => (giv (Sm.permV perm (xs ++ ys)) h2).bind (c.call f)) Q) I
            (tR.seqE (RA := RVs T) re rh q fun ι1 xs h1 b1 H1 e F re1 ra q1 => ⟨by rw [← ra.length]; exact l_len es sc _ h4 _ _ _ _ e, ι1, xs, h1, F, re1, ra, q1⟩)) fun us s1 ⟨vs, H1, I1, r, lv, q1⟩ => ?_
          exact kws_ (by rw [← r.length]; exact lv) I1 r q1
      | _ => exact nomatch hx
    | _ => exact nomatch hx
end
end Mp
/-! MpH: built-in calls, rows, what is walked, targets, comprehensions. -/
namespace Mp
open PySem L2
section
variable {C : Ck} {T : Tb} {N : List Str} {c : Ctx} {m : ME}
theorem dbg_no {x : Str} (h : x ≠ "__name__" ∧ (x == ("__debug__" : Str)) = false) : (x == ("__debug__" : Str)) = false := h.2
theorem snd_bi (f : BI) {es : ME} (se : Snd C T N c es) : Snd C T N c (.bi f es) := by
  refine Snd.ofE (f := fun σ h => ((ev c es).l σ h).bind (evBI f)) rfl rfl (fun sc x hx env whole => ?_) (fun _ _ _ _ => rfl) fun X sc top ok x hx => ?_
  · cases x <;> first | rfl | exact nomatch hx
  · cases x with
    | Call fn l ks p =>
      cases fn with
      | Name x px =>
        match l, ks, hx with
        | y :: l, [], hx =>
          simp only [Bool.and_eq_true] at hx
          obtain ⟨⟨⟨h1, h2⟩, h3⟩, h4⟩ := hx
          have e1 := eq_of_beq h1
          subst e1
          have hst := l_star es sc _ h4
          have pa := se.l X sc top ok _ h4
          have hg : Gl X f.nm := (show X.env.scope.names.lookup f.nm = _ by rw [ok.sc]; exact glB_iff h2)
          have cr := mp_bi (T := T) ok.calm ok.K f
          have he := star_cons (env := X.env) (es := l) (hst y List.mem_cons_self)
          have hp := star_any (env := X.env) (pos := p) (es := l) fun w hw => hst w (List.mem_cons_of_mem _ hw)
          have go : ∀ τ H (Q : VK), tE X T (fun σ h => ((ev c es).l σ h).bind (evBI f)) τ H Q → tCB (rBi X T (evBI f)) (tL X T (ev c es).l) τ H Q := fun τ H Q ⟨ι, σ, h, re, rh, q⟩ =>
            tR.seq (RA := RVs T) re rh q fun ι1 a1 h1 b1 H1 F re1 ra q1 => ⟨ι1, h1, a1, τ, F.rh, ra, q1⟩
          have hb := BI.boot f
          have hm := ok.wd.none_ _ h3
          obtain ⟨n1, n2⟩ := BI.nm_ne f
          cases f with
          | int1 => exact PE.imp (pe_callTy cr hg hm hb pa n1 n2 he hp) go
          | list1 => exact PE.imp (pe_callTy cr hg hm hb pa n1 n2 he hp) go
          | abs1 => exact PE.imp (pe_callB cr hg hm hb pa n1 n2 he hp) go
          | len1 => exact PE.imp (pe_callB cr hg hm hb pa n1 n2 he hp) go
          | max2 => exact PE.imp (pe_callB cr hg hm hb pa n1 n2 he hp) go
          | min2 => exact PE.imp (pe_callB cr hg hm hb pa n1 n2 he hp) go
          | divmod2 => exact PE.imp (pe_callB cr hg hm hb pa n1 n2 he hp) go
          | all1 => exact PE.imp (pe_callB cr hg hm hb pa n1 n2 he hp) go
        | [], _, hx => exact nomatch hx
        | _ :: _, _ :: _, hx => exact nomatch hx
      | _ => exact nomatch hx
    | _ => exact nomatch hx
theorem snd_isi (k : TyK) {a : ME} (sa : Snd C T N c a) : Snd C T N c (.isi k a) := by
  refine Snd.ofE (f := fun σ h => ((ev c a).e σ h).bind fun x h1 => (giv (tyIs k x h1) h1).bind fun b h2 => .ok (.bl b) h2) rfl rfl (fun sc x hx env whole => ?_) (fun _ _ _ _ => rfl) fun X sc top ok x hx => ?_
  · cases x <;> first | rfl | exact nomatch hx
  · cases x with
    | Call fn l ks p =>
      cases fn with
      | Name f px =>
        match l, hx with
        | [x, y], hx =>
          cases y with
          | Name t pt =>
            cases ks with
            | nil =>
              simp only [Bool.and_eq_true] at hx
              obtain ⟨⟨⟨⟨⟨⟨⟨h1, h2⟩, h3⟩, h4⟩, h5⟩, h6⟩, h7⟩, h8⟩ := hx
              have e1 := eq_of_beq h1
              have e2 := eq_of_beq h2
              subst e1 e2
              have hg : Gl X "isinstance" := (show X.env.scope.names.lookup _ = _ by rw [ok.sc]; exact glB_iff h3)
              have hg2 : Gl X k.sn := (show X.env.scope.names.lookup _ = _ by rw [ok.sc]; exact glB_iff h4)
              have p2 : PE X (.Name k.sn pt) (tC (.ty k.nm)) := pe_bltn hg2 (ok.wd.none_ _ h6) (TyK.boot k) rfl (TyK.sn_ne k).1 (TyK.sn_ne k).2
              have pa : PA X [x, .Name k.sn pt] (tCons (tE X T (ev c a).e) (tCons (tC (.ty k.nm)) tNil)) := pa_cons (sa.e X sc top ok x h7) (pa_cons p2 pa_nil) (star_cons h8)
              refine ⟨fun pins s τ H Q I ⟨ι, σ, h, re, rh, q⟩ => ?_⟩
              refine wpAny_Call_Name_kw (ld_blt I hg (ok.wd.none_ _ h5) PyProof.Rows.boot_isinstance ?_ (by decide) (by decide))
              refine PyProof.Rows.callWith_builtin1 ?_ (star_cons h8) rfl
              refine thn (pa.run p pins s τ H (fun vs H1 => ∃ x ι1 a1 h1 b, vs = [x, .ty k.nm] ∧ RH T ι1 h1 H1 ∧ RV T ι1 h1.sz H1 a1 x ∧ tyIs k a1 h1 = some b ∧ Q (.bl b) H1) I
                (tR.seq (RA := RV T) re rh q fun ι1 a1 h1 b1 H1 F re1 ra q1 => ?_)) fun us s1 ⟨vs, H1, I1, r, x1, ι1, a1, h1, b, e, rh1, ra, et, q1⟩ => ?_
              · cases et : tyIs k a1 h1 with
                | none => rw [et] at q1; exact q1.elim
                | some b =>
                  rw [et] at q1
                  exact ⟨b1, ι1, a1, h1, b, rfl, F.rh, ra, et, q1.here (b := V.bl b) F.rh (.bl b)⟩
              · subst e
                exact mp_isi ok.K k I1 rh1 ra et r q1
            | cons _ _ => exact nomatch hx
          | _ => cases ks <;> exact nomatch hx
        | [], hx => cases ks <;> exact nomatch hx
        | [_], hx => cases ks <;> exact nomatch hx
        | _ :: y :: _ :: _, hx => cases y <;> cases ks <;> exact nomatch hx
      | _ => exact nomatch hx
    | _ => exact nomatch hx
end
end Mp
/-! MpI: rows, what is walked, targets, comprehensions; all expressions. -/
namespace Mp
open PySem L2
section
variable {C : Ck} {T : Tb} {N : List Str} {c : Ctx} {m : ME}
theorem in62_iff {i : Int} (h : Sm.in62 i = true) : -(2 ^ 62) ≤ i ∧ i < 2 ^ 62 := by
  unfold Sm.in62 at h
  rw [Bool.and_eq_true, decide_eq_true_eq, decide_eq_true_eq] at h
  exact ⟨by omega, by omega⟩
theorem rngL_rel {ι : Io} {n : Nat} {H : Hp} (lo hi : Int) : RVs T ι n H (Sm.rngL lo (hi - lo).toNat) (rgV lo hi) := by
  unfold Sm.rngL rgV
  generalize List.range (hi - lo).toNat = l
  induction l with
  | nil => exact .nil
  | cons k l ih => exact .cons (.int _) ih
theorem lrng_end {X : L2.Cx} {τ : St} {ι : Io} {h : MH} {H : Hp} {x y : MV} {v u : V} {Q : VK} (rh : RH T ι h H) (ra : RV T ι h.sz H x v) (rb : RV T ι h.sz H y u) (q : PQ X T τ ι h H (RV T) (Sm.lrngV x y h) Q) :
    ∃ i j, v = .int i ∧ u = .int j ∧ RgOk i j ∧ ∀ p, H p = none → Q (.ref p) (upd H p (.lst (rgV i j))) := by
  unfold Sm.lrngV at q
  split at q
  · cases ra; cases rb
    rcases PQ.bif q with ⟨e, q⟩ | ⟨_, q⟩
    · simp only [Bool.and_eq_true] at e
      obtain ⟨⟨e1, e2⟩, e3⟩ := e
      have b1 := in62_iff e1
      have b2 := in62_iff e2
      have b3 := ble_line e3
      rw [sizeLine_eq] at b3
      exact ⟨_, _, rfl, rfl, ⟨b1.1, b1.2, b2.1, b2.2, by omega⟩, q.newL rh (rngL_rel _ _)⟩
    · exact q.elim
  · exact q.elim
theorem snd_lrng1 {b : ME} (sb : Snd C T N c b) : Snd C T N c (.lrng1 b) := by
  refine Snd.ofE (f := fun σ h => ((ev c b).e σ h).bind (Sm.lrngV (.int 0))) rfl rfl (fun sc x hx env whole => ?_) (fun _ _ _ _ => rfl) fun X sc top ok x hx => ?_
  · cases x <;> first | rfl | exact nomatch hx
  · unfold Km.lrng1 Km.ofE at hx
    split at hx
    · rename_i f px r pr y p1 p2
      simp only [Bool.and_eq_true] at hx
      obtain ⟨⟨⟨⟨⟨⟨⟨h1, h2⟩, h3⟩, h4⟩, h5⟩, h6⟩, h7⟩, h8⟩ := hx
      have e1 := eq_of_beq h1
      have e2 := eq_of_beq h2
      subst e1 e2
      have hg : Gl X "list" := (show X.env.scope.names.lookup _ = _ by rw [ok.sc]; exact glB_iff h3)
      have hg2 : Gl X "range" := (show X.env.scope.names.lookup _ = _ by rw [ok.sc]; exact glB_iff h4)
      refine PE.imp (pe_listRg ok.calm hg (ok.wd.none_ _ h5) (prg_1 hg2 (ok.wd.none_ _ h6) (sb.e X sc top ok y h7) (star_cons h8))) fun τ H Q ⟨ι, σ, h, re, rh, q⟩ => ?_
      refine tR.seq (RA := RV T) re rh q fun ι1 a1 h1 b1 H1 F re1 ra q1 => ?_
      obtain ⟨i, j, e1, e2, o, z⟩ := lrng_end (x := .int 0) (v := .int 0) F.rh (.int 0) ra q1
      cases e1
      exact ⟨j, e2, o, z⟩
    · cases hx
theorem snd_lrng2 {a b : ME} (sa : Snd C T N c a) (sb : Snd C T N c b) : Snd C T N c (.lrng2 a b) := by
  refine Snd.ofE (f := fun σ h => ((ev c a).e σ h).bind fun x h1 => ((ev c b).e σ h1).bind (Sm.lrngV x)) rfl rfl (fun sc x hx env whole => ?_) (fun _ _ _ _ => rfl) fun X sc top ok x hx => ?_
  · cases x <;> first | rfl | exact nomatch hx
  · unfold Km.lrng2 Km.ofE at hx
    split at hx
    · rename_i f px r pr y z p1 p2
      simp only [Bool.and_eq_true] at hx
      obtain ⟨⟨⟨⟨⟨⟨⟨⟨⟨h1, h2⟩, h3⟩, h4⟩, h5⟩, h6⟩, h7⟩, h8⟩, h9⟩, h10⟩ := hx
      have e1 := eq_of_beq h1
      have e2 := eq_of_beq h2
      subst e1 e2
      have hg : Gl X "list" := (show X.env.scope.names.lookup _ = _ by rw [ok.sc]; exact glB_iff h3)
      have hg2 : Gl X "range" := (show X.env.scope.names.lookup _ = _ by rw [ok.sc]; exact glB_iff h4)
      refine PE.imp (pe_listRg ok.calm hg (ok.wd.none_ _ h5) (prg_2 hg2 (ok.wd.none_ _ h6) (sa.e X sc top ok y h7) (sb.e X sc top ok z h8) (star_cons h9) (star_cons h10) (star_any fun w hw => by simp at hw; subst hw; exact h10)) (star_cons rfl)) fun τ H Q ⟨ι, σ, h, re, rh, q⟩ => ?_
      refine tR.seq (RA := RV T) re rh q fun ι1 a1 h1 b1 H1 F re1 ra q1 => ?_
      refine tR.seq (RA := RV T) re1 F.rh q1 fun ι2 a2 h2 b2 H2 F2 re2 rb q2 => ?_
      exact lrng_end F2.rh (ra.fut F2) rb q2
    · cases hx
/-! ### rows -/
theorem snd_nil : Snd C T N c .nil := by
  refine ⟨(fun X sc top ok x hx => nomatch hx), (fun X sc top ok x hx => nomatch hx), (fun X sc top ok op l p hx => nomatch hx), fun X sc top ok es hx => ?_, fun X sc top ok ns ks hx => ?_, (fun X sc top ok x hx => nomatch hx), (fun X sc top ok x hx => nomatch hx), fun X sc top ok es hx => ?_, fun X sc top ok o hx => ?_, fun X sc top ok l hx => ?_⟩
  · have hx : es.isEmpty = true := hx
    rw [List.isEmpty_iff] at hx
    subst hx
    exact ⟨fun pos pins s τ H Q I ⟨ι, σ, h, re, rh, q⟩ => pa_nil.run pos pins s τ H Q I (q.here rh .nil)⟩
  · have hx : ks.isEmpty = true := hx
    rw [List.isEmpty_iff] at hx
    subst hx
    exact ⟨fun pos pins s τ H Q I ⟨ι, σ, h, re, rh, q⟩ => pk_nil.run pos pins s τ H Q I (q.here rh .nil)⟩
  · have hx : es.isEmpty = true := hx
    rw [List.isEmpty_iff] at hx
    subst hx
    refine ⟨fun pins s τ H vs us Q I r ⟨ι, σ, h, xs, re, rh, rs, q⟩ => pgs_nil.run pins s τ H vs us Q I r ?_⟩
    cases xs with
    | nil =>
      cases rs
      exact ⟨rfl, q.here rh ⟨re, .refl⟩⟩
    | cons _ _ => exact q.elim
  · have hx : o.isNone = true := hx
    cases o with
    | some _ => cases hx
    | none => exact ⟨fun pins s τ H Q I ⟨ι, σ, h, re, rh, q⟩ => po_none.run pins s τ H Q I (q.here rh rfl)⟩
  · have hx : l.isEmpty = true := hx
    rw [List.isEmpty_iff] at hx
    subst hx
    exact ⟨fun pins s τ H Q I ⟨ι, σ, h, re, rh, q⟩ => pts_nil.run pins s τ H Q I (q.here rh rfl)⟩
theorem assign_cons {x : Expr} {es : List Expr} {env : Env} (h : notStar x = true) : (assignEach (x :: es) env).map (·.2) = assign x env :: (assignEach es env).map (·.2) := by
  cases x <;> first | rfl | cases h
theorem snd_cons {a r : ME} (sa : Snd C T N c a) (sr : Snd C T N c r) : Snd C T N c (.cons a r) := by
  refine ⟨(fun X sc top ok x hx => nomatch hx), (fun X sc top ok x hx => nomatch hx), (fun X sc top ok op l p hx => nomatch hx), fun X sc top ok es hx => ?_, fun X sc top ok ns ks hx => ?_, (fun X sc top ok x hx => nomatch hx), (fun X sc top ok x hx => nomatch hx), fun X sc top ok es hx => ?_, (fun X sc top ok o hx => nomatch hx), (fun X sc top ok l hx => nomatch hx)⟩
  · cases es with
    | nil => exact nomatch hx
    | cons y t =>
      have hx : ((ck C N a).e sc y && notStar y && (ck C N r).l sc t) = true := hx
      simp only [Bool.and_eq_true] at hx
      obtain ⟨⟨h1, h2⟩, h3⟩ := hx
      have p := pa_cons (sa.e X sc top ok y h1) (sr.l X sc top ok t h3) (star_cons h2)
      refine ⟨fun pos pins s τ H Q I ⟨ι, σ, h, re, rh, q⟩ => p.run pos pins s τ H Q I ?_⟩
      refine tR.seq (RA := RV T) re rh q fun ι1 a1 h1 b1 H1 F re1 ra q1 => ?_
      refine tR.seq (RA := RVs T) re1 F.rh q1 fun ι2 a2 h2 b2 H2 F2 re2 rb q2 => ?_
      exact q2.here F2.rh (.cons (ra.fut F2) rb)
  · cases ks with
    | nil => exact nomatch hx
    | cons y t =>
      obtain ⟨o, y, p⟩ := y
      cases o with
      | none => exact nomatch hx
      | some n =>
      have hx : ((ck C N a).e sc y && (ck C N r).k sc ns t) = true := hx
      simp only [Bool.and_eq_true] at hx
      obtain ⟨h1, h3⟩ := hx
      have p := pk_cons (nm := some n) (kpos := p) (sa.e X sc top ok y h1) (sr.k X sc top ok ns t h3)
      refine ⟨fun pos pins s τ H Q I ⟨ι, σ, h, re, rh, q⟩ => p.run pos pins s τ H Q I ?_⟩
      refine tR.seq (RA := RV T) re rh q fun ι1 a1 h1 b1 H1 F re1 ra q1 => ?_
      refine tR.seq (RA := RVs T) re1 F.rh q1 fun ι2 a2 h2 b2 H2 F2 re2 rb q2 => ?_
      exact q2.here F2.rh (.cons (ra.fut F2) rb)
  · cases es with
    | nil => exact nomatch hx
    | cons y t =>
      have hx : ((ck C N a).g sc top y && notStar y && (ck C N r).gs sc top t) = true := hx
      simp only [Bool.and_eq_true] at hx
      obtain ⟨⟨h1, h2⟩, h3⟩ := hx
      have p := pgs_cons (sa.g X sc top ok y h1) (sr.gs X sc top ok t h3) (assign_cons h2)
      refine ⟨fun pins s τ H vs us Q I rv ⟨ι, σ, h, xs, re, rh, rs, q⟩ => p.run pins s τ H vs us Q I rv ?_⟩
      cases rs with
      | nil => exact q.elim
      | @cons x v xs vs ra rs =>
        refine ⟨v, vs, rfl, ?_⟩
        have q : PQ X T τ ι h H (RSl T ((ck C N a).sl ++ (ck C N r).sl) τ) (((ev c a).g x σ h).bind fun σ1 h1 => noExc ((ev c r).gs xs σ1 h1)) Q := q
        refine ⟨ι, σ, h, x, re, rh, ra, ?_⟩
        cases e : (ev c a).g x σ h with
        | bad => rw [e] at q; exact q
        | exc y h' => rw [e] at q; exact q
        | ok σ1 h1 =>
          rw [e] at q
          intro ι1 H1 τ1 F ⟨re1, cg⟩
          refine ⟨ι1, σ1, h1, xs, re1, F.rh, rs.fut F, ?_⟩
          have q : PQ X T τ ι h H (RSl T ((ck C N a).sl ++ (ck C N r).sl) τ) (noExc ((ev c r).gs xs σ1 h1)) Q := q
          cases e2 : (ev c r).gs xs σ1 h1 with
          | bad => rw [e2] at q; exact q
          | exc y h' => rw [e2] at q; exact False.elim q
          | ok σ2 h2 =>
            rw [e2] at q
            exact fun ι2 H2 τ2 F2 ⟨re2, cg2⟩ => q ι2 H2 τ2 (F.trans F2) ⟨re2, (cg.mono fun j hj => List.mem_append_left _ hj).trans (cg2.mono fun j hj => List.mem_append_right _ hj)⟩

/-! ### what is walked -/
theorem rit_lst {ι : Io} {h : MH} {H : Hp} {a : Nat} {xs : List MV} (hi : a < h.sz) (rh : RH T ι h H) (e : lstAt h a = some xs) : (∃ vs, SqL T.K H (ι a) vs) ∧ RIt T ι h.sz H (.lst a) (Itl T.K (ι a)) := by
  obtain ⟨vs, hs, _⟩ := rh.lst hi e
  refine ⟨⟨vs, hs⟩, fun h0 h' ι' H' e0 F i => ?_⟩
  have hi0 : a < h0.sz := by rw [e0]; exact hi
  have hi' : a < h'.sz := Nat.lt_of_lt_of_le hi0 F.le
  have ea : ι' a = ι a := F.ag a hi0
  unfold IT.at
  simp only
  cases e1 : lstAt h' a with
  | none => exact ⟨(fun z => nomatch z), (fun v z => nomatch z)⟩
  | some ys =>
    obtain ⟨ws, hs', rs⟩ := F.rh.lst hi' e1
    rw [ea] at hs'
    refine ⟨fun z => ⟨ws, hs', ?_⟩, fun v z => ?_⟩
    · have z := Option.some.inj z
      rw [nth_eq] at z
      rw [← rs.length]
      exact List.getElem?_eq_none_iff.mp z
    · have z := Option.some.inj z
      rw [nth_eq] at z
      obtain ⟨w, e2, rw'⟩ := rs.get z
      refine ⟨⟨ws, w, hs', e2⟩, fun x H2 y => ?_⟩
      obtain ⟨rfl, y⟩ := y
      have := y ws hs'
      rw [e2] at this
      cases this
      exact ⟨ι', .refl F.rh, rw'⟩
theorem rit_tup {ι : Io} {n : Nat} {H : Hp} {xs : List MV} {a : Addr} {vs : List V} (hs : SqT T.K H a vs) (rs : RVs T ι n H xs vs) : RIt T ι n H (.seq xs) (Itt T.K a) := fun h0 h' ι' H' e0 F i => by
  subst e0
  have hs' := F.tk _ _ hs
  have rs' := rs.fut F
  unfold IT.at
  simp only
  refine ⟨fun z => ⟨vs, hs', ?_⟩, fun v z => ?_⟩
  · have z := Option.some.inj z
    rw [nth_eq] at z
    rw [← rs'.length]
    exact List.getElem?_eq_none_iff.mp z
  · have z := Option.some.inj z
    rw [nth_eq] at z
    obtain ⟨w, e2, rw'⟩ := rs'.get z
    refine ⟨⟨vs, w, hs', e2⟩, fun x H2 y => ?_⟩
    obtain ⟨rfl, y⟩ := y
    have := y vs hs'
    rw [e2] at this
    cases this
    exact ⟨ι', .refl F.rh, rw'⟩
theorem rit_rng {ι : Io} {n : Nat} {H : Hp} (lo hi : Int) : RIt T ι n H (.rng lo hi) (Itr lo (hi - lo).toNat) := fun h0 h' ι' H' e0 F i => by
  unfold IT.at
  simp only
  refine ⟨fun z => ?_, fun v z => ?_⟩
  · have z := Option.some.inj z
    by_cases hc : lo + i < hi
    · rw [if_pos hc] at z; cases z
    · show (hi - lo).toNat ≤ i
      omega
  · have z := Option.some.inj z
    by_cases hc : lo + i < hi
    · rw [if_pos hc] at z
      cases z
      refine ⟨by show i < (hi - lo).toNat; omega, fun x H2 y => ?_⟩
      obtain ⟨rfl, rfl⟩ := y
      exact ⟨ι', .refl F.rh, .int _⟩
    · rw [if_neg hc] at z; cases z
theorem snd_iSeq {a : ME} (sa : Snd C T N c a) : Snd C T N c (.iSeq a) := by
  refine Snd.no (fun _ _ => rfl) (fun _ _ => rfl) (fun _ _ _ => rfl) (fun _ _ => rfl) (fun _ _ => rfl) (fun _ _ _ => rfl) (fun X sc top ok x hx tg => ?_) (fun X sc top ok x hx => nomatch hx)
  have pe := sa.e X sc top ok x hx
  refine ⟨fun pins s τ H R I ⟨ι, σ, h, re, rh, q⟩ => ?_⟩
  have q : PQ X T τ ι h H (RIt T) (((ev c a).e σ h).bind Sm.iSeqV) R := q
  cases e : (ev c a).e σ h with
  | bad => rw [e] at q; exact q.elim
  | exc y h' =>
    have z : tE X T (ev c a).e τ H (fun _ _ => False) := ⟨ι, σ, h, re, rh, by rw [e] at q ⊢; exact q⟩
    refine thn (pe.run pins s τ H _ I z) fun v s1 ⟨x, H1, I1, r1, q1⟩ => q1.elim
  | ok v h1 =>
    rw [e] at q
    have q : PQ X T τ ι h H (RIt T) (Sm.iSeqV v h1) R := q
    unfold Sm.iSeqV at q
    split at q
    · have z : iTup X.K (tE X T (ev c a).e) τ H R := ⟨ι, σ, h, re, rh, by
        rw [e]
        intro ι1 H1 b F rb
        cases rb with
        | tup ht rt => exact ⟨_, rfl, ⟨_, ok.K ▸ ht⟩, q ι1 H1 _ F (ok.K ▸ rit_tup ht rt)⟩⟩
      exact (pi_tup pe).run pins s τ H R I z
    · split at q
      · rename_i xs el
        have z : iList X.K (tE X T (ev c a).e) τ H R := ⟨ι, σ, h, re, rh, by
          rw [e]
          intro ι1 H1 b F rb
          cases rb with
          | ref hi =>
            obtain ⟨w1, w2⟩ := rit_lst hi F.rh el
            exact ⟨_, rfl, ok.K ▸ w1, q ι1 H1 _ F (ok.K ▸ w2)⟩⟩
        exact (pi_list pe).run pins s τ H R I z
      · exact q.elim
    · exact q.elim
theorem iRng_end {X : L2.Cx} {τ : St} {ι : Io} {h : MH} {H : Hp} {x y : MV} {v u : V} {R : It → Hp → Prop} (rh : RH T ι h H) (ra : RV T ι h.sz H x v) (rb : RV T ι h.sz H y u) (q : PQ X T τ ι h H (RIt T) (Sm.iRngV x y h) R) :
    ∃ i j, v = .int i ∧ u = .int j ∧ (-(2 ^ 62) ≤ i ∧ i < 2 ^ 62 ∧ -(2 ^ 62) ≤ j ∧ j < 2 ^ 62) ∧ R (Itr i (j - i).toNat) H := by
  unfold Sm.iRngV at q
  split at q
  · cases ra; cases rb
    rcases PQ.bif q with ⟨e, q⟩ | ⟨_, q⟩
    · simp only [Bool.and_eq_true] at e
      obtain ⟨e1, e2⟩ := e
      have b1 := in62_iff e1
      have b2 := in62_iff e2
      exact ⟨_, _, rfl, rfl, ⟨b1.1, b1.2, b2.1, b2.2⟩, q.here rh (rit_rng _ _)⟩
    · exact q.elim
  · exact q.elim
theorem snd_iRng1 {b : ME} (sb : Snd C T N c b) : Snd C T N c (.iRng1 b) := by
  refine Snd.no (fun _ _ => rfl) (fun _ _ => rfl) (fun _ _ _ => rfl) (fun _ _ => rfl) (fun _ _ => rfl) (fun _ _ _ => rfl) (fun X sc top ok x hx tg => ?_) (fun X sc top ok x hx => nomatch hx)
  have hx : Km.iRng1B C (ck C N b) sc x = true := hx
  unfold Km.iRng1B at hx
  split at hx
  · rename_i pr y p _
    simp only [Bool.and_eq_true] at hx
    obtain ⟨⟨⟨⟨h1, h2⟩, h3⟩, h4⟩, h5⟩ := hx
    have e1 := eq_of_beq h1
    subst e1
    have hg : Gl X "range" := (show X.env.scope.names.lookup _ = _ by rw [ok.sc]; exact glB_iff h2)
    have pi := pi_range1 (tg := tg) (p := pr) (pos := p) hg (ok.wd.none_ _ h3) (pa_cons (sb.e X sc top ok y h4) pa_nil (star_cons h5)) (star_cons h5)
    refine ⟨fun pins s τ H R I ⟨ι, σ, h, re, rh, q⟩ => pi.run pins s τ H R I ?_⟩
    refine tR.seq (RA := RV T) re rh q fun ι1 a1 h1 b1 H1 F re1 ra q1 => ?_
    obtain ⟨i, j, e1, e2, b, z⟩ := iRng_end (x := .int 0) (v := .int 0) F.rh (.int 0) ra q1
    cases e1
    subst e2
    exact ⟨j, rfl, b.2.2.1, b.2.2.2, by simpa using z⟩
  · cases hx
theorem snd_iRng2 {a b : ME} (sa : Snd C T N c a) (sb : Snd C T N c b) : Snd C T N c (.iRng2 a b) := by
  refine Snd.no (fun _ _ => rfl) (fun _ _ => rfl) (fun _ _ _ => rfl) (fun _ _ => rfl) (fun _ _ => rfl) (fun _ _ _ => rfl) (fun X sc top ok x hx tg => ?_) (fun X sc top ok x hx => nomatch hx)
  have hx : Km.iRng2B C (ck C N a) (ck C N b) sc x = true := hx
  unfold Km.iRng2B at hx
  split at hx
  · rename_i pr y z p _
    simp only [Bool.and_eq_true] at hx
    obtain ⟨⟨⟨⟨⟨⟨h1, h2⟩, h3⟩, h4⟩, h5⟩, h6⟩, h7⟩ := hx
    have e1 := eq_of_beq h1
    subst e1
    have hg : Gl X "range" := (show X.env.scope.names.lookup _ = _ by rw [ok.sc]; exact glB_iff h2)
    have pi := pi_range2 (tg := tg) (p := pr) (pos := p) hg (ok.wd.none_ _ h3) (pa_cons (sa.e X sc top ok y h4) (pa_cons (sb.e X sc top ok z h5) pa_nil (star_cons h7)) (star_cons h6)) (by rw [star_cons h6, star_cons h7]; rfl) (by rw [star_cons h7]; rfl)
    refine ⟨fun pins s τ H R I ⟨ι, σ, h, re, rh, q⟩ => pi.run pins s τ H R I ?_⟩
    refine tR.seq (RA := RV T) re rh q fun ι1 a1 h1 b1 H1 F re1 ra q1 => ?_
    refine tR.seq (RA := RV T) re1 F.rh q1 fun ι2 a2 h2 b2 H2 F2 re2 rb q2 => ?_
    obtain ⟨i, j, e1, e2, b, z⟩ := iRng_end F2.rh (ra.fut F2) rb q2
    subst e1 e2
    exact ⟨i, j, rfl, b, z⟩
  · cases hx
end
end Mp
/-! MpJ: targets, comprehensions; all expressions. -/
namespace Mp
open PySem L2
section
variable {C : Ck} {T : Tb} {N : List Str} {c : Ctx} {m : ME}
theorem locB_iff {sc : Scope} {top : Bool} {x : Str} (h : locB sc top x = true) : L2.Loc sc x ∧ (sc.names.lookup x = some .local ∨ top = true) := by
  unfold locB at h
  unfold L2.Loc
  split at h
  · exact ⟨.inl (by assumption), .inl (by assumption)⟩
  · exact ⟨.inr (by assumption), .inr h⟩
  · cases h
theorem snd_gNm (i : Nat) : Snd C T N c (.gNm i) := by
  refine Snd.no (fun _ _ => rfl) (fun _ _ => rfl) (fun _ _ _ => rfl) (fun _ _ => rfl) (fun _ _ => rfl) (fun _ _ _ => rfl) (fun X sc top ok x hx tg => nomatch hx) (fun X sc top ok x hx => ?_)
  have hx : Km.gNmB N i sc top x = true := hx
  cases x with
  | Name x p =>
    have hx : (N[i]? == some x && locB sc top x) = true := hx
    simp only [Bool.and_eq_true] at hx
    obtain ⟨h1, h2⟩ := hx
    have e1 := eq_of_beq h1
    obtain ⟨l1, l2⟩ := locB_iff h2
    have pg := pg_name (X := X) (pos := p) (by rw [ok.N]; exact ok.nd) (by rw [ok.N]; exact e1) (by rw [ok.sc]; exact l1) (l2.elim (fun z => .inr (by rw [ok.sc]; exact z)) fun z => .inl (ok.top z x))
    refine ⟨fun pins s τ H v u Q I r ⟨ι, σ, h, a, re, rh, ra, q⟩ => pg.run pins s τ H v u Q I r ?_⟩
    exact q.here rh ⟨re.set ra i, .one⟩
  | _ => exact nomatch hx
theorem gs_star : ∀ (m : ME) (sc : Scope) (top : Bool) (l : List Expr), (ck C N m).gs sc top l = true → (∀ x ∈ l, notStar x = true) ∧ ∀ vs σ h σ' h', (ev c m).gs vs σ h = .ok σ' h' → vs.length = l.length := by
  intro m
  induction m with
  | nil =>
    intro sc top l h
    have h : l.isEmpty = true := h
    rw [List.isEmpty_iff] at h
    subst h
    refine ⟨(fun x hx => nomatch hx), fun vs σ h σ' h' e => ?_⟩
    cases vs with
    | nil => rfl
    | cons _ _ => exact nomatch e
  | cons a r _ ihr =>
    intro sc top l h
    cases l with
    | nil => exact nomatch h
    | cons y t =>
      have h : ((ck C N a).g sc top y && notStar y && (ck C N r).gs sc top t) = true := h
      simp only [Bool.and_eq_true] at h
      obtain ⟨i1, i2⟩ := ihr sc top t h.2
      refine ⟨fun x hx => ?_, fun vs σ h0 σ' h' e => ?_⟩
      · rcases List.mem_cons.mp hx with rfl | hx
        · exact h.1.2
        · exact i1 x hx
      · cases vs with
        | nil => exact nomatch e
        | cons v us =>
          have e : (((ev c a).g v σ h0).bind fun σ1 h1 => noExc ((ev c r).gs us σ1 h1)) = Out.ok σ' h' := e
          cases e1 : (ev c a).g v σ h0 with
          | ok σ1 h1 =>
            rw [e1] at e
            show us.length + 1 = t.length + 1
            have e : noExc ((ev c r).gs us σ1 h1) = Out.ok σ' h' := e
            cases e2 : (ev c r).gs us σ1 h1 with
            | ok σ2 h2 => rw [i2 us σ1 h1 σ2 h2 e2]
            | exc _ _ => rw [e2] at e; exact nomatch e
            | bad => rw [e2] at e; exact nomatch e
          | exc _ _ => rw [e1] at e; exact nomatch e
          | bad => rw [e1] at e; exact nomatch e
  | _ => intro sc top l h; exact nomatch h
theorem each_len {env : Env} : ∀ {es : List Expr}, (∀ x ∈ es, notStar x = true) → (assignEach es env).length = es.length ∧ (assignEach es env).findIdx? (·.1) = none
  | [], _ => ⟨rfl, rfl⟩
  | x :: es, h => by
    obtain ⟨a1, a2⟩ := each_len (env := env) fun y hy => h y (List.mem_cons_of_mem _ hy)
    have e : assignEach (x :: es) env = (false, assign x env) :: assignEach es env := by
      have := h x List.mem_cons_self
      cases x <;> first | rfl | cases this
    rw [e]
    refine ⟨by simp [a1], ?_⟩
    rw [List.findIdx?_cons]
    simp [a2]
theorem snd_gTup {ts : ME} (st : Snd C T N c ts) : Snd C T N c (.gTup ts) := by
  refine Snd.no (fun _ _ => rfl) (fun _ _ => rfl) (fun _ _ _ => rfl) (fun _ _ => rfl) (fun _ _ => rfl) (fun _ _ _ => rfl) (fun X sc top ok x hx tg => nomatch hx) (fun X sc top ok x hx => ?_)
  have hx : Km.gTupB (ck C N ts) sc top x = true := hx
  cases x with
  | Tuple l k p =>
    have hx : (ck C N ts).gs sc top l = true := hx
    obtain ⟨g1, g2⟩ := gs_star (c := c) ts sc top l hx
    obtain ⟨a1, a2⟩ := each_len (env := X.env) g1
    have pg := pg_tup (k := k) (pos := p) ok.calm (st.gs X sc top ok l hx) a1 a2
    refine ⟨fun pins s τ H v u Q I r ⟨ι, σ, h, a, re, rh, ra, q⟩ => pg.run pins s τ H v u Q I r ?_⟩
    have q : PQ X T τ ι h H (RSl T (ck C N ts).sl τ) (Sm.gTupV (ev c ts) a σ h) Q := q
    unfold Sm.gTupV at q
    split at q
    · rename_i xs _
      cases ra with
      | @tup ad _ vs hs rs =>
        cases e0 : (ev c ts).gs xs σ h with
        | bad => rw [e0] at q; exact False.elim q
        | ok σ1 h1 =>
          rw [e0] at q
          have hl := g2 xs σ h _ _ e0
          exact ⟨ad, vs, rfl, ok.K ▸ hs, by rw [← rs.length]; exact hl, ι, σ, h, xs, re, rh, rs, by rw [e0]; exact q⟩
        | exc y h' => rw [e0] at q; exact False.elim q
    · exact q.elim
  | _ => exact nomatch hx
theorem snd_gIx {a i : ME} (sa : Snd C T N c a) (si : Snd C T N c i) : Snd C T N c (.gIx a i) := by
  refine Snd.no (fun _ _ => rfl) (fun _ _ => rfl) (fun _ _ _ => rfl) (fun _ _ => rfl) (fun _ _ => rfl) (fun _ _ _ => rfl) (fun X sc top ok x hx tg => nomatch hx) (fun X sc top ok x hx => ?_)
  have hx : Km.gIxB (ck C N a) (ck C N i) sc top x = true := hx
  cases x with
  | Subscript x y p =>
    have hx : ((ck C N a).e sc x && (ck C N i).e sc y && notSlice y) = true := hx
    simp only [Bool.and_eq_true] at hx
    obtain ⟨⟨h1, h2⟩, h3⟩ := hx
    have pg := pg_sub (pos := p) (sa.e X sc top ok x h1) (si.e X sc top ok y h2) (set_list (X := X)) (by intro v; cases y <;> first | rfl | cases h3)
    refine ⟨fun pins s τ H v u Q I r ⟨ι, σ, h, b, re, rh, rb, q⟩ => pg.run pins s τ H v u Q I r ?_⟩
    have q : PQ X T τ ι h H (RSl T [] τ) (((ev c a).e σ h).bind fun x h1 => ((ev c i).e σ h1).bind fun y h2 => (giv (Sm.setV b x y h2) h2).bind fun h3 _ => .ok σ h3) Q := q
    refine tR.seq (RA := RV T) re rh q fun ι1 a1 h1 b1 H1 F re1 ra q1 => ?_
    refine tR.seq (RA := RV T) re1 F.rh q1 fun ι2 a2 h2 b2 H2 F2 re2 rc q2 => ?_
    have ra := ra.fut F2
    have rb := (rb.fut F).fut F2
    cases e : Sm.setV b a1 a2 h2 with
    | none => rw [e] at q2; exact q2.elim
    | some h3 =>
      rw [e] at q2
      have q2 : PQ X T τ ι2 h2 H2 (RSl T [] τ) (.ok σ h3) Q := q2
      unfold Sm.setV at e
      split at e
      · split at e
        · rename_i xs em
          split at e
          · rename_i j ej
            cases e
            cases rc
            cases ra with
            | ref hi =>
              obtain ⟨_, vs, e3, rs⟩ := F2.rh.mut hi em
              have W := F2.rh.wr hi em (rs.set rb j)
              refine ⟨_, vs, _, j, rfl, rfl, e3, by rw [← rs.length]; exact ej, ?_⟩
              exact q2 ι2 _ τ W ⟨re2.fut W, .refl⟩
          · cases e
        · cases e
      · cases e
  | _ => exact nomatch hx
end
end Mp
/-! MpK: comprehensions; all expressions. -/
namespace Mp
open PySem L2
section
variable {X : L2.Cx} {T : Tb} {τ : St} {ι ι' : Io} {h h' : MH} {H H' : Hp} {α β γ δ ε : Type} {RA : Rl α β} {RG : Rl γ δ}
/-- what is read where no exception may leave -/
def tR0 (T : Tb) {α β : Type} (RA : Rl α β) (f : En → MH → Out α) : St → Hp → (β → Hp → Prop) → Prop := fun τ H Q =>
  ∃ ι σ h, RE T ι h.sz H σ τ ∧ RH T ι h H ∧ ∃ a h', f σ h = .ok a h' ∧ ∀ ι' H' b, Fut T ι h H ι' h' H' → RA ι' h'.sz H' a b → Q b H'
theorem tR0.tR {f : En → MH → Out α} {Q : β → Hp → Prop} (q : tR0 T RA f τ H Q) : tR X T RA f τ H Q := by
  obtain ⟨ι, σ, h, re, rh, a, h', e, q⟩ := q
  exact ⟨ι, σ, h, re, rh, by rw [e]; exact q⟩
def tG0 (T : Tb) (sl : List Nat) (f : MV → En → MH → Out En) : TG := fun x τ H Q =>
  ∃ ι σ h v, RE T ι h.sz H σ τ ∧ RH T ι h H ∧ RV T ι h.sz H v x ∧ ∃ σ' h', f v σ h = .ok σ' h' ∧ ∀ ι' H' τ', Fut T ι h H ι' h' H' → RSl T sl τ ι' h'.sz H' σ' τ' → Q τ' H'
theorem tG0.tG {sl : List Nat} {f : MV → En → MH → Out En} {x : V} {Q : St → Hp → Prop} (q : tG0 T sl f x τ H Q) : tG X T sl f x τ H Q := by
  obtain ⟨ι, σ, h, v, re, rh, rv, a, h', e, q⟩ := q
  exact ⟨ι, σ, h, v, re, rh, rv, by rw [e]; exact q⟩
theorem nx {r : Out α} {g : α → MH → Out ε} {k : ε → MH → Out γ} {Q : δ → Hp → Prop} (q : PQ X T τ ι h H RG (noExc ((r.bind g).bind k)) Q) : ∃ a h1, r = .ok a h1 ∧ PQ X T τ ι h H RG (noExc ((g a h1).bind k)) Q := by
  cases r with
  | ok a h1 => exact ⟨a, h1, rfl, q⟩
  | exc _ _ => exact False.elim q
  | bad => exact False.elim q
end
section
variable {C : Ck} {T : Tb} {N : List Str} {c : Ctx} {m : ME}
theorem OkX.blk {X : L2.Cx} {sc : Scope} {top : Bool} (ok : OkX C T N c X sc top) (s : Shared) (H : Hp) (scope : Scope) (cl : List (Str × Addr)) (L : Addr) (fp : List Addr) :
    OkX C T N c (X.blk s H scope (compEnvC scope cl L X.env) fp) (relS scope sc) false :=
  ⟨ok.nd, ok.N, by rw [← ok.sc]; rfl, ok.calm, ok.K, ok.un, (fun z => nomatch z), ok.wd⟩
theorem lcGo_succ (tg : MV → En → MH → Out En) (cond : En → MH → Out Bool) (elt : En → MH → Out MV) (it : IT) (D : Nat) (σ : En) (n i : Nat) (h : MH) :
    lcGo tg cond elt it D σ (n + 1) i h = match it.at i h with
      | none => .bad
      | some none => .ok () h
      | some (some v) => (tg v σ h).bind fun σ1 h1 => (cond σ1 h1).bind fun b h2 =>
        bif b then (elt σ1 h2).bind fun y h3 => match mutAt h3 D with
          | some acc => bif Nat.blt acc.length szL then lcGo tg cond elt it D σ n (i + 1) (h3.set D (.lst false (acc ++ [y]))) else .bad
          | none => .bad
        else lcGo tg cond elt it D σ n (i + 1) h2 := rfl
/-- a comprehension's parts -/
theorem lc_parts {tg it cond elt : ME} (own : List Nat) (sg : Snd C T N c tg) (si : Snd C T N c it) (sd : Snd C T N c cond) (se : Snd C T N c elt) (X : L2.Cx) (sc : Scope) (top : Bool) (ok : OkX C T N c X sc top) (x : Expr)
    (hx : Km.lcB N (ck C N tg) (ck C N it) (ck C N cond) (ck C N elt) own sc x = true) : ∃ y t i ifs scope p own' wi g tt te, x = .ListComp y [⟨t, i, ifs, 0⟩] scope p ∧ PI X t i wi ∧ BlkOk X.N X.env.scope scope own' ∧
      (∀ (s : Shared) (H : Hp) (L : Addr) (cl : List (Str × Addr)) (fp : List Addr), PG (X.blk s H scope (compEnvC scope cl L X.env) fp) t g) ∧
      (∀ (s : Shared) (H : Hp) (L : Addr) (cl : List (Str × Addr)) (fp : List Addr), PTs (X.blk s H scope (compEnvC scope cl L X.env) fp) ifs tt) ∧
      (∀ (s : Shared) (H : Hp) (L : Addr) (cl : List (Str × Addr)) (fp : List Addr), PE (X.blk s H scope (compEnvC scope cl L X.env) fp) y te) ∧ (∀ z, foldedSetIterable i X.env z = pure z) ∧
      ∀ τ H Q, tE X T (Sm.lc c (ev c tg) (ev c it) (ev c cond) (ev c elt) own).e τ H Q → tLc wi g tt te (own'.map (·.2)) τ H Q := by
    unfold Km.lcB at hx
    split at hx
    · rename_i y t i ifs scope p
      simp only [Bool.and_eq_true, decide_eq_true_eq] at hx
      obtain ⟨⟨⟨⟨⟨⟨⟨h1, h2⟩, h3⟩, h4⟩, h5⟩, h6⟩, h7⟩, h8⟩ := hx
      have pi := si.i X sc top ok i h1 t
      have bo : BlkOk X.N X.env.scope scope (ownS N own) := by rw [ok.N, ok.sc]; exact blkOk_by h3
      have hsl : ∀ j ∈ (ck C N tg).sl, j ∈ own := fun j hj => by
        have := List.all_eq_true.mp h6 j hj
        simpa using this
      refine ⟨y, t, i, ifs, scope, p, ownS N own, _, tG0 T (ck C N tg).sl (ev c tg).g, tR0 T (fun _ _ _ a b => a = b) (ev c cond).t, tR0 T (RV T) (ev c elt).e, rfl, pi, bo,
        (fun s H L cl fp => ⟨fun pins s' τ H' v u Q I r q => (sg.g _ _ false (ok.blk s H scope cl L fp) t h5).run pins s' τ H' v u Q I r q.tG⟩),
        (fun s H L cl fp => ⟨fun pins s' τ H' Q I q => (sd.c _ _ false (ok.blk s H scope cl L fp) ifs h7).run pins s' τ H' Q I q.tR⟩),
        (fun s H L cl fp => PE.imp (se.e _ _ false (ok.blk s H scope cl L fp) y h8) fun τ H Q q => q.tR), (fun x => by cases i <;> first | rfl | cases h2), fun τ H Q ⟨ι, σ, h, re, rh, q⟩ => ?_⟩
      rw [h4]
      refine tR.seq (RA := RIt T) re rh q fun ι1 w h1 J H1 F re1 rit q1 => ?_
      intro D hD
      have F2 := F.rh.new hD (xs := []) (vs := []) .nil
      have q2 := PQ.fut F2 q1
      generalize eι : pushI ι1 h1 D = ι2 at F2 q2
      have eD : ι2 h1.sz = D := by rw [← eι]; exact pushI_new
      generalize eh : h1.push (.lst false []) = h2 at F2 q2
      have sz2 : h1.sz < h2.sz := by rw [← eh]; exact Nat.lt_succ_self _
      generalize eH : upd H1 D (.lst []) = H2 at F2 q2
      generalize ek : (fun (_ : Unit) (h2 : MH) => (Out.ok (MV.ref h1.sz) h2 : Out MV)) = k at q2
      refine ⟨fun i m H' => ∃ ι' h', Fut T ι2 h2 H2 ι' h' H' ∧ PQ X T τ ι' h' H' (RV T) (noExc ((lcGo (ev c tg).g (ev c cond).t (ev c elt).e w h1.sz (wipeE σ own) m i h').bind k)) Q, ⟨c.fuel, ι2, h2, .refl F2.rh, q2⟩, ?_⟩
      rintro i m H' ⟨ι', h', F', q'⟩
      cases m with
      | zero => exact False.elim q'
      | succ n =>
        rw [lcGo_succ] at q'
        obtain ⟨r1, r2⟩ := rit h1 h' ι' H' rfl (F2.trans F') i
        have eD' : ι' h1.sz = D := (F'.ag _ sz2).trans eD
        cases e : w.at i h' with
        | none => rw [e] at q'; exact False.elim q'
        | some o =>
          rw [e] at q'
          cases o with
          | none =>
            refine .inl ⟨r1 e, ?_⟩
            have q' : PQ X T τ ι' h' H' (RV T) (noExc (k () h')) Q := q'
            rw [← ek] at q'
            have z : RV T ι' h'.sz H' (.ref h1.sz) (.ref (ι' h1.sz)) := .ref (Nat.lt_of_lt_of_le sz2 F'.le)
            rw [eD'] at z
            exact q' ι' H' _ (.refl F'.rh) z
          | some v =>
            obtain ⟨go, yl⟩ := r2 v e
            refine .inr ⟨go, fun H' => ∃ ι' h', Fut T ι2 h2 H2 ι' h' H' ∧ PQ X T τ ι' h' H' (RV T) (noExc ((lcGo (ev c tg).g (ev c cond).t (ev c elt).e w h1.sz (wipeE σ own) n (i + 1) h').bind k)) Q,
              fun H3 w3 => ⟨n, Nat.lt_succ_self _, w3⟩, fun x H3 y3 => ?_⟩
            obtain ⟨ι3, F3, rv⟩ := yl x H3 y3
            have G3 := F'.trans F3
            have re3 := ((re1.fut F2).fut G3).wipe own
            have q' := PQ.fut F3 q'
            obtain ⟨σ1, h4, e4, q4⟩ := nx q'
            refine ⟨ι3, wipeE σ own, h', v, re3, F3.rh, rv, σ1, h4, e4, fun ι4 H4 τ1 F4 ⟨re4, cg⟩ => ⟨(cg.mono hsl).wiped, ?_⟩⟩
            have q4 := PQ.fut F4 q4
            obtain ⟨b, h5, e5, q5⟩ := nx q4
            refine ⟨ι4, σ1, h4, re4, F4.rh, b, h5, e5, fun ι5 H5 b' F5 eb => ?_⟩
            subst eb
            have q5 := PQ.fut F5 q5
            have re5 := re4.fut F5
            cases b with
            | false => exact ⟨ι5, h5, (G3.trans F4).trans F5, q5⟩
            | true =>
              rw [if_pos rfl]
              obtain ⟨y, h6, e6, q6⟩ := nx (show PQ X T τ ι5 h5 H5 (RV T) (noExc ((((ev c elt).e σ1 h5).bind fun y h3 => match mutAt h3 h1.sz with
                | some acc => bif Nat.blt acc.length szL then lcGo (ev c tg).g (ev c cond).t (ev c elt).e w h1.sz (wipeE σ own) n (i + 1) (h3.set h1.sz (.lst false (acc ++ [y]))) else .bad
                | none => .bad).bind k)) Q from q5)
              refine ⟨ι5, σ1, h5, re5, F5.rh, y, h6, e6, fun ι6 H6 yv F6 ry => ?_⟩
              have q6 := PQ.fut F6 q6
              have G6 := ((G3.trans F4).trans F5).trans F6
              cases em : mutAt h6 h1.sz with
              | none => rw [em] at q6; exact False.elim q6
              | some acc =>
                rw [em] at q6
                simp only at q6
                have s6 : h1.sz < h6.sz := Nat.lt_of_lt_of_le sz2 G6.le
                have e6 : ι6 h1.sz = D := (G6.ag _ sz2).trans eD
                obtain ⟨_, vs, e7, rs⟩ := F6.rh.mut s6 em
                have W7 := F6.rh.wr s6 em (rs.append (.cons ry .nil))
                rw [e6] at e7 W7
                cases eb : Nat.blt acc.length szL with
                | false => rw [eb] at q6; exact False.elim q6
                | true =>
                  rw [eb] at q6
                  refine ⟨vs, e7, ?_, ι6, _, G6.trans W7, PQ.fut W7 q6⟩
                  rw [← rs.length, ← szL_eq]
                  exact Nat.le_of_ble_eq_true eb
    · cases hx
theorem snd_lc {tg it cond elt : ME} (own : List Nat) (sg : Snd C T N c tg) (si : Snd C T N c it) (sd : Snd C T N c cond) (se : Snd C T N c elt) : Snd C T N c (.lc tg it cond elt own) := by
  refine Snd.ofE (f := fun σ h => ((ev c it).i σ h).bind fun w h1 =>
    noExc ((lcGo (ev c tg).g (ev c cond).t (ev c elt).e w h1.sz (wipeE σ own) c.fuel 0 (h1.push (.lst false []))).bind fun _ h2 => .ok (.ref h1.sz) h2)) rfl rfl (fun sc x hx env whole => ?_) (fun _ _ _ _ => rfl) fun X sc top ok x hx => ?_
  · cases x <;> first | rfl | exact nomatch hx
  · obtain ⟨y, t, i, ifs, scope, p, own', wi, g, tt, te, rfl, pi, bo, hg, ht, he, hs, imp⟩ := lc_parts own sg si sd se X sc top ok x hx
    exact PE.imp (pe_lc (pos := p) ok.calm (by rw [ok.N]; exact ok.nd) pi bo hg ht he hs) imp

/-! ### all expressions -/
theorem snd (C : Ck) (T : Tb) (N : List Str) (c : Ctx) : ∀ m : ME, Snd C T N c m := by
  intro m
  induction m with
  | cst v => exact snd_cst v
  | var i => exact snd_var i
  | gl g => exact snd_gl g
  | bin op a b ia ib => exact snd_bin op ia ib
  | neg a ia => exact snd_neg ia
  | nt a ia => exact snd_nt ia
  | and2 a b ia ib => exact snd_and ia ib
  | or2 a b ia ib => exact snd_or ia ib
  | cmp op a b ia ib => exact snd_cmp op ia ib
  | cmp2 op op' a b d ia ib id => exact snd_cmp2 op op' ia ib id
  | ife t a b it ia ib => exact snd_ife it ia ib
  | tup es ie => exact snd_tup ie
  | lst es ie => exact snd_lst ie
  | ix a i ia ii => exact snd_ix ia ii
  | sl a lo hi ia il ih => exact snd_sl ia il ih
  | call f es ie => exact snd_call f ie
  | callk f es kws perm ie ik => exact snd_callk f perm ie ik
  | bi f es ie => exact snd_bi f ie
  | isi k a ia => exact snd_isi k ia
  | lc tg it cond elt own ig ii ic ie => exact snd_lc own ig ii ic ie
  | lrng1 b ib => exact snd_lrng1 ib
  | lrng2 a b ia ib => exact snd_lrng2 ia ib
  | nil => exact snd_nil
  | cons a r ia ir => exact snd_cons ia ir
  | iSeq a ia => exact snd_iSeq ia
  | iRng1 b ib => exact snd_iRng1 ib
  | iRng2 a b ia ib => exact snd_iRng2 ia ib
  | gNm i => exact snd_gNm i
  | gTup ts it => exact snd_gTup it
  | gIx a i ia ii => exact snd_gIx ia ii
end
end Mp
/-! MpL: statements. -/
namespace Mp
open PySem L2
/-! ### the look -/
/-- name = a comprehension, on one line: the comprehension's variables are let go behind the store -/
def swB (sc : Scope) (x t : Expr) : Bool := match x with
  | .ListComp _ _ s p => match t with
    | .Name n q => decide (sc.names.lookup n = some .local) && q.line == p.line && !(s.names.any fun (m, k) => m == n && (k == .local || k == .cell))
    | _ => false
  | _ => false
theorem swB_ok {env : Env} {sc : Scope} (hs : env.scope = sc) (hk : sc.kind = .function) {x t : Expr} {l : Nat} (h : notComp x = true ∨ ∃ y g s p, x = .ListComp y g s p) : swapsWith x (some t) l env = pure (swB sc x t) := by
  subst hs
  have hb : env.blockKind = .function := by unfold Env.blockKind; rw [hk]; rfl
  rcases h with h | ⟨y, g, s, p, rfl⟩
  · cases x <;> first | rfl | cases h
  · cases t with
    | Name n q =>
      unfold swapsWith swB
      simp only [hb]
      have e : (env.kindOf n == some NameKind.local) = decide (env.scope.names.lookup n = some .local) := by
        show (env.scope.names.lookup n == some NameKind.local) = _
        cases hc : env.scope.names.lookup n with
        | none => rfl
        | some k => cases k <;> rfl
      rw [e]
      rfl
    | _ => rfl
/-- a, b = x, y by names: which stores go backwards; none: not told by the model -/
def swN (sc : Scope) (ts : List Expr) : List Str := ts.filterMap fun
  | .Name id pos => if sc.names.lookup id == some .local && pos.line == (ts.head?.map (·.pos.line)).getD 0 then some id else none
  | _ => none
def swS (sc : Scope) (t x : Expr) : Option (Option (List Str)) := match t, x with
  | .Tuple ts _ _, .Tuple vs _ _ =>
    if !(ts.length == 2 || ts.length == 3) || vs.length != ts.length then some none
    else if vs.any fun | .Starred .. => true | _ => false then some none
    else if (swN sc ts).length != ts.length || (swN sc ts).eraseDups.length != (swN sc ts).length then some none
    else if vs.all (foldedForSure 8) then some none
    else if vs.all (constantsAlone 8) then none
    else some (some (swN sc ts))
  | .List _ _, .Tuple _ _ _ => none
  | _, _ => some none
theorem swS_ok {env : Env} {sc : Scope} (hs : env.scope = sc) (hk : sc.kind = .function) {x t : Expr} {r : Option (List Str)} (h : swS sc t x = some r) : swappedStores [t] x env = pure r := by
  subst hs
  have hb : env.blockKind = .function := by unfold Env.blockKind; rw [hk]; rfl
  unfold swS at h
  split at h
  · rename_i ts k p vs k2 p2
    unfold swappedStores
    simp only [hb]
    split at h
    · rename_i c
      cases h
      rw [if_pos (by simpa using c)]
    · rename_i c
      rw [if_neg (by simpa using c)]
      show (if (vs.any fun x => match x with | .Starred .. => true | _ => false) = true then pure none
        else if ((swN env.scope ts).length != ts.length || (swN env.scope ts).eraseDups.length != (swN env.scope ts).length) = true then pure none
        else if vs.all (foldedForSure 8) = true then pure none
        else if vs.all (constantsAlone 8) = true then (do unsupported "assign.tuple-of-constant-expressions:order-of-the-stores"; pure (some (swN env.scope ts)))
        else pure (some (swN env.scope ts)) : Sem (Option (List Str))) = pure r
      split at h
      · rename_i c1; cases h; rw [if_pos c1]
      · rename_i c1
        rw [if_neg c1]
        split at h
        · rename_i c2; cases h; rw [if_pos c2]
        · rename_i c2
          rw [if_neg c2]
          split at h
          · rename_i c3; cases h; rw [if_pos c3]
          · rename_i c3
            rw [if_neg c3]
            split at h
            · cases h
            · rename_i c4; cases h; rw [if_neg c4]
  · cases h
  · cases h
    rename_i n1 n2
    cases t <;> first | rfl | (cases x <;> first | rfl | exact (n1 _ _ _ _ _ _ rfl rfl).elim | exact (n2 _ _ _ _ _ rfl rfl).elim)


structure Ks where
  s : Scope → Stmt → Bool
  b : Scope → List Stmt → Bool
def ksS : Scope → Stmt → Bool := fun _ _ => false
def ksB : Scope → List Stmt → Bool := fun _ _ => false
namespace Ks
def ofS (s : Scope → Stmt → Bool) : Ks := ⟨s, ksB⟩
def nil : Ks := ⟨fun _ s => match s with
  | .Pass _ => true
  | _ => false, fun _ l => l.isEmpty⟩
def cons (s r : Ks) : Ks := ⟨ksS, fun sc l => match l with
  | x :: t => s.s sc x && r.b sc t
  | [] => false⟩
/-- a, b = x, y stored from the right -/
noncomputable def parB (C : Ck) (N : List Str) (tg e : ME) (sc : Scope) (ns : List Str) (t x : Expr) : Bool := match e with
  | .tup es => (match tg with
    | .gTup (.cons (.gNm i) (.cons (.gNm j) .nil)) => (match ns, t, x with
      | [x1, x2], .Tuple [.Name y1 _, .Name y2 _] _ _, .Tuple [a, b] _ _ => x1 == y1 && x2 == y2 && N[i]? == some y1 && N[j]? == some y2 && decide (i ≠ j) && decide (sc.names.lookup y1 = some .local) && decide (sc.names.lookup y2 = some .local) && (ck C N es).l sc [a, b]
      | _, _, _ => false)
    | .gTup (.cons (.gNm i) (.cons (.gNm j) (.cons (.gNm l) .nil))) => (match ns, t, x with
      | [x1, x2, x3], .Tuple [.Name y1 _, .Name y2 _, .Name y3 _] _ _, .Tuple [a, b, d] _ _ => x1 == y1 && x2 == y2 && x3 == y3 && N[i]? == some y1 && N[j]? == some y2 && N[l]? == some y3 && decide (i ≠ j) && decide (i ≠ l) && decide (j ≠ l) &&
        decide (sc.names.lookup y1 = some .local) && decide (sc.names.lookup y2 = some .local) && decide (sc.names.lookup y3 = some .local) && (ck C N es).l sc [a, b, d]
      | _, _, _ => false)
    | _ => false)
  | _ => false
/-- name = [..] -/
noncomputable def setLcB (C : Ck) (N : List Str) (tg e : ME) (sc : Scope) (t x : Expr) : Bool := match e with
  | .lc _ _ _ _ _ => (match tg with
    | .gNm i => (match t with
      | .Name y _ => N[i]? == some y && decide (sc.names.lookup y = some .local) && (ck C N e).e sc x
      | _ => false)
    | _ => false)
  | _ => false
def aOk (x : Expr) : Bool := match x with
  | .ListComp _ _ _ _ => true
  | x => notComp x
noncomputable def asgB (C : Ck) (N : List Str) (tg e : ME) (sc : Scope) (st : Stmt) : Bool := match st with
  | .Assign [t] x _ => (match swS sc t x with
    | some none => (bif swB sc x t then setLcB C N tg e sc t x else (ck C N tg).g sc true t && (ck C N e).e sc x && notStar t && aOk x)
    | some (some ns) => parB C N tg e sc ns t x
    | none => false)
  | _ => false
noncomputable def asg (C : Ck) (N : List Str) (tg e : ME) : Ks := .ofS (asgB C N tg e)
def ex (e : Km) : Ks := .ofS fun sc st => match st with
  | .Expr x _ => e.e sc x && notComp x
  | _ => false
def ret (e : Km) : Ks := .ofS fun sc st => match st with
  | .Return (some x) _ => e.e sc x
  | _ => false
def ret0 : Ks := .ofS fun _ st => match st with
  | .Return none _ => true
  | _ => false
def brk : Ks := .ofS fun _ st => match st with
  | .Break _ => true
  | _ => false
def cont : Ks := .ofS fun _ st => match st with
  | .Continue _ => true
  | _ => false
def ite (t : Km) (a b : Ks) : Ks := .ofS fun sc st => match st with
  | .If x l r _ => t.e sc x && a.b sc l && b.b sc r
  | _ => false
def whl (t : Km) (b : Ks) : Ks := .ofS fun sc st => match st with
  | .While x l [] _ => t.e sc x && b.b sc l
  | _ => false
def for_ (tg it : Km) (b : Ks) : Ks := .ofS fun sc st => match st with
  | .For t x l [] _ => tg.g sc true t && it.i sc x && notSet x && b.b sc l
  | _ => false
def never : Ks := .ofS fun _ _ => true
end Ks
noncomputable def cks (C : Ck) (N : List Str) (s : MS) : Ks :=
  @MS.rec (fun _ => Ks) Ks.nil (fun _ _ s r => Ks.cons s r) (Ks.asg C N) (fun e => Ks.ex (ck C N e)) (fun e => Ks.ret (ck C N e)) Ks.ret0 Ks.nil Ks.brk Ks.cont
    (fun t _ _ a b => Ks.ite (ck C N t) a b) (fun t _ b => Ks.whl (ck C N t) b) (fun tg it _ b => Ks.for_ (ck C N tg) (ck C N it) b) Ks.never s

/-! ### ends -/
section
variable {X : L2.Cx} {T : Tb} {τ : St} {ι ι' : Io} {h h' : MH} {H H' : Hp} {α β : Type} {RA : Rl α β} {σ : En} {D : Ends}
theorem SQ.fut (F : Fut T ι h H ι' h' H') {r : OS} (q : SQ X T ι h H r D) : SQ X T ι' h' H' r D := by
  cases r with
  | nx σ1 h1 => exact fun ι1 τ1 H1 F1 re => q ι1 τ1 H1 (F.trans F1) re
  | rt v h1 => exact fun ι1 H1 u F1 rv => q ι1 H1 u (F.trans F1) rv
  | bk σ1 h1 => exact fun ι1 τ1 H1 F1 re => q ι1 τ1 H1 (F.trans F1) re
  | ct σ1 h1 => exact fun ι1 τ1 H1 F1 re => q ι1 τ1 H1 (F.trans F1) re
  | exc x σ1 h1 => exact Takes.imp q fun cls d τ1 H1 ⟨ι1, F1, re, rx⟩ => ⟨ι1, F.trans F1, re, rx⟩
  | bad => exact q
/-- an expression ahead -/
theorem SQ.st (re : RE T ι h.sz H σ τ) {r : Out α} {k : α → MH → OS} (q : SQ X T ι h H (r.st σ k) D) :
    PQ X T τ ι h H RA r (fun b H1 => ∃ ι1 a h1, r = .ok a h1 ∧ Fut T ι h H ι1 h1 H1 ∧ RA ι1 h1.sz H1 a b ∧ SQ X T ι1 h1 H1 (k a h1) D) := by
  cases r with
  | ok a h1 => exact fun ι1 H1 b F ra => ⟨ι1, a, h1, rfl, F, ra, SQ.fut F q⟩
  | exc x h1 => exact Takes.imp q fun cls d τ1 H1 ⟨e, ι1, F, rx⟩ => e ▸ ⟨ι1, F, re.fut F, rx⟩
  | bad => exact q
/-- .. as a reading -/
theorem SQ.tR {f : En → MH → Out α} {k : α → MH → OS} (re : RE T ι h.sz H σ τ) (rh : RH T ι h H) (q : SQ X T ι h H ((f σ h).st σ k) D) {R : β → Hp → Prop}
    (go : ∀ ι1 a h1 b H1, f σ h = .ok a h1 → Fut T ι h H ι1 h1 H1 → RE T ι1 h1.sz H1 σ τ → RA ι1 h1.sz H1 a b → SQ X T ι1 h1 H1 (k a h1) D → R b H1) : tR X T RA f τ H R :=
  ⟨ι, σ, h, re, rh, PQ.imp (SQ.st (RA := RA) re q) fun b H1 ⟨ι1, a, h1, e, F, ra, q1⟩ => go ι1 a h1 b H1 e F (re.fut F) ra q1⟩
theorem SQ.bif {b : Bool} {r r' : OS} (q : SQ X T ι h H (bif b then r else r') D) : (b = true ∧ SQ X T ι h H r D) ∨ (b = false ∧ SQ X T ι h H r' D) := by
  cases b with
  | true => exact .inl ⟨rfl, q⟩
  | false => exact .inr ⟨rfl, q⟩
theorem SQ.nx (q : SQ X T ι h H (.nx σ h) D) (rh : RH T ι h H) (re : RE T ι h.sz H σ τ) : D.nx τ H := q ι τ H (.refl rh) re
end
section
variable {X : L2.Cx}
theorem PS.imp {st : Stmt} {t t' : TS} (h : PS X st t) (i : ∀ D τ H, t' D τ H → t D τ H) : PS X st t' := ⟨fun pins s τ H D I q => h.run pins s τ H D I (i _ _ _ q)⟩
theorem PSs.imp {st : List Stmt} {t t' : TS} (h : PSs X st t) (i : ∀ D τ H, t' D τ H → t D τ H) : PSs X st t' := ⟨fun pins s τ H D I q => h.run pins s τ H D I (i _ _ _ q)⟩
end
theorem swapsWith_of {env : Env} {sc : Scope} (hs : env.scope = sc) (hk : sc.kind = .function) {x t : Expr} {l : Nat} {r : Bool} (h : notComp x = true ∨ ∃ y g s p, x = .ListComp y g s p) (e : swB sc x t = r) : swapsWith x (some t) l env = pure r := by
  rw [swB_ok hs hk h, e]
structure OkS (C : Ck) (T : Tb) (N : List Str) (c : Ctx) (X : L2.Cx) (sc : Scope) : Prop where
  x : OkX C T N c X sc true
  k : sc.kind = .function
  p : PassesOwn (model X.prog X.w) X.A X.env X.xe
structure Sns (C : Ck) (T : Tb) (N : List Str) (c : Ctx) (m : MS) : Prop where
  s : ∀ X sc, OkS C T N c X sc → ∀ st, (cks C N m).s sc st = true → PS X st (tS X T (evS c m))
  b : ∀ X sc, OkS C T N c X sc → ∀ l, (cks C N m).b sc l = true → PSs X l (tS X T (evS c m))
section
variable {C : Ck} {T : Tb} {N : List Str} {c : Ctx} {m : MS}
theorem Sns.ofS {k : Scope → Stmt → Bool} (hk : cks C N m = Ks.ofS k) (h : ∀ X sc, OkS C T N c X sc → ∀ st, k sc st = true → PS X st (tS X T (evS c m))) : Sns C T N c m := by
  refine ⟨fun X sc ok st hx => ?_, fun X sc ok l hx => ?_⟩
  · rw [hk] at hx; exact h X sc ok st hx
  · rw [hk] at hx; exact nomatch hx
theorem sns_nil : Sns C T N c .nil := by
  refine ⟨fun X sc ok st hx => ?_, fun X sc ok l hx => ?_⟩
  · cases st with
    | Pass p => exact PS.imp ps_pass fun D τ H ⟨ι, σ, h, re, rh, q⟩ => q.nx rh re
    | _ => exact nomatch hx
  · have hx : l.isEmpty = true := hx
    rw [List.isEmpty_iff] at hx
    subst hx
    exact PSs.imp pss_nil fun D τ H ⟨ι, σ, h, re, rh, q⟩ => q.nx rh re
theorem sns_pass : Sns C T N c .pass := by
  refine ⟨fun X sc ok st hx => ?_, fun X sc ok l hx => ?_⟩
  · cases st with
    | Pass p => exact PS.imp ps_pass fun D τ H ⟨ι, σ, h, re, rh, q⟩ => q.nx rh re
    | _ => exact nomatch hx
  · have hx : l.isEmpty = true := hx
    rw [List.isEmpty_iff] at hx
    subst hx
    exact PSs.imp pss_nil fun D τ H ⟨ι, σ, h, re, rh, q⟩ => q.nx rh re
theorem sns_cons {s r : MS} (ss : Sns C T N c s) (sr : Sns C T N c r) : Sns C T N c (.cons s r) := by
  refine ⟨(fun X sc ok st hx => nomatch hx), fun X sc ok l hx => ?_⟩
  cases l with
  | nil => exact nomatch hx
  | cons x t =>
    have hx : ((cks C N s).s sc x && (cks C N r).b sc t) = true := hx
    simp only [Bool.and_eq_true] at hx
    refine PSs.imp (pss_cons (ss.s X sc ok x hx.1) (sr.b X sc ok t hx.2)) fun D τ H ⟨ι, σ, h, re, rh, q⟩ => ?_
    refine ⟨ι, σ, h, re, rh, ?_⟩
    have q : SQ X T ι h H ((evS c s σ h).seq (evS c r)) D := q
    cases e : evS c s σ h with
    | nx σ1 h1 =>
      rw [e] at q
      exact fun ι1 τ1 H1 F re1 => ⟨ι1, σ1, h1, re1, F.rh, SQ.fut F q⟩
    | rt v h1 => rw [e] at q; exact q
    | bk σ1 h1 => rw [e] at q; exact q
    | ct σ1 h1 => rw [e] at q; exact q
    | exc x σ1 h1 => rw [e] at q; exact q
    | bad => rw [e] at q; exact q
theorem sns_ex (e : ME) : Sns C T N c (.ex e) := by
  refine Sns.ofS rfl fun X sc ok st hx => ?_
  cases st with
  | Expr x p =>
    simp only [Bool.and_eq_true] at hx
    refine PS.imp (ps_expr ((snd C T N c e).e X sc true ok.x x hx.1) (by have := hx.2; cases x <;> first | rfl | cases this)) fun D τ H ⟨ι, σ, h, re, rh, q⟩ => ?_
    exact SQ.tR (RA := RV T) re rh q fun ι1 a h1 b H1 _ F re1 _ q1 => q1.nx F.rh re1
  | _ => exact nomatch hx
theorem sns_ret (e : ME) : Sns C T N c (.ret e) := by
  refine Sns.ofS rfl fun X sc ok st hx => ?_
  cases st with
  | Return o p =>
    cases o with
    | none => exact nomatch hx
    | some x =>
      refine PS.imp (ps_ret ((snd C T N c e).e X sc true ok.x x hx)) fun D τ H ⟨ι, σ, h, re, rh, q⟩ => ?_
      exact SQ.tR (RA := RV T) re rh q fun ι1 a h1 b H1 _ F re1 ra q1 => q1 ι1 H1 b (.refl F.rh) ra
  | _ => exact nomatch hx
theorem sns_ret0 : Sns C T N c .ret0 := by
  refine Sns.ofS rfl fun X sc ok st hx => ?_
  cases st with
  | Return o p =>
    cases o with
    | none => exact PS.imp ps_retN fun D τ H ⟨ι, σ, h, re, rh, q⟩ => q ι H _ (.refl rh) .non
    | some x => exact nomatch hx
  | _ => exact nomatch hx
theorem sns_brk : Sns C T N c .brk := by
  refine Sns.ofS rfl fun X sc ok st hx => ?_
  cases st with
  | Break p => exact PS.imp ps_break fun D τ H ⟨ι, σ, h, re, rh, q⟩ => q ι τ H (.refl rh) re
  | _ => exact nomatch hx
theorem sns_cont : Sns C T N c .cont := by
  refine Sns.ofS rfl fun X sc ok st hx => ?_
  cases st with
  | Continue p => exact PS.imp ps_continue fun D τ H ⟨ι, σ, h, re, rh, q⟩ => q ι τ H (.refl rh) re
  | _ => exact nomatch hx
theorem sns_never : Sns C T N c .never := by
  refine Sns.ofS rfl fun X sc ok st hx => ?_
  exact PS.imp ps_never fun D τ H ⟨ι, σ, h, re, rh, q⟩ => q
theorem sns_ite (t : ME) {a b : MS} (sa : Sns C T N c a) (sb : Sns C T N c b) : Sns C T N c (.ite t a b) := by
  refine Sns.ofS rfl fun X sc ok st hx => ?_
  cases st with
  | If x l r p =>
    simp only [Bool.and_eq_true] at hx
    obtain ⟨⟨h1, h2⟩, h3⟩ := hx
    refine PS.imp (ps_if ((snd C T N c t).t X sc true ok.x x h1) (sa.b X sc ok l h2) (sb.b X sc ok r h3)) fun D τ H ⟨ι, σ, h, re, rh, q⟩ => ?_
    refine SQ.tR (RA := fun _ _ _ a b => a = b) re rh q fun ι1 k h1 k' H1 _ F re1 e q1 => ?_
    subst e
    rcases SQ.bif q1 with ⟨rfl, q1⟩ | ⟨rfl, q1⟩
    · rw [if_pos rfl]
      exact ⟨ι1, σ, h1, re1, F.rh, q1⟩
    · rw [if_neg Bool.false_ne_true]
      exact ⟨ι1, σ, h1, re1, F.rh, q1⟩
  | _ => exact nomatch hx
/-- a loop's body, then the next turn -/
def turnEnd (k : En → MH → OS) : OS → OS
  | .nx σ h => k σ h
  | .ct σ h => k σ h
  | .bk σ h => .nx σ h
  | r => r
theorem SQ.turn {X : L2.Cx} {ι : Io} {h : MH} {H : Hp} {r : OS} {k : En → MH → OS} {D : Ends} {M : St → Hp → Prop} (q : SQ X T ι h H (turnEnd k r) D)
    (go : ∀ ι1 σ1 h1 τ1 H1, Fut T ι h H ι1 h1 H1 → RE T ι1 h1.sz H1 σ1 τ1 → SQ X T ι1 h1 H1 (k σ1 h1) D → M τ1 H1) : SQ X T ι h H r { D with nx := M, ct := M, bk := D.nx } := by
  cases r with
  | nx σ1 h1 => exact fun ι1 τ1 H1 F re => go ι1 σ1 h1 τ1 H1 F re (SQ.fut F q)
  | ct σ1 h1 => exact fun ι1 τ1 H1 F re => go ι1 σ1 h1 τ1 H1 F re (SQ.fut F q)
  | bk σ1 h1 => exact q
  | rt v h1 => exact q
  | exc x σ1 h1 => exact q
  | bad => exact q
theorem whlGo_succ (t : En → MH → Out Bool) (body : En → MH → OS) (n : Nat) (σ : En) (h : MH) : whlGo t body (n + 1) σ h = (t σ h).st σ fun b h1 => bif b then turnEnd (whlGo t body n) (body σ h1) else .nx σ h1 := by
  show ((t σ h).st σ fun b h1 => bif b then _ else _) = _
  congr 1
theorem sns_whl (t : ME) {b : MS} (sb : Sns C T N c b) : Sns C T N c (.whl t b) := by
  refine Sns.ofS rfl fun X sc ok st hx => ?_
  cases st with
  | While x l e p =>
    cases e with
    | cons _ _ => exact nomatch hx
    | nil =>
      simp only [Bool.and_eq_true] at hx
      refine PS.imp (ps_while ok.p ((snd C T N c t).t X sc true ok.x x hx.1) (sb.b X sc ok l hx.2)) fun D τ H ⟨ι, σ, h, re, rh, q⟩ => ?_
      have q : SQ X T ι h H (whlGo (ev c t).t (evS c b) c.fuel σ h) D := q
      refine ⟨fun m τ' H' => ∃ ι' σ' h', RE T ι' h'.sz H' σ' τ' ∧ RH T ι' h' H' ∧ SQ X T ι' h' H' (whlGo (ev c t).t (evS c b) m σ' h') D, ⟨c.fuel, ι, σ, h, re, rh, q⟩, ?_⟩
      rintro m τ' H' ⟨ι', σ', h', re', rh', q'⟩
      cases m with
      | zero => exact False.elim q'
      | succ n =>
        rw [whlGo_succ] at q'
        refine SQ.tR (RA := fun _ _ _ a b => a = b) re' rh' q' fun ι1 k h1 k' H1 _ F re1 e q1 => ?_
        subst e
        rcases SQ.bif q1 with ⟨rfl, q1⟩ | ⟨rfl, q1⟩
        · rw [if_pos rfl]
          refine ⟨fun τ' H' => ∃ ι' σ' h', RE T ι' h'.sz H' σ' τ' ∧ RH T ι' h' H' ∧ SQ X T ι' h' H' (whlGo (ev c t).t (evS c b) n σ' h') D, fun τ2 H2 w => ⟨n, Nat.lt_succ_self _, w⟩, ι1, σ', h1, re1, F.rh, ?_⟩
          exact SQ.turn q1 fun ι2 σ2 h2 τ2 H2 F2 re2 q2 => ⟨ι2, σ2, h2, re2, F2.rh, q2⟩
        · rw [if_neg Bool.false_ne_true]
          exact q1.nx F.rh re1
  | _ => exact nomatch hx
theorem forGo_succ (tg : MV → En → MH → Out En) (body : En → MH → OS) (it : IT) (n i : Nat) (σ : En) (h : MH) : forGo tg body it (n + 1) i σ h = match it.at i h with
    | none => .bad
    | some none => .nx σ h
    | some (some v) => (tg v σ h).st σ fun σ1 h1 => turnEnd (forGo tg body it n (i + 1)) (body σ1 h1) := by
  show (match it.at i h with | none => _ | some none => _ | some (some v) => _) = _
  cases it.at i h with
  | none => rfl
  | some o =>
    cases o with
    | none => rfl
    | some v =>
      show ((tg v σ h).st σ fun σ1 h1 => _) = _
      congr 1
theorem sns_for (tg it : ME) {b : MS} (sb : Sns C T N c b) : Sns C T N c (.for_ tg it b) := by
  refine Sns.ofS rfl fun X sc ok st hx => ?_
  cases st with
  | For t x l e p =>
    cases e with
    | cons _ _ => exact nomatch hx
    | nil =>
      simp only [Bool.and_eq_true] at hx
      obtain ⟨⟨⟨h1, h2⟩, h3⟩, h4⟩ := hx
      refine PS.imp (ps_for ok.p ok.x.calm ((snd C T N c it).i X sc true ok.x x h2 t) ((snd C T N c tg).g X sc true ok.x t h1) (sb.b X sc ok l h4) (fun y => by cases x <;> first | rfl | cases h3)) fun D τ H ⟨ι, σ, h, re, rh, q⟩ => ?_
      refine SQ.tR (RA := RIt T) re rh q fun ι1 w h1 J H1 _ F re1 rit q1 => ?_
      refine ⟨fun i m τ' H' => ∃ ι' σ' h', Fut T ι1 h1 H1 ι' h' H' ∧ RE T ι' h'.sz H' σ' τ' ∧ SQ X T ι' h' H' (forGo (ev c tg).g (evS c b) w m i σ' h') D, ⟨c.fuel, ι1, σ, h1, .refl F.rh, re1, q1⟩, ?_⟩
      rintro i m τ' H' ⟨ι', σ', h', F', re', q'⟩
      cases m with
      | zero => exact False.elim q'
      | succ n =>
        rw [forGo_succ] at q'
        obtain ⟨r1, r2⟩ := rit h1 h' ι' H' rfl F' i
        cases e : w.at i h' with
        | none => rw [e] at q'; exact False.elim q'
        | some o =>
          rw [e] at q'
          cases o with
          | none => exact .inl ⟨r1 e, q'.nx F'.rh re'⟩
          | some v =>
            obtain ⟨go, yl⟩ := r2 v e
            refine .inr ⟨go, fun τ' H' => ∃ ι' σ' h', Fut T ι1 h1 H1 ι' h' H' ∧ RE T ι' h'.sz H' σ' τ' ∧ SQ X T ι' h' H' (forGo (ev c tg).g (evS c b) w n (i + 1) σ' h') D, fun τ2 H2 w => ⟨n, Nat.lt_succ_self _, w⟩, fun xv H3 y3 => ?_⟩
            obtain ⟨ι3, F3, rv⟩ := yl xv H3 y3
            have q3 := SQ.fut F3 q'
            have re3 := re'.fut F3
            refine ⟨ι3, σ', h', v, re3, F3.rh, rv, PQ.imp (SQ.st (RA := RSl T (ck C N tg).sl τ') re3 q3) fun τ4 H4 ⟨ι4, σ4, h4, e4, F4, ⟨re4, _⟩, q4⟩ => ?_⟩
            refine ⟨ι4, σ4, h4, re4, F4.rh, ?_⟩
            exact SQ.turn q4 fun ι5 σ5 h5 τ5 H5 F5 re5 q5 => ⟨ι5, σ5, h5, ((F'.trans F3).trans F4).trans F5, re5, q5⟩
  | _ => exact nomatch hx
theorem Out.bind_st {α β : Type} (r : Out α) (f : α → MH → Out β) (σ : En) (k : β → MH → OS) : (r.bind f).st σ k = r.st σ fun a h => (f a h).st σ k := by cases r <;> rfl
theorem noExc_bad {α : Type} : noExc (.bad : Out α) = .bad := rfl
theorem sns_asg (tg e : ME) : Sns C T N c (.asg tg e) := by
  refine Sns.ofS rfl fun X sc ok st hx => ?_
  replace hx : Ks.asgB C N tg e sc st = true := hx
  unfold Ks.asgB at hx
  split at hx
  · rename_i t x p
    split at hx
    · rename_i hsw
      replace hsw := swS_ok ok.x.sc ok.k hsw
      cases hB : swB sc x t with
      | true =>
        rw [hB] at hx
        replace hx : Ks.setLcB C N tg e sc t x = true := hx
        unfold Ks.setLcB at hx
        split at hx
        · rename_i g i d l own
          split at hx
          · rename_i j
            split at hx
            · rename_i y py
              simp only [Bool.and_eq_true, decide_eq_true_eq] at hx
              obtain ⟨⟨h1, h2⟩, h3⟩ := hx
              obtain ⟨y', t', i', ifs, scope, p', own', wi, g', tt, te, rfl, pi, bo, hg, ht, he, hs, imp⟩ := lc_parts own (snd C T N c g) (snd C T N c i) (snd C T N c d) (snd C T N c l) X sc true ok.x x h3
              have hS := swapsWith_of ok.x.sc ok.k (l := p.line) (.inr ⟨_, _, _, _, rfl⟩) hB
              refine PS.imp (ps_setLc (spos := p) ok.x.calm (by rw [ok.x.N]; exact ok.x.nd) (by rw [ok.x.N]; exact eq_of_beq h1) (by rw [ok.x.sc]; exact h2) hS pi bo hg ht he hs) fun D τ H ⟨ι, σ, h, re, rh, q⟩ => ?_
              refine imp τ H _ (SQ.tR (RA := RV T) re rh q fun ι1 a h1 b H1 _ F re1 ra q1 => ?_)
              exact q1 ι1 _ H1 (.refl F.rh) (re1.set ra j)
            · cases hx
          · cases hx
        · cases hx
      | false =>
        rw [hB] at hx
        replace hx : ((ck C N tg).g sc true t && (ck C N e).e sc x && notStar t && Ks.aOk x) = true := hx
        simp only [Bool.and_eq_true] at hx
        obtain ⟨⟨⟨h1, h2⟩, h3⟩, h4⟩ := hx
        have hS := swapsWith_of ok.x.sc ok.k (l := p.line) (by cases x <;> first | exact .inl rfl | exact .inr ⟨_, _, _, _, rfl⟩ | cases h4) hB
        refine PS.imp (ps_asg ((snd C T N c e).e X sc true ok.x x h2) ((snd C T N c tg).g X sc true ok.x t h1) hS hsw (assign_cons h3)) fun D τ H ⟨ι, σ, h, re, rh, q⟩ => ?_
        refine SQ.tR (RA := RV T) re rh q fun ι1 a h1 b H1 _ F re1 ra q1 => ?_
        refine ⟨ι1, σ, h1, a, re1, F.rh, ra, PQ.imp (SQ.st (RA := RSl T (ck C N tg).sl τ) re1 q1) fun τ4 H4 ⟨ι4, σ4, h4, e4, F4, ⟨re4, _⟩, q4⟩ => ?_⟩
        exact q4.nx F4.rh re4
    · rename_i ns hsw
      replace hsw := swS_ok ok.x.sc ok.k hsw
      unfold Ks.parB at hx
      split at hx
      · rename_i es
        split at hx
        · rename_i i j
          split at hx
          · rename_i x1 x2 y1 p1 y2 p2 k1 p3 a b k2 p4
            simp only [Bool.and_eq_true, decide_eq_true_eq] at hx
            obtain ⟨⟨⟨⟨⟨⟨⟨h1, h2⟩, h3⟩, h4⟩, h5⟩, h6⟩, h7⟩, h8⟩ := hx
            have e1 := eq_of_beq h1
            have e2 := eq_of_beq h2
            subst e1 e2
            refine PS.imp (ps_par ok.x.calm (by rw [ok.x.N]; exact ok.x.nd) (by rw [ok.x.N]; exact eq_of_beq h3) (by rw [ok.x.N]; exact eq_of_beq h4) h5 (by rw [ok.x.sc]; exact h6) (by rw [ok.x.sc]; exact h7) ((snd C T N c es).l X sc true ok.x _ h8) hsw) fun D τ H ⟨ι, σ, h, re, rh, q⟩ => ?_
            have q : SQ X T ι h H ((((ev c es).l σ h).bind fun xs h1 => bif Nat.ble xs.length szL then .ok (.tup xs) h1 else .bad).st σ fun v h1 => ((ev c (.gTup (.cons (.gNm i) (.cons (.gNm j) .nil)))).g v σ h1).st σ fun σ1 h2 => .nx σ1 h2) D := q
            rw [Out.bind_st] at q
            refine SQ.tR (RA := RVs T) re rh q fun ι1 xs h1 vs H1 _ F re1 ra q1 => ?_
            cases ra with
            | nil => exact False.elim q1
            | cons r1 ra =>
              cases ra with
              | nil => exact False.elim q1
              | cons r2 ra =>
                cases ra with
                | nil => exact ⟨_, _, rfl, q1 ι1 _ H1 (.refl F.rh) ((re1.set r1 i).set r2 j)⟩
                | cons r3 ra =>
                  generalize Nat.ble _ szL = bb at q1
                  cases bb <;> exact False.elim q1
          · cases hx
        · rename_i i j l
          split at hx
          · rename_i x1 x2 x3 y1 p1 y2 p2 y3 p5 k1 p3 a b d k2 p4
            simp only [Bool.and_eq_true, decide_eq_true_eq] at hx
            obtain ⟨⟨⟨⟨⟨⟨⟨⟨⟨⟨⟨⟨h1, h2⟩, h3⟩, h4⟩, h5⟩, h6⟩, h7⟩, h8⟩, h9⟩, h10⟩, h11⟩, h12⟩, h13⟩ := hx
            have e1 := eq_of_beq h1
            have e2 := eq_of_beq h2
            have e3 := eq_of_beq h3
            subst e1 e2 e3
            refine PS.imp (ps_par3 ok.x.calm (by rw [ok.x.N]; exact ok.x.nd) (by rw [ok.x.N]; exact eq_of_beq h4) (by rw [ok.x.N]; exact eq_of_beq h5) (by rw [ok.x.N]; exact eq_of_beq h6) h7 h8 h9 (by rw [ok.x.sc]; exact h10) (by rw [ok.x.sc]; exact h11) (by rw [ok.x.sc]; exact h12) ((snd C T N c es).l X sc true ok.x _ h13) hsw) fun D τ H ⟨ι, σ, h, re, rh, q⟩ => ?_
            have q : SQ X T ι h H ((((ev c es).l σ h).bind fun xs h1 => bif Nat.ble xs.length szL then .ok (.tup xs) h1 else .bad).st σ fun v h1 => ((ev c (.gTup (.cons (.gNm i) (.cons (.gNm j) (.cons (.gNm l) .nil))))).g v σ h1).st σ fun σ1 h2 => .nx σ1 h2) D := q
            rw [Out.bind_st] at q
            refine SQ.tR (RA := RVs T) re rh q fun ι1 xs h1 vs H1 _ F re1 ra q1 => ?_
            cases ra with
            | nil => exact False.elim q1
            | cons r1 ra =>
              cases ra with
              | nil => exact False.elim q1
              | cons r2 ra =>
                cases ra with
                | nil => exact False.elim q1
                | cons r3 ra =>
                  cases ra with
                  | nil => exact ⟨_, _, _, rfl, q1 ι1 _ H1 (.refl F.rh) (((re1.set r1 i).set r2 j).set r3 l)⟩
                  | cons r4 ra =>
                    generalize Nat.ble _ szL = bb at q1
                    cases bb <;> exact False.elim q1
          · cases hx
        · cases hx
      · cases hx
    · cases hx
  · cases hx
theorem sns (C : Ck) (T : Tb) (N : List Str) (c : Ctx) : ∀ m : MS, Sns C T N c m := by
  intro m
  induction m with
  | nil => exact sns_nil
  | cons s r is ir => exact sns_cons is ir
  | asg tg e => exact sns_asg tg e
  | ex e => exact sns_ex e
  | ret e => exact sns_ret e
  | ret0 => exact sns_ret0
  | pass => exact sns_pass
  | brk => exact sns_brk
  | cont => exact sns_cont
  | ite t a b ia ib => exact sns_ite t ia ib
  | whl t b ib => exact sns_whl t ib
  | for_ tg it b ib => exact sns_for tg it ib
  | never => exact sns_never
end
end Mp
/-! MpM: how a def's parameters are bound. -/
namespace Mp
open PySem L2
/-- plain parameters, no defaults -/
structure Plain (fd : FuncData) (ps : List Str) : Prop where
  po : fd.params.posonlyargs = []
  ar : fd.params.args.map (·.arg) = ps
  va : fd.params.vararg = none
  ko : fd.params.kwonlyargs = []
  kk : fd.params.kwarg = none
  df : fd.defaults = .none
theorem sem_pure_bind {α β : Type} (a : α) (f : α → Sem β) : (pure a >>= f : Sem β) = f a := rfl
theorem bind_loop {ps : List Str} {kw : List (Str × Value)} {S0 : List (Str × Value)} (hk : ∀ p ∈ kw, p.1 ∈ ps) (nd : ∀ (l r : List (Str × Value)) (p : Str × Value), kw = l ++ p :: r → (S0 ++ l).lookup p.1 = none)
    (f : Str × Value → List (Str × Value) × List (Str × Value) → Sem (ForInStep (List (Str × Value) × List (Str × Value))))
    (hf : ∀ p S, p.1 ∈ ps → S.1.lookup p.1 = none → f p S = pure (.yield (S.1 ++ [p], S.2))) : forIn kw (S0, []) f = pure (S0 ++ kw, []) := by
  suffices h : ∀ r l, kw = l ++ r → forIn r (S0 ++ l, []) f = pure (S0 ++ kw, []) by
    have := h kw [] rfl
    rwa [List.append_nil] at this
  intro r
  induction r with
  | nil =>
    intro l e
    rw [List.append_nil] at e
    subst e
    rfl
  | cons p r ih =>
    intro l e
    rw [List.forIn_cons, hf p _ (hk p (by rw [e]; simp)) (nd l r p e)]
    show forIn r (S0 ++ l ++ [p], []) f = _
    rw [List.append_assoc]
    exact ih (l ++ [p]) (by rw [e]; simp)
theorem bind_all {fd : FuncData} {ps : List Str} (P : Plain fd ps) (us : List Value) (kw : List (Str × Value)) (hl : us.length ≤ ps.length) (hk : ∀ p ∈ kw, p.1 ∈ ps)
    (nd : ∀ (l r : List (Str × Value)) (p : Str × Value), kw = l ++ p :: r → (ps.zip us ++ l).lookup p.1 = none) (cov : ∀ x ∈ ps, ((ps.zip us ++ kw).lookup x).isSome = true) :
    bindArgs fd ⟨us, kw⟩ = pure (ps.filterMap fun n => ((ps.zip us ++ kw).lookup n).map (n, ·)) := by
  unfold bindArgs
  simp only [P.po, P.ar, P.va, P.ko, P.kk, P.df, List.map_nil, List.nil_append, List.append_nil]
  rw [bind_loop hk nd _ (fun p S h1 h2 => by
    have h1 : ps.contains p.1 = true := by simpa using h1
    simp only [h1, h2, Bool.true_or, if_true]
    rfl)]
  have e1 : seqItems? Value.none = pure none := rfl
  have e2 : ¬ (us.length > ps.length) := by omega
  have e3 : (List.filter (fun n => (List.lookup n (ps.zip us ++ kw)).isNone) ps) = [] := by
    rw [List.filter_eq_nil_iff]
    intro x hx
    have := cov x hx
    cases h : List.lookup x (ps.zip us ++ kw) with
    | none => rw [h] at this; cases this
    | some v => simp
  simp only [e1, sem_pure_bind, Option.getD_none, e2, decide_false, Bool.false_and, Bool.false_eq_true, if_false, List.length_nil, Nat.zero_sub, Nat.sub_zero, List.drop_nil, List.take_length, e3, List.isEmpty_nil, Bool.not_true, List.drop_length, List.zip_nil_left, List.zip_nil_right, List.forIn_nil]
theorem lookup_none {L : List Str} {V : List Value} {x : Str} (h : x ∉ L) : (L.zip V).lookup x = none := by
  induction L generalizing V with
  | nil => rfl
  | cons y L ih =>
    cases V with
    | nil => rfl
    | cons v V =>
      rw [List.zip_cons_cons, List.lookup_cons]
      have h1 : ¬ x = y := fun z => h (by simp [z])
      have h2 : (x == y) = false := by simpa using h1
      rw [h2]
      exact ih fun z => h (by simp [z])
theorem lookup_zip {L : List Str} {V : List Value} (nd : L.Nodup) (hl : L.length = V.length) {j : Nat} {x : Str} (h : L[j]? = some x) : (L.zip V).lookup x = V[j]? ∧ (V[j]?).isSome = true := by
  induction L generalizing V j with
  | nil => simp at h
  | cons y L ih =>
    cases V with
    | nil => simp at hl
    | cons v V =>
      rw [List.zip_cons_cons, List.lookup_cons]
      cases j with
      | zero =>
        simp at h
        subst h
        simp
      | succ j =>
        have h : L[j]? = some x := by simpa using h
        have hm : x ∈ L := List.mem_of_getElem? h
        have h1 : ¬ x = y := fun z => (List.nodup_cons.mp nd).1 (z ▸ hm)
        have h2 : (x == y) = false := by simpa using h1
        rw [h2]
        simpa using ih (List.nodup_cons.mp nd).2 (by simpa using hl) h
theorem bind_perm {L : List Str} {V : List Value} (nd : L.Nodup) (hl : L.length = V.length) : ∀ (perm : List Nat) (ps : List Str), perm.map (fun j => L[j]?) = ps.map some →
    ps.filterMap (fun n => ((L.zip V).lookup n).map (n, ·)) = ps.zip (perm.filterMap fun j => V[j]?)
  | [], [], _ => rfl
  | [], _ :: _, e => by simp at e
  | _ :: _, [], e => by simp at e
  | j :: perm, x :: ps, e => by
    simp only [List.map_cons, List.cons.injEq] at e
    obtain ⟨e1, e2⟩ := lookup_zip nd hl e.1
    obtain ⟨v, hv⟩ := Option.isSome_iff_exists.mp e2
    have ih := bind_perm nd hl perm ps e.2
    rw [List.filterMap_cons, e1, hv, List.filterMap_cons, hv]
    simp [ih]
theorem range_get {α : Type} (L : List α) : (List.range L.length).map (fun j => L[j]?) = L.map some := by
  apply List.ext_getElem (by simp)
  intro i h1 h2
  simp at h1 h2 ⊢
theorem range_fm {α : Type} (V : List α) : (List.range V.length).filterMap (fun j => V[j]?) = V := by
  have : (List.range V.length).filterMap (fun j => V[j]?) = ((List.range V.length).map (fun j => V[j]?)).filterMap id := by rw [List.filterMap_map]; rfl
  rw [this, range_get, List.filterMap_map]
  simp
theorem bindP_of {fd : FuncData} {ps : List Str} (P : Plain fd ps) (nd : ps.Nodup) : BindP fd ps := by
  refine ⟨fun us hl => ?_, fun us ws ks perm hw hp => ?_⟩
  · rw [bind_all P us [] (Nat.le_of_eq hl) (fun p hp => absurd hp (by simp)) (fun l r p e => by simp at e) (fun x hx => ?_)]
    · rw [List.append_nil, bind_perm nd hl.symm (List.range ps.length) ps (range_get ps), ← hl, range_fm]
    · obtain ⟨j, hj⟩ := List.getElem?_of_mem hx
      obtain ⟨e1, e2⟩ := lookup_zip nd hl.symm hj
      rw [List.append_nil, e1]
      exact e2
  · unfold Km.permOk at hp
    simp only [Bool.and_eq_true, decide_eq_true_eq, List.all_eq_true, Bool.not_eq_true', List.contains_eq_mem, decide_eq_false_iff_not] at hp
    obtain ⟨⟨⟨⟨h1, h2⟩, h3⟩, h4⟩, h5⟩ := hp
    have ndL : (ps.take us.length ++ ks).Nodup := by
      rw [List.nodup_append]
      refine ⟨nd.sublist (List.take_sublist _ _), h4, fun a ha b hb e => ?_⟩
      subst e
      exact (h3 a hb).1 ha
    have hlL : (ps.take us.length ++ ks).length = (us ++ ws).length := by
      rw [List.length_append, List.length_append, List.length_take, hw]; omega
    have ez : ps.zip us ++ ks.zip ws = (ps.take us.length ++ ks).zip (us ++ ws) := by
      rw [List.zip_append (by rw [List.length_take]; omega)]
      congr 1
      have : ps.zip us = (ps.take us.length ++ ps.drop us.length).zip (us ++ []) := by rw [List.take_append_drop, List.append_nil]
      rw [this, List.zip_append (by rw [List.length_take]; omega), List.zip_nil_right, List.append_nil]
    have cov : ∀ x ∈ ps, ((ps.zip us ++ ks.zip ws).lookup x).isSome = true := fun x hx => by
      rw [ez]
      have hx : some x ∈ ps.map some := List.mem_map.mpr ⟨x, hx, rfl⟩
      rw [← h5] at hx
      obtain ⟨j, _, hj⟩ := List.mem_map.mp hx
      obtain ⟨e1, e2⟩ := lookup_zip ndL hlL hj
      rw [e1]
      exact e2
    rw [bind_all P us (ks.zip ws) h1 (fun p hp => ?_) (fun l r p e => ?_) cov]
    · rw [ez, bind_perm ndL hlL perm ps h5]
    · have hm : p.1 ∈ ks := (List.of_mem_zip (show (p.1, p.2) ∈ ks.zip ws from hp)).1
      simpa using (h3 p.1 hm).2
    · -- the names ahead are others
      have e2 : ∃ l1 l2, ks = l1 ++ p.1 :: l2 ∧ l.map (·.1) = l1 := by
        have hk : (ks.zip ws).map (·.1) = ks := by rw [List.map_fst_zip]; omega
        rw [e] at hk
        refine ⟨l.map (·.1), r.map (·.1), ?_, rfl⟩
        rw [← hk]; simp
      obtain ⟨l1, l2, e3, e4⟩ := e2
      have np : p.1 ∉ l1 := fun z => by
        rw [e3, List.nodup_append] at h4
        exact h4.2.2 _ z _ (List.mem_cons_self ..) rfl
      have n0 : p.1 ∉ ps.take us.length := (h3 p.1 (by rw [e3]; simp)).1
      rw [List.lookup_append]
      have z1 : (ps.zip us).lookup p.1 = none := by
        have : ps.zip us = (ps.take us.length).zip us := by
          have : ps.zip us = (ps.take us.length ++ ps.drop us.length).zip (us ++ []) := by rw [List.take_append_drop, List.append_nil]
          rw [this, List.zip_append (by rw [List.length_take]; omega), List.zip_nil_right, List.append_nil]
        rw [this]
        exact lookup_none n0
      rw [z1]
      have z2 : l.lookup p.1 = none := by
        have : l = (l.map (·.1)).zip (l.map (·.2)) := by
          clear e e4
          induction l with
          | nil => rfl
          | cons q l ih => simp [← ih]
        rw [this, e4]
        exact lookup_none np
      rw [z2]
      rfl
end Mp
/-! MpN: whole programs: the look at the written part, every def sound. -/
namespace Mp
open PySem L2
/-- a def: its number, its name, its parameters, the names by slot -/
structure Ent where
  f : Nat
  nm : Str
  ps : List Str
  N : List Str
structure Prg where
  es : List Ent
  cs : List (Nat × Str)
  bs : List Str
  pg : Pg
namespace Prg
def at_ (P : Prg) (f : Nat) : Option Ent := P.es.find? fun e => Nat.beq e.f f
def cat (P : Prg) (g : Nat) : Option (Nat × Str) := P.cs.find? fun c => Nat.beq c.1 g
def ck (P : Prg) : Ck := ⟨fun f => (P.at_ f).map Ent.nm, fun f => match P.at_ f with
  | some e => e.ps
  | none => [], fun g => (P.cat g).map Prod.snd, fun x => P.bs.contains x⟩
def addr (K : PySem.W.Frag) (x : Str) : Option Addr := match PySem.W.nsIn K mainGlobals x with
  | some (some (.ref a)) => some a
  | _ => none
def tb (P : Prg) (K : PySem.W.Frag) : Tb := ⟨K, fun f => match P.at_ f with
  | some e => addr K e.nm
  | none => none, fun _ => none, fun _ => none⟩
/-! ### the look -/
def plainB (fd : FuncData) (ps : List Str) : Bool := fd.params.posonlyargs.isEmpty && decide (fd.params.args.map (·.arg) = ps) && fd.params.vararg.isNone && fd.params.kwonlyargs.isEmpty && fd.params.kwarg.isNone && (match fd.defaults with
  | .none => true
  | _ => false)
def scopeB (N ps : List Str) (sc : Scope) : Bool := decide (sc.kind = .function) && !sc.isCoroutine && !sc.isGenerator && decide (N.Nodup) && decide (N.take ps.length = ps) &&
  (ps.all fun x => match sc.names.lookup x with
    | some .local | some .cell => true
    | _ => false) && (sc.names.all fun y => match y.2 with
    | .free => false
    | _ => true)
noncomputable def bodyB (C : Ck) (K : PySem.W.Frag) (e : Ent) (g : FD) (fd : FuncData) : Bool := match fd.body with
  | .stmts b => decide (fd.globals = mainGlobals) && fd.closure.isEmpty && decide (fd.builtins = builtinsNs) && PySem.W.codeIn K fd.code fd.qualname && plainB fd e.ps && scopeB e.N e.ps fd.scope && decide (g.np = e.ps.length) && decide (g.ns = e.N.length) &&
    (cks C e.N g.body).b fd.scope b
  | _ => false
noncomputable def entB (P : Prg) (K : PySem.W.Frag) (e : Ent) : Bool := match PySem.W.nsIn K mainGlobals e.nm with
  | some (some (.ref a)) => PySem.W.keepIn K (.ref a) && (match K.lookup a with
    | some ⟨_, _, .func fd, _⟩ => (match P.pg.fn e.f with
      | some g => bodyB P.ck K e g fd
      | none => false)
    | _ => false)
  | _ => false
def conV (u : Value) (m : MV) : Bool := match u, m with
  | .none, .non => true
  | .bool b, .bl d => b == d
  | .int i _, .int j => decide (i = j)
  | .str s _, .str t => decide (s.cps.toList = t)
  | _, _ => false
def conB (P : Prg) (K : PySem.W.Frag) (c : Nat × Str) : Bool := match PySem.W.nsIn K mainGlobals c.2 with
  | some (some u) => (match P.pg.con c.1 with
    | some m => conV u m
    | none => false)
  | _ => false
def bisB (K : PySem.W.Frag) (x : Str) : Bool := match PySem.W.nsIn K mainGlobals x with
  | some none => true
  | _ => false
noncomputable def okB (P : Prg) (K : PySem.W.Frag) : Bool := P.es.all (entB P K) && P.cs.all (conB P K) && P.bs.all (bisB K)
end Prg
/-! ### what it tells -/
theorem plain_of {fd : FuncData} {ps : List Str} (h : Prg.plainB fd ps = true) : Plain fd ps := by
  unfold Prg.plainB at h
  simp only [Bool.and_eq_true, decide_eq_true_eq, List.isEmpty_iff, Option.isNone_iff_eq_none] at h
  obtain ⟨⟨⟨⟨⟨h1, h2⟩, h3⟩, h4⟩, h5⟩, h6⟩ := h
  refine ⟨h1, h2, h3, h4, h5, ?_⟩
  split at h6
  · assumption
  · cases h6
theorem scope_of {N ps : List Str} {sc : Scope} (h : Prg.scopeB N ps sc = true) : FnScope N ps sc := by
  unfold Prg.scopeB at h
  simp only [Bool.and_eq_true, decide_eq_true_eq, List.all_eq_true, Bool.not_eq_true'] at h
  obtain ⟨⟨⟨⟨⟨⟨h1, h2⟩, h3⟩, h4⟩, h5⟩, h6⟩, h7⟩ := h
  refine ⟨h1, h2, h3, h4, h5, fun x hx => ?_, fun y hy e => ?_⟩
  · have := h6 x hx
    split at this
    · exact .inl (by assumption)
    · exact .inr (by assumption)
    · cases this
  · have := h7 y hy
    rw [e] at this
    cases this
theorem conV_ok {u : Value} {m : MV} (h : Prg.conV u m = true) : ∃ v, RelV v u ∧ ∀ (T : Tb) ι n H, RV T ι n H m v := by
  cases u <;> cases m <;> first | cases h | skip
  · exact ⟨.non, rfl, fun _ _ _ _ => .non⟩
  · rename_i b d
    have e : b = d := eq_of_beq h
    exact ⟨.bl d, by rw [e]; rfl, fun _ _ _ _ => .bl d⟩
  · rename_i i t j
    have e : i = j := of_decide_eq_true h
    exact ⟨.int j, ⟨t, by rw [e]⟩, fun _ _ _ _ => .int j⟩
  · rename_i s t j
    have e : s.cps.toList = j := of_decide_eq_true h
    refine ⟨.str ⟨j.toArray⟩, ⟨t, ?_⟩, fun _ _ _ _ => .str j⟩
    rw [← e]
section
variable {P : Prg} {K : PySem.W.Frag} {h : Heap} {mg : Str → Option Value} {Pr : Program} {w : World} {base : Heap}
/-- all defs at one depth -/
def FnsOk (P : Prg) (K : PySem.W.Frag) (mg : Str → Option Value) (Pr : Program) (w : World) (d : Nat) : Prop :=
  ∀ f e, P.at_ f = some e → ∃ a fd, Prg.addr K e.nm = some a ∧ mg e.nm = some (.ref a) ∧ PySem.W.keepIn K (.ref a) = true ∧ BindP fd e.ps ∧ (∀ xs h, xs.length ≠ e.ps.length → callD P.pg d f xs h = .bad) ∧
    ∀ base, FnOk Pr w K mg base (L2.CX Pr w) d a fd e.ps (spF (P.tb K) Pr w (callD P.pg d) f e.ps.length)
theorem at_mem {f : Nat} {e : Ent} (h : P.at_ f = some e) : e ∈ P.es ∧ e.f = f := ⟨List.mem_of_find?_eq_some h, Nat.eq_of_beq_eq_true (List.find?_some (p := fun e : Ent => Nat.beq e.f f) h)⟩
theorem cat_mem {g : Nat} {c : Nat × Str} (h : P.cat g = some c) : c ∈ P.cs ∧ c.1 = g := ⟨List.mem_of_find?_eq_some h, Nat.eq_of_beq_eq_true (List.find?_some (p := fun c : Nat × Str => Nat.beq c.1 g) h)⟩
theorem wd_of (ok : P.okB K = true) (X : K.In h) (G : h.Ns mainGlobals mg) {d : Nat} (F : FnsOk P K mg Pr w d) {A : Around} (hr : Room d A) : Wd P.ck (P.tb K) ⟨callD P.pg d, P.pg.con, P.pg.fuel⟩ Pr w mg base A := by
  unfold Prg.okB at ok
  simp only [Bool.and_eq_true, List.all_eq_true] at ok
  obtain ⟨⟨o1, o2⟩, o3⟩ := ok
  refine ⟨fun x hx => ?_, fun g x hx => ?_, fun f x hx => ?_⟩
  · have hx : x ∈ P.bs := by
      have : P.bs.contains x = true := hx
      simpa using this
    have := o3 x hx
    unfold Prg.bisB at this
    split at this
    · rename_i e
      exact PySem.W.mg_none_of X G e
    · cases this
  · have hx : (P.cat g).map Prod.snd = some x := hx
    cases e : P.cat g with
    | none => rw [e] at hx; cases hx
    | some c =>
      rw [e] at hx
      cases hx
      obtain ⟨m1, m2⟩ := cat_mem e
      have := o2 _ m1
      unfold Prg.conB at this
      split at this
      · rename_i u e2
        have e3 : mg c.2 = some u := PySem.W.mg_of X G e2
        split at this
        · rename_i m ec
          rw [m2] at ec
          obtain ⟨v, rv, r⟩ := conV_ok this
          exact ⟨m, u, v, ec, e3, rv, fun ι n H => r _ ι n H⟩
        · cases this
      · cases this
  · have hx : (P.at_ f).map Ent.nm = some x := hx
    cases e : P.at_ f with
    | none => rw [e] at hx; cases hx
    | some en =>
      rw [e] at hx
      cases hx
      obtain ⟨a, fd, h1, h2, h3, h4, h5, h6⟩ := F f en e
      have ep : (P.ck.fnP f) = en.ps := by show (match P.at_ f with | some e => e.ps | none => []) = _; rw [e]
      rw [ep]
      exact ⟨a, fd, d, by show (match P.at_ f with | some e => Prg.addr K e.nm | none => none) = _; rw [e]; exact h1, h2, h3, hr, h4, h5, h6 base⟩
theorem startE_rel {T : Tb} {ι : Io} {n : Nat} {H : Hp} {N : List Str} {xs : List MV} {vs : List V} (r : RVs T ι n H xs vs) : RE T ι n H (startE N.length xs) (L2.start N vs) := by
  unfold startE L2.start
  refine ⟨by simp [r.length], fun i v e => ?_⟩
  by_cases hi : i < xs.length
  · rw [List.getElem?_append_left (by simpa using hi), List.getElem?_map] at e
    cases e1 : xs[i]? with
    | none => rw [e1] at e; cases e
    | some x =>
      rw [e1] at e
      cases e
      obtain ⟨u, e2, ru⟩ := r.get e1
      exact ⟨u, by rw [List.getElem?_append_left (by rw [List.length_map, ← r.length]; exact hi), List.getElem?_map, e2]; rfl, ru⟩
  · rw [List.getElem?_append_right (by simpa using hi), List.getElem?_replicate] at e
    split at e <;> cases e
/-- every def at every depth -/
theorem fns_ok (ok : P.okB K = true) (X : K.In h) (G : h.Ns mainGlobals mg) : ∀ d, FnsOk P K mg Pr w d := by
  intro d
  induction d with
  | zero =>
    intro f e he
    have ok' := ok
    unfold Prg.okB at ok'
    simp only [Bool.and_eq_true, List.all_eq_true] at ok'
    obtain ⟨hm, hf⟩ := at_mem he
    have o1 := ok'.1.1 e hm
    unfold Prg.entB at o1
    split at o1
    · rename_i a e1
      simp only [Bool.and_eq_true] at o1
      obtain ⟨o1, o2⟩ := o1
      split at o2
      · rename_i oc od fd sl e2
        split at o2
        case h_2 => cases o2
        rename_i g eg
        rw [hf] at eg
        unfold Prg.bodyB at o2
        split at o2
        · rename_i b eb
          simp only [Bool.and_eq_true, decide_eq_true_eq, List.isEmpty_iff] at o2
          obtain ⟨⟨⟨⟨⟨⟨⟨⟨p1, p2⟩, p3⟩, p4⟩, p5⟩, p6⟩, p7⟩, p8⟩, p9⟩ := o2
          have S := scope_of p6
          have nd : e.ps.Nodup := by rw [← S.pre]; exact S.nd.sublist (List.take_sublist _ _)
          refine ⟨a, fd, by unfold Prg.addr; rw [e1], PySem.W.mg_of X G e1, o1, bindP_of (plain_of p5) nd, fun xs h _ => rfl, fun base => ⟨fun vs H Q E hs => hs.1, fun A outer s H args us vs Q E hr e0 hb r hs => ?_⟩⟩
          obtain ⟨_, ι, h', xs, _, _, z⟩ := hs
          exact z.elim
        · cases o2
      · cases o2
    · cases o1
  | succ d ih =>
    intro f e he
    have ok' := ok
    unfold Prg.okB at ok'
    simp only [Bool.and_eq_true, List.all_eq_true] at ok'
    obtain ⟨hm, hf⟩ := at_mem he
    have o1 := ok'.1.1 e hm
    unfold Prg.entB at o1
    split at o1
    · rename_i a e1
      simp only [Bool.and_eq_true] at o1
      obtain ⟨o1, o2⟩ := o1
      split at o2
      · rename_i oc od fd sl e2
        split at o2
        case h_2 => cases o2
        rename_i g eg
        rw [hf] at eg
        unfold Prg.bodyB at o2
        split at o2
        · rename_i b eb
          simp only [Bool.and_eq_true, decide_eq_true_eq, List.isEmpty_iff] at o2
          obtain ⟨⟨⟨⟨⟨⟨⟨⟨p1, p2⟩, p3⟩, p4⟩, p5⟩, p6⟩, p7⟩, p8⟩, p9⟩ := o2
          have S := scope_of p6
          have nd : e.ps.Nodup := by rw [← S.pre]; exact S.nd.sublist (List.take_sublist _ _)
          have B := bindP_of (plain_of p5) nd
          have ef : P.pg.fn f = some g := eg
          have bad : ∀ xs h, xs.length ≠ e.ps.length → callD P.pg (d + 1) f xs h = .bad := fun xs h hx => by
            show (match P.pg.fn f with | some fd => if xs.length = fd.np then _ else _ | none => _) = _
            rw [ef]
            show (if xs.length = g.np then _ else _) = _
            rw [if_neg (by rw [p7]; exact hx)]
          refine ⟨a, fd, by unfold Prg.addr; rw [e1], PySem.W.mg_of X G e1, o1, B, bad, fun base => ?_⟩
          have efd : fd = PySem.W.fnOf fd.name fd.qualname fd.params b fd.scope fd.defaults fd.kwdefaults fd.doc fd.pyModule fd.annotations fd.code fd.closureTuple := by
            obtain ⟨f1, f2, f3, f4, f5, f6, f7, f8, f9, f10, f11, f12, f13, f14, f15⟩ := fd
            cases eb; cases p1; cases p2; cases p3
            rfl
          rw [efd] at e2 ⊢
          refine fn_of e2 p4 S (fun vs H Q E hs => hs.1) fun A outer s H vs Q E hr hs => ?_
          have oks : OkS P.ck (P.tb K) e.N ⟨callD P.pg d, P.pg.con, P.pg.fuel⟩ (cxOf (L2.CX Pr w) Pr w K mg base e.N fd.qualname fd.scope a fd.code A outer s H E) fd.scope := {
            x := { nd := S.nd, N := rfl, sc := rfl, calm := rfl, K := rfl, un := hr.units, top := fun _ _ => rfl, wd := wd_of ok X G ih hr }
            k := S.kind
            p := passes_of rfl }
          refine ⟨_, (sns P.ck (P.tb K) e.N ⟨callD P.pg d, P.pg.con, P.pg.fuel⟩ g.body).b _ _ oks b p9, ?_⟩
          obtain ⟨hl, ι, h1, xs, rh, rs, z⟩ := hs
          refine ⟨ι, startE e.N.length xs, h1, startE_rel rs, rh, ?_⟩
          have el : xs.length = g.np := by rw [rs.length, hl, p7]
          have ec : callD P.pg (d + 1) f xs h1 = (evS ⟨callD P.pg d, P.pg.con, P.pg.fuel⟩ g.body (startE g.ns xs) h1).out := by
            show (match P.pg.fn f with | some fd => if xs.length = fd.np then _ else _ | none => _) = _
            rw [ef]
            show (if xs.length = g.np then _ else _) = _
            rw [if_pos el]
          rw [ec, p8] at z
          have tk := takes_of (X := cxOf (L2.CX Pr w) Pr w K mg base e.N fd.qualname fd.scope a fd.code A outer s H E) (E := E) rfl rfl rfl rfl
          cases er : evS ⟨callD P.pg d, P.pg.con, P.pg.fuel⟩ g.body (startE e.N.length xs) h1 with
          | nx σ' h' =>
            rw [er] at z
            exact fun ι' τ' H' F _ => z ι' H' _ F .non
          | rt v h' =>
            rw [er] at z
            exact fun ι' H' u F rv => z ι' H' u F rv
          | bk σ' h' => rw [er] at z; exact False.elim z
          | ct σ' h' => rw [er] at z; exact False.elim z
          | exc x σ' h' =>
            rw [er] at z
            exact Takes.imp tk fun cls dd τ' H' ⟨ι', F, _, rx⟩ => z ι' H' cls dd F rx
          | bad => rw [er] at z; exact False.elim z
        · cases o2
      · cases o2
    · cases o1
end
end Mp
/-! MpO: the end: a law, told by the small evaluator. -/
namespace Mp
open PySem L2
/-- the script -/
def scr (ns : List Int) : MH := MH.push ⟨0, .nil⟩ (.lst true (ns.map .int))
theorem scr_get (ns : List Int) : (scr ns).get 0 = some (.lst true (ns.map .int)) := by
  unfold scr
  rw [MH.get_push]
  rfl
theorem ints_rel {T : Tb} {ι : Io} {n : Nat} {H : Hp} : ∀ ns : List Int, RVs T ι n H (ns.map .int) (ns.map V.int)
  | [] => .nil
  | i :: r => .cons (.int i) (ints_rel r)
theorem mp_walk {l : PySem.W.OpenLaw} {n : Nat} {q : Program} {loose : List Str} {XP : (Str → Option Value) → Heap → Prop} {YP : World → Heap → Prop} {d : DefRec} {K : Params → PySem.W.Frag} {x : Str} (P : Prg) (nL D : Nat) (e : Ent)
    (hn : l.most = some n) (hn2 : n ≤ sizeLine) (hdf : d.params.defaults = []) (hr : Room D callerA) (he : P.at_ nL = some e) (hnm : e.nm = d.name) (hps : e.ps = [x])
    (hY : ∀ (w : World) (h : Heap), YP w h → (K w.params).In h) (hok : ∀ w : World, P.okB (K w.params) = true)
    (law : ∀ ns : List Int, ns.length ≤ n → (∀ z ∈ ns, Builtin.Int.intBits z ≤ 1048576) → ∃ h', callD P.pg D nL [.ref 0] (scr ns) = .ok (.bl true) h') :
    PySem.W.WalkO q loose XP YP l.row.toRowW d [] (fun f vs => PySem.call f vs) := by
  refine L2.walk_ofB (n := n) (k := D) (x := x) (CX := fun w => L2.CX l.prog w) (sp := fun w => spF (P.tb (K w.params)) l.prog w (callD P.pg D) nL e.ps.length) hn hn2 hdf hr hY (fun w mg fa h KX G hmg => ?_) (fun w H a ns hl hb hO hS => ?_) fun w H s e s' z => ?_
  · obtain ⟨a, fd, h1, h2, h3, h4, h5, h6⟩ := fns_ok (Pr := l.prog) (w := w) (hok w) KX G D nL e he
    rw [hnm, hmg] at h2
    cases h2
    refine ⟨fd, fun s u => .of_eq ?_, fun base _ _ => ?_⟩
    · have := h4.pos [u] (by rw [hps]; rfl)
      rw [this, hps]
      rfl
    · have := h6 base
      rwa [hps] at this ⊢
  · refine ⟨by rw [hps]; rfl, fun _ => a, scr ns, [.ref 0], ⟨fun i j hi hj _ _ _ => ?_, fun i hi => ?_⟩, .cons (.ref (i := 0) (Nat.lt_succ_self 0)) .nil, ?_⟩
    · have hi : i < 1 := hi
      have hj : j < 1 := hj
      omega
    · have hi : i < 1 := hi
      have : i = 0 := by omega
      subst this
      refine ⟨_, scr_get ns, .flst ?_ (ints_rel ns)⟩
      rcases hS with (z | z) | z
      · rcases hO a with y | ⟨o, xs, y⟩
        · rw [y] at z; cases z
        · rw [y] at z; cases z
      · exact .inl z
      · exact .inr z
    · obtain ⟨h', eq⟩ := law ns hl hb
      rw [eq]
      intro ι' H' u F rv
      cases rv
      rfl
  · obtain ⟨_, _, _, _, _, _, _, _, _, _, _, _, f⟩ := z
    exact f
end Mp
/-! MpP: equations that run the small evaluator on values that are not known. -/
namespace Mp
open PySem
section
variable {α β γ : Type} {c : Ctx} {σ : En} {h : MH} {a b d es : ME}
theorem xok (x : α) (f : α → MH → Out β) : (Out.ok x h).bind f = f x h := rfl
theorem xbad (f : α → MH → Out β) : (Out.bad : Out α).bind f = .bad := rfl
theorem xexc (x : Exn) (f : α → MH → Out β) : (Out.exc x h : Out α).bind f = .exc x h := rfl
theorem xbind (r : Out α) (f : α → MH → Out β) (g : β → MH → Out γ) : (r.bind f).bind g = r.bind fun x h => (f x h).bind g := by cases r <;> rfl
theorem xst (x : α) (k : α → MH → OS) : (Out.ok x h).st σ k = k x h := rfl
theorem xstbad (k : α → MH → OS) : (Out.bad : Out α).st σ k = .bad := rfl
theorem xstexc (x : Exn) (k : α → MH → OS) : (Out.exc x h : Out α).st σ k = .exc x σ h := rfl
theorem xstbind (r : Out α) (f : α → MH → Out β) (k : β → MH → OS) : (r.bind f).st σ k = r.st σ fun x h => (f x h).st σ k := by cases r <;> rfl
theorem xgiv (x : α) : giv (some x) h = .ok x h := rfl
theorem xgivN : giv (none : Option α) h = .bad := rfl
theorem xnoE (x : α) : noExc (.ok x h) = .ok x h := rfl
theorem xnx (f : En → MH → OS) : (OS.nx σ h).seq f = f σ h := rfl
theorem xrt (v : MV) (f : En → MH → OS) : (OS.rt v h).seq f = .rt v h := rfl
theorem xbk (f : En → MH → OS) : (OS.bk σ h).seq f = .bk σ h := rfl
theorem xct (f : En → MH → OS) : (OS.ct σ h).seq f = .ct σ h := rfl
theorem xex (x : Exn) (f : En → MH → OS) : (OS.exc x σ h).seq f = .exc x σ h := rfl
theorem xbs (f : En → MH → OS) : OS.bad.seq f = .bad := rfl
theorem xonx : (OS.nx σ h).out = .ok .non h := rfl
theorem xort (v : MV) : (OS.rt v h).out = .ok v h := rfl
theorem xoex (x : Exn) : (OS.exc x σ h).out = .exc x h := rfl
theorem xstq (r : Out α) (k : α → MH → OS) (f : En → MH → OS) : (r.st σ k).seq f = r.st σ (fun x h => (k x h).seq f) ∨ True := .inr trivial
theorem xjoin (v : MV) : (some (some v)).join = some v := rfl
theorem xn0 (x : α) (r : List α) : nth (x :: r) 0 = some x := rfl
theorem xn1 (x : α) (r : List α) (n : Nat) : nth (x :: r) (n + 1) = nth r n := rfl
theorem xs0 (x y : α) (r : List α) : (x :: r).set 0 y = y :: r := rfl
theorem xs1 (x y : α) (r : List α) (n : Nat) : (x :: r).set (n + 1) y = x :: r.set n y := rfl
/-! expressions -/
theorem e_cst (v : MV) : (ev c (.cst v)).e σ h = .ok v h := rfl
theorem e_var (i : Nat) : (ev c (.var i)).e σ h = giv (nth σ i).join h := rfl
theorem e_gl (g : Nat) : (ev c (.gl g)).e σ h = giv (c.con g) h := rfl
theorem e_bin (op : Operator) : (ev c (.bin op a b)).e σ h = ((ev c a).e σ h).bind fun x h1 => ((ev c b).e σ h1).bind fun y h2 => evBin op x y h2 := rfl
theorem e_neg : (ev c (.neg a)).e σ h = ((ev c a).e σ h).bind Sm.negV := rfl
theorem e_nt : (ev c (.nt a)).e σ h = ((ev c a).e σ h).bind Sm.notV := rfl
theorem e_and : (ev c (.and2 a b)).e σ h = ((ev c a).e σ h).bind (Sm.andV ((ev c b).e σ)) := rfl
theorem e_or : (ev c (.or2 a b)).e σ h = ((ev c a).e σ h).bind (Sm.orV ((ev c b).e σ)) := rfl
theorem e_cmp (op : CmpOp) : (ev c (.cmp op a b)).e σ h = ((ev c a).e σ h).bind fun x h1 => ((ev c b).e σ h1).bind fun y h2 => (giv (evCmp op x y h2) h2).bind fun k h3 => .ok (.bl k) h3 := by
  show ((((ev c a).e σ h).bind fun x h1 => ((ev c b).e σ h1).bind fun y h2 => giv (evCmp op x y h2) h2).bind fun b h1 => Out.ok (MV.bl b) h1) = _
  simp only [xbind]
theorem e_cmp2 (op op' : CmpOp) : (ev c (.cmp2 op op' a b d)).e σ h = ((ev c (.cmp2 op op' a b d)).t σ h).bind fun k h1 => .ok (.bl k) h1 := rfl
theorem e_ife {t : ME} : (ev c (.ife t a b)).e σ h = ((ev c t).t σ h).bind fun k h1 => bif k then (ev c a).e σ h1 else (ev c b).e σ h1 := rfl
theorem e_tup : (ev c (.tup es)).e σ h = ((ev c es).l σ h).bind fun xs h1 => bif Nat.ble xs.length szL then .ok (.tup xs) h1 else .bad := rfl
theorem e_lst : (ev c (.lst es)).e σ h = ((ev c es).l σ h).bind fun xs h1 => bif Nat.ble xs.length szL then newL xs h1 else .bad := rfl
theorem e_ix : (ev c (.ix a b)).e σ h = ((ev c a).e σ h).bind fun x h1 => ((ev c b).e σ h1).bind fun y h2 => giv (evIx x y h2) h2 := rfl
theorem e_sl : (ev c (.sl a b d)).e σ h = ((ev c a).e σ h).bind fun x h1 => ((ev c b).p σ h1).bind fun l h2 => ((ev c d).p σ h2).bind fun u h3 => Sm.slV x l u h3 := rfl
theorem e_call (f : Nat) : (ev c (.call f es)).e σ h = ((ev c es).l σ h).bind (c.call f) := rfl
theorem e_callk {ks : ME} (f : Nat) (perm : List Nat) : (ev c (.callk f es ks perm)).e σ h = ((ev c es).l σ h).bind fun xs h1 => ((ev c ks).l σ h1).bind fun ys h2 => (giv (Sm.permV perm (xs ++ ys)) h2).bind (c.call f) := rfl
theorem e_bi (f : BI) : (ev c (.bi f es)).e σ h = ((ev c es).l σ h).bind (evBI f) := rfl
theorem e_isi (k : TyK) : (ev c (.isi k a)).e σ h = ((ev c a).e σ h).bind fun x h1 => (giv (tyIs k x h1) h1).bind fun b h2 => .ok (.bl b) h2 := rfl
theorem e_lc {tg it cond elt : ME} (own : List Nat) : (ev c (.lc tg it cond elt own)).e σ h = ((ev c it).i σ h).bind fun w h1 =>
  noExc ((lcGo (ev c tg).g (ev c cond).t (ev c elt).e w h1.sz (wipeE σ own) c.fuel 0 (h1.push (.lst false []))).bind fun _ h2 => .ok (.ref h1.sz) h2) := rfl
theorem e_lrng1 : (ev c (.lrng1 b)).e σ h = ((ev c b).e σ h).bind (Sm.lrngV (.int 0)) := rfl
theorem e_lrng2 : (ev c (.lrng2 a b)).e σ h = ((ev c a).e σ h).bind fun x h1 => ((ev c b).e σ h1).bind (Sm.lrngV x) := rfl
/-! tests -/
theorem t_cst (v : MV) : (ev c (.cst v)).t σ h = giv (evTru v h) h := rfl
theorem t_var (i : Nat) : (ev c (.var i)).t σ h = (giv (nth σ i).join h).bind fun v h1 => giv (evTru v h1) h1 := rfl
theorem t_call (f : Nat) : (ev c (.call f es)).t σ h = ((ev c (.call f es)).e σ h).bind fun v h1 => giv (evTru v h1) h1 := rfl
theorem t_callk {ks : ME} (f : Nat) (perm : List Nat) : (ev c (.callk f es ks perm)).t σ h = ((ev c (.callk f es ks perm)).e σ h).bind fun v h1 => giv (evTru v h1) h1 := rfl
theorem t_ix : (ev c (.ix a b)).t σ h = ((ev c (.ix a b)).e σ h).bind fun v h1 => giv (evTru v h1) h1 := rfl
theorem t_bi (f : BI) : (ev c (.bi f es)).t σ h = ((ev c (.bi f es)).e σ h).bind fun v h1 => giv (evTru v h1) h1 := rfl
theorem t_bin (op : Operator) : (ev c (.bin op a b)).t σ h = ((ev c (.bin op a b)).e σ h).bind fun v h1 => giv (evTru v h1) h1 := rfl
theorem t_isi (k : TyK) : (ev c (.isi k a)).t σ h = ((ev c (.isi k a)).e σ h).bind fun v h1 => giv (evTru v h1) h1 := rfl
theorem t_lc {tg it cond elt : ME} (own : List Nat) : (ev c (.lc tg it cond elt own)).t σ h = ((ev c (.lc tg it cond elt own)).e σ h).bind fun v h1 => giv (evTru v h1) h1 := rfl
theorem t_nil : (ev c .nil).t σ h = .ok true h := rfl
theorem t_nt : (ev c (.nt a)).t σ h = ((ev c a).t σ h).bind fun b h1 => .ok (!b) h1 := rfl
theorem t_and : (ev c (.and2 a b)).t σ h = ((ev c a).t σ h).bind fun x h1 => bif x then (ev c b).t σ h1 else .ok false h1 := rfl
theorem t_or : (ev c (.or2 a b)).t σ h = ((ev c a).t σ h).bind fun x h1 => bif x then .ok true h1 else (ev c b).t σ h1 := rfl
theorem t_cmp (op : CmpOp) : (ev c (.cmp op a b)).t σ h = ((ev c a).e σ h).bind fun x h1 => ((ev c b).e σ h1).bind fun y h2 => giv (evCmp op x y h2) h2 := rfl
theorem t_cmp2 (op op' : CmpOp) : (ev c (.cmp2 op op' a b d)).t σ h = ((ev c a).e σ h).bind fun x h1 => ((ev c b).e σ h1).bind fun y h2 => (giv (evCmp op x y h2) h2).bind fun k h3 =>
  bif k then ((ev c d).e σ h3).bind fun z h4 => giv (evCmp op' y z h4) h4 else .ok false h3 := rfl
theorem t_ife {t : ME} : (ev c (.ife t a b)).t σ h = ((ev c t).t σ h).bind fun k h1 => bif k then (ev c a).t σ h1 else (ev c b).t σ h1 := rfl
/-! parts of slices -/
theorem p_nil : (ev c .nil).p σ h = .ok none h := rfl
theorem p_cst (i : Int) : (ev c (.cst (.int i))).p σ h = .ok (some i) h := rfl
def pInt (v : MV) (h : MH) : Out (Option Int) := match v with
  | .int i => .ok (some i) h
  | _ => .bad
theorem p_int (i : Int) : pInt (.int i) h = .ok (some i) h := rfl
theorem p_var (i : Nat) : (ev c (.var i)).p σ h = (giv (nth σ i).join h).bind pInt := rfl
theorem p_bin (op : Operator) : (ev c (.bin op a b)).p σ h = ((ev c (.bin op a b)).e σ h).bind pInt := rfl
theorem p_call (f : Nat) : (ev c (.call f es)).p σ h = ((ev c (.call f es)).e σ h).bind pInt := rfl
theorem p_neg : (ev c (.neg a)).p σ h = ((ev c (.neg a)).e σ h).bind pInt := rfl
theorem p_ix : (ev c (.ix a b)).p σ h = ((ev c (.ix a b)).e σ h).bind pInt := rfl
theorem p_bi (f : BI) : (ev c (.bi f es)).p σ h = ((ev c (.bi f es)).e σ h).bind pInt := rfl
/-! rows -/
theorem l_nil0 : (ev c .nil).l σ h = .ok [] h := rfl
theorem l_cons : (ev c (.cons a es)).l σ h = ((ev c a).e σ h).bind fun x h1 => ((ev c es).l σ h1).bind fun xs h2 => .ok (x :: xs) h2 := rfl
/-! what is walked -/
theorem i_seq : (ev c (.iSeq a)).i σ h = ((ev c a).e σ h).bind Sm.iSeqV := rfl
theorem i_rng1 : (ev c (.iRng1 b)).i σ h = ((ev c b).e σ h).bind (Sm.iRngV (.int 0)) := rfl
theorem i_rng2 : (ev c (.iRng2 a b)).i σ h = ((ev c a).e σ h).bind fun x h1 => ((ev c b).e σ h1).bind (Sm.iRngV x) := rfl
/-! targets -/
theorem g_nm (i : Nat) (v : MV) : (ev c (.gNm i)).g v σ h = .ok (σ.set i (some v)) h := rfl
theorem g_tup (ts : ME) (xs : List MV) : (ev c (.gTup ts)).g (.tup xs) σ h = noExc ((ev c ts).gs xs σ h) := rfl
theorem gs_nil : (ev c .nil).gs [] σ h = .ok σ h := rfl
theorem gs_cons (v : MV) (us : List MV) : (ev c (.cons a es)).gs (v :: us) σ h = ((ev c a).g v σ h).bind fun σ1 h1 => noExc ((ev c es).gs us σ1 h1) := rfl
theorem g_ix (v : MV) : (ev c (.gIx a b)).g v σ h = ((ev c a).e σ h).bind fun x h1 => ((ev c b).e σ h1).bind fun y h2 => (giv (Sm.setV v x y h2) h2).bind fun h3 _ => .ok σ h3 := rfl
/-! statements -/
variable {s r : MS} {t e tg it : ME}
theorem s_nil : evS c .nil σ h = .nx σ h := rfl
theorem s_cons : evS c (.cons s r) σ h = (evS c s σ h).seq (evS c r) := rfl
theorem s_asg : evS c (.asg tg e) σ h = ((ev c e).e σ h).st σ fun v h1 => ((ev c tg).g v σ h1).st σ fun σ1 h2 => .nx σ1 h2 := rfl
theorem s_ex : evS c (.ex e) σ h = ((ev c e).e σ h).st σ fun _ h1 => .nx σ h1 := rfl
theorem s_ret : evS c (.ret e) σ h = ((ev c e).e σ h).st σ fun v h1 => .rt v h1 := rfl
theorem s_ret0 : evS c .ret0 σ h = .rt .non h := rfl
theorem s_pass : evS c .pass σ h = .nx σ h := rfl
theorem s_brk : evS c .brk σ h = .bk σ h := rfl
theorem s_cont : evS c .cont σ h = .ct σ h := rfl
theorem s_ite : evS c (.ite t s r) σ h = ((ev c t).t σ h).st σ fun k h1 => bif k then evS c s σ h1 else evS c r σ h1 := rfl
theorem s_whl : evS c (.whl t s) σ h = whlGo (ev c t).t (evS c s) c.fuel σ h := rfl
theorem s_for : evS c (.for_ tg it s) σ h = ((ev c it).i σ h).st σ fun w h1 => forGo (ev c tg).g (evS c s) w c.fuel 0 σ h1 := rfl
theorem s_never : evS c .never σ h = .bad := rfl
/-! operators -/
variable {i j : Int}
theorem o_add : evBin .Add (.int i) (.int j) h = .ok (.int (i + j)) h := rfl
theorem o_sub : evBin .Sub (.int i) (.int j) h = .ok (.int (i - j)) h := rfl
theorem o_mul (q : i64 i = true) : evBin .Mult (.int i) (.int j) h = .ok (.int (i * j)) h := by
  show (bif i64 i || i64 j then _ else _) = _
  rw [q]; rfl
theorem o_mulR (q : i64 j = true) : evBin .Mult (.int i) (.int j) h = .ok (.int (i * j)) h := by
  show (bif i64 i || i64 j then _ else _) = _
  rw [q, Bool.or_true]; rfl
theorem o_fdiv (q : cDiv j = true) : evBin .FloorDiv (.int i) (.int j) h = .ok (.int (i / j)) h := by
  show (bif cDiv j then _ else _) = _
  rw [q]; rfl
theorem o_mod (q : decide (0 < j) = true) : evBin .Mod (.int i) (.int j) h = .ok (.int (i % j)) h := by
  show (bif decide (0 < j) then _ else _) = _
  rw [q]; rfl
theorem o_pow (q : cPow i j = true) : evBin .Pow (.int i) (.int j) h = .ok (.int (i ^ j.toNat)) h := by
  show (bif cPow i j then _ else _) = _
  rw [q]; rfl
theorem o_shl (q : cPow i j = true) : evBin .LShift (.int i) (.int j) h = .ok (.int (i * 2 ^ j.toNat)) h := by
  show (bif cPow i j then Out.ok (MV.int (i * ((2 ^ j.toNat : Nat) : Int))) h else _) = _
  rw [q, Int.natCast_pow]; rfl
theorem o_shr (q : decide (0 ≤ j) = true) : evBin .RShift (.int i) (.int j) h = .ok (.int (i / 2 ^ j.toNat)) h := by
  show (bif decide (0 ≤ j) then Out.ok (MV.int (i / ((2 ^ j.toNat : Nat) : Int))) h else _) = _
  rw [q, Int.natCast_pow]; rfl
theorem o_addL {x y : Nat} {xs ys : List MV} (q1 : mutAt h x = some xs) (q2 : mutAt h y = some ys) (q3 : Nat.ble (xs.length + ys.length) szL = true) : evBin .Add (.ref x) (.ref y) h = newL (xs ++ ys) h := by
  show (match mutAt h x, mutAt h y with
    | some xs, some ys => bif Nat.ble (xs.length + ys.length) szL then newL (xs ++ ys) h else .bad
    | _, _ => .bad) = _
  rw [q1, q2]
  simp only [q3, cond_true]
theorem o_neg : Sm.negV (.int i) h = .ok (.int (-i)) h := rfl
theorem o_not (k : Bool) : Sm.notV (.bl k) h = .ok (.bl (!k)) h := rfl
theorem o_and (k : Bool) (r : MH → Out MV) : Sm.andV r (.bl k) h = bif k then r h else .ok (.bl false) h := rfl
theorem o_or (k : Bool) (r : MH → Out MV) : Sm.orV r (.bl k) h = bif k then .ok (.bl true) h else r h := rfl
theorem c_lt : evCmp .Lt (.int i) (.int j) h = some (decide (i < j)) := rfl
theorem c_le : evCmp .LtE (.int i) (.int j) h = some (decide (i ≤ j)) := rfl
theorem c_gt : evCmp .Gt (.int i) (.int j) h = some (decide (j < i)) := rfl
theorem c_ge : evCmp .GtE (.int i) (.int j) h = some (decide (j ≤ i)) := rfl
theorem c_eq : evCmp .Eq (.int i) (.int j) h = some (decide (i = j)) := rfl
theorem c_ne : evCmp .NotEq (.int i) (.int j) h = some (!decide (i = j)) := rfl
theorem c_eqs (x y : List Nat) : evCmp .Eq (.str x) (.str y) h = some (decide (x = y)) := rfl
theorem c_nes (x y : List Nat) : evCmp .NotEq (.str x) (.str y) h = some (!decide (x = y)) := rfl
theorem c_eqb (x y : Bool) : evCmp .Eq (.bl x) (.bl y) h = some (x == y) := rfl
theorem c_neb (x y : Bool) : evCmp .NotEq (.bl x) (.bl y) h = some (!(x == y)) := rfl
theorem c_is (v : MV) : evCmp .Is v .non h = some (isNon v) := rfl
theorem c_isnt (v : MV) : evCmp .IsNot v .non h = some (!isNon v) := rfl
theorem n_non : isNon .non = true := rfl
theorem n_int : isNon (.int i) = false := rfl
theorem n_tup (xs : List MV) : isNon (.tup xs) = false := rfl
theorem n_ref (x : Nat) : isNon (.ref x) = false := rfl
theorem n_str (x : List Nat) : isNon (.str x) = false := rfl
theorem u_bl (k : Bool) : evTru (.bl k) h = some k := rfl
theorem u_int : evTru (.int i) h = some (!decide (i = 0)) := rfl
theorem u_non : evTru .non h = some false := rfl
theorem u_tup (xs : List MV) : evTru (.tup xs) h = some (!xs.isEmpty) := rfl
theorem k_int (k : TyK) (v : MV) : tyIs k v h = tyIs k v h := rfl
theorem k_ii : tyIs .int (.int i) h = some true := rfl
theorem k_bi (i : Int) : tyIs .bool (.int i) h = some false := rfl
theorem k_tt (xs : List MV) : tyIs .tup (.tup xs) h = some true := rfl
theorem b_int : evBI .int1 [.int i] h = .ok (.int i) h := rfl
theorem b_abs : evBI .abs1 [.int i] h = .ok (.int (if i < 0 then -i else i)) h := rfl
theorem b_lent (xs : List MV) : evBI .len1 [.tup xs] h = .ok (.int xs.length) h := rfl
theorem b_lenl {x : Nat} {xs : List MV} (q : lstAt h x = some xs) : evBI .len1 [.ref x] h = .ok (.int xs.length) h := by
  show (match lstAt h x with
    | some xs => Out.ok (MV.int xs.length) h
    | none => .bad) = _
  rw [q]
theorem b_max : evBI .max2 [.int i, .int j] h = .ok (.int (if j > i then j else i)) h := rfl
theorem b_min : evBI .min2 [.int i, .int j] h = .ok (.int (if j < i then j else i)) h := rfl
theorem b_divmod (q : cDiv j = true) : evBI .divmod2 [.int i, .int j] h = .ok (.tup [.int (i / j), .int (i % j)]) h := by
  show (bif cDiv j then _ else _) = _
  rw [q]; rfl
theorem b_all {x : Nat} {xs : List MV} {bs : List Bool} (q : lstAt h x = some xs) (q2 : allB xs = some bs) : evBI .all1 [.ref x] h = .ok (.bl (bs.all id)) h := by
  show (match lstAt h x with
    | some xs => (match allB xs with
      | some bs => Out.ok (MV.bl (bs.all id)) h
      | none => .bad)
    | none => .bad) = _
  rw [q]
  simp only [q2]
theorem w_rng : Sm.iRngV (.int i) (.int j) h = bif Sm.in62 i && Sm.in62 j then .ok (.rng i j) h else .bad := rfl
theorem w_tup (xs : List MV) : Sm.iSeqV (.tup xs) h = .ok (.seq xs) h := rfl
theorem w_lst {x : Nat} {xs : List MV} (q : lstAt h x = some xs) : Sm.iSeqV (.ref x) h = .ok (.lst x) h := by
  show (match lstAt h x with
    | some _ => Out.ok (IT.lst x) h
    | none => .bad) = _
  rw [q]
end
/-! the heap -/
/-- nothing but new objects -/
structure Ext (h h' : MH) : Prop where
  le : h.sz ≤ h'.sz
  at_ : ∀ i, i < h.sz → h'.get i = h.get i
theorem Ext.refl {h : MH} : Ext h h := ⟨Nat.le_refl _, fun _ _ => rfl⟩
theorem Ext.trans {h h1 h2 : MH} (a : Ext h h1) (b : Ext h1 h2) : Ext h h2 := ⟨Nat.le_trans a.le b.le, fun i hi => (b.at_ i (Nat.lt_of_lt_of_le hi a.le)).trans (a.at_ i hi)⟩
theorem Ext.push {h : MH} (o : MO) : Ext h (h.push o) := ⟨Nat.le_succ _, fun i hi => by rw [MH.get_push, if_neg (Nat.ne_of_lt hi)]⟩
theorem Ext.lst {h h' : MH} (x : Ext h h') {a : Nat} {xs : List MV} (ha : a < h.sz) (q : lstAt h a = some xs) : lstAt h' a = some xs := by
  unfold lstAt at q ⊢
  rw [x.at_ a ha]; exact q
theorem Ext.mut {h h' : MH} (x : Ext h h') {a : Nat} {xs : List MV} (ha : a < h.sz) (q : mutAt h a = some xs) : mutAt h' a = some xs := by
  unfold mutAt at q ⊢
  rw [x.at_ a ha]; exact q
theorem mut_lst {h : MH} {a : Nat} {xs : List MV} (q : mutAt h a = some xs) : lstAt h a = some xs := by
  unfold mutAt at q
  unfold lstAt
  split at q
  · rename_i e; rw [e]; exact q
  · cases q
theorem mut_push {h : MH} {xs : List MV} : mutAt (h.push (.lst false xs)) h.sz = some xs := by
  unfold mutAt
  rw [MH.get_push, if_pos rfl]
theorem lst_push {h : MH} {xs : List MV} : lstAt (h.push (.lst false xs)) h.sz = some xs := mut_lst mut_push
theorem mut_set {h : MH} {a : Nat} {xs : List MV} : mutAt (h.set a (.lst false xs)) a = some xs := by
  unfold mutAt
  rw [MH.get_set, if_pos rfl]
theorem mut_set_ne {h : MH} {a b : Nat} {o : MO} (e : b ≠ a) : mutAt (h.set a o) b = mutAt h b := by
  unfold mutAt
  rw [MH.get_set, if_neg e]
theorem lst_set_ne {h : MH} {a b : Nat} {o : MO} (e : b ≠ a) : lstAt (h.set a o) b = lstAt h b := by
  unfold lstAt
  rw [MH.get_set, if_neg e]
/-! calls -/
theorem call_en {P : Pg} {f d : Nat} {fd : FD} {vs : List MV} {h : MH} (e : P.fn f = some fd) (hl : vs.length = fd.np) : callD P (d + 1) f vs h = (evS ⟨callD P d, P.con, P.fuel⟩ fd.body (startE fd.ns vs) h).out := by
  show (match P.fn f with | some fd => if vs.length = fd.np then _ else _ | none => _) = _
  rw [e]
  show (if vs.length = fd.np then _ else _) = _
  rw [if_pos hl]
end Mp
namespace Mp
open PySem
section
variable {α : Type} {h : MH} {c : Ctx} {σ : En} {i j : Int}
theorem xbok (k : Bool) (x y : α) : (bif k then Out.ok x h else Out.ok y h) = .ok (bif k then x else y) h := by cases k <;> rfl
theorem xbrt (k : Bool) (x y : MV) : (bif k then OS.rt x h else OS.rt y h) = .rt (bif k then x else y) h := by cases k <;> rfl
theorem xbnx (k : Bool) (x y : En) : (bif k then OS.nx x h else OS.nx y h) = .nx (bif k then x else y) h := by cases k <;> rfl
theorem xbbl (k x y : Bool) : (bif k then MV.bl x else MV.bl y) = .bl (bif k then x else y) := by cases k <;> rfl
theorem xbst {α : Type} (k : Bool) (r r' : Out α) (f : α → MH → OS) : (bif k then r else r').st σ f = bif k then r.st σ f else r'.st σ f := by cases k <;> rfl
theorem xbb {α β : Type} (k : Bool) (r r' : Out α) (f : α → MH → Out β) : (bif k then r else r').bind f = bif k then r.bind f else r'.bind f := by cases k <;> rfl
theorem xbseq (k : Bool) (r r' : OS) (f : En → MH → OS) : (bif k then r else r').seq f = bif k then r.seq f else r'.seq f := by cases k <;> rfl
theorem xbout (k : Bool) (r r' : OS) : (bif k then r else r').out = bif k then r.out else r'.out := by cases k <;> rfl
theorem xcf (k x : Bool) : (bif k then x else false) = (k && x) := by cases k <;> rfl
theorem xct1 (k x : Bool) : (bif k then true else x) = (k || x) := by cases k <;> rfl
theorem xpow (i j : Int) : cPow i j = (decide (0 ≤ j) && decide (j ≤ 1000000) && i64 i) := rfl
theorem x64 (i : Int) : i64 i = (decide (-18446744073709551616 < i) && decide (i < 18446744073709551616)) := rfl
theorem xdv (j : Int) : cDiv j = (decide (0 < j) && decide (j < 1073741824)) := rfl
theorem x62 (i : Int) : Sm.in62 i = (decide (-4611686018427387904 ≤ i) && decide (i < 4611686018427387904)) := rfl
theorem xble (a b : Nat) : Nat.ble a b = decide (a ≤ b) := by
  by_cases h : a ≤ b
  · rw [Nat.ble_eq_true_of_le h, decide_eq_true h]
  · have : Nat.ble a b = false := by
      cases e : Nat.ble a b with
      | false => rfl
      | true => exact absurd (Nat.le_of_ble_eq_true e) h
    rw [this, decide_eq_false h]
theorem xsz : szL = 16777216 := rfl
theorem xnew (xs : List MV) : newL xs h = .ok (.ref h.sz) (h.push (.lst false xs)) := rfl
theorem xat_lst {a : Nat} {xs : List MV} (q : lstAt h a = some xs) (i : Nat) : IT.at (.lst a) i h = some (nth xs i) := by
  show (match lstAt h a with
    | some xs => some (nth xs i)
    | none => none) = _
  rw [q]
theorem xat_seq (xs : List MV) (i : Nat) : IT.at (.seq xs) i h = some (nth xs i) := rfl
theorem xat_rng (lo hi : Int) (i : Nat) : IT.at (.rng lo hi) i h = some (if lo + i < hi then some (.int (lo + i)) else none) := rfl
theorem xnil {β : Type} (i : Nat) : nth ([] : List β) i = none := rfl
/-! walks over a range -/
def rngI (lo : Int) (n : Nat) : List Int := (List.range n).map fun (k : Nat) => lo + k
theorem rngI_succ (lo : Int) (n : Nat) : rngI lo (n + 1) = rngI lo n ++ [lo + n] := by
  unfold rngI
  rw [List.range_succ, List.map_append]
  rfl
/-- all but the object at D -/
structure ExtD (D : Nat) (h h' : MH) : Prop where
  le : h.sz ≤ h'.sz
  at_ : ∀ i, i < h.sz → i ≠ D → h'.get i = h.get i
theorem mutAt_get {h : MH} {D : Nat} {xs : List MV} (q : mutAt h D = some xs) : h.get D = some (.lst false xs) := by
  unfold mutAt at q
  split at q
  · rename_i e; cases q; exact e
  · cases q
theorem lcGo_rng {cond : En → MH → Out Bool} {elt : En → MH → Out MV} {lo hi : Int} {k : Nat} {h1 : MH} {p : Int → Bool} {g : Int → MV}
    (hb : ∀ (i : Int) (h' : MH), lo ≤ i → i < hi → Ext h1 h' → ∃ h2, cond (σ.set k (some (.int i))) h' = .ok (p i) h2 ∧ Ext h' h2 ∧ (p i = true → ∃ h3, elt (σ.set k (some (.int i))) h2 = .ok (g i) h3 ∧ Ext h2 h3)) :
    ∀ (m n : Nat) (h' : MH), m + n = (hi - lo).toNat → m < 16777216 → n + m < 16777216 → ExtD h1.sz (h1.push (.lst false [])) h' → mutAt h' h1.sz = some (((rngI lo m).filter p).map g) → ∀ fuel, n < fuel →
      ∃ h2, lcGo (fun v σ h => .ok (σ.set k (some v)) h) cond elt (.rng lo hi) h1.sz σ fuel m h' = .ok () h2 ∧ Ext h1 h2 ∧ h1.sz < h2.sz ∧ mutAt h2 h1.sz = some (((rngI lo (m + n)).filter p).map g)
  | m, 0, h', e, _, _, x, q, 0, hf => absurd hf (Nat.not_lt_zero _)
  | m, n + 1, h', e, _, _, x, q, 0, hf => absurd hf (Nat.not_lt_zero _)
  | m, 0, h', e, hm, hs, x, q, fuel + 1, hf => by
    have en : ¬ (lo + (m : Int) < hi) := by omega
    rw [lcGo_succ, xat_rng, if_neg en]
    have hsz : h1.sz < h'.sz := x.le
    refine ⟨h', rfl, ⟨Nat.le_of_lt hsz, fun i hi => ?_⟩, hsz, q⟩
    rw [x.at_ i (Nat.lt_succ_of_lt hi) (Nat.ne_of_lt hi), MH.get_push, if_neg (Nat.ne_of_lt hi)]
  | m, n + 1, h', e, hm, hs, x, q, fuel + 1, hf => by
    have en : lo + (m : Int) < hi := by omega
    have hsz : h1.sz < h'.sz := x.le
    have x1 : Ext h1 h' := ⟨Nat.le_of_lt hsz, fun i hi => by
      rw [x.at_ i (Nat.lt_succ_of_lt hi) (Nat.ne_of_lt hi), MH.get_push, if_neg (Nat.ne_of_lt hi)]⟩
    obtain ⟨h2, e2, x2, hy⟩ := hb (lo + m) h' (by omega) en x1
    have x2' : ExtD h1.sz (h1.push (.lst false [])) h2 := ⟨Nat.le_trans x.le x2.le, fun i hi ne => (x2.at_ i (Nat.lt_of_lt_of_le hi x.le)).trans (x.at_ i hi ne)⟩
    have q2 := x2.mut hsz q
    rw [lcGo_succ, xat_rng, if_pos en]
    simp only [xok, e2]
    cases ep : p (lo + m) with
    | false =>
      rw [cond_false]
      have := lcGo_rng hb (m + 1) n h2 (by omega) (by omega) (by omega) x2' (by rw [rngI_succ, List.filter_append, List.filter_cons, ep]; simpa using q2) fuel (by omega)
      rwa [show m + (n + 1) = m + 1 + n by omega]
    | true =>
      obtain ⟨h3, e3, x3⟩ := hy ep
      have hsz2 : h1.sz < h2.sz := Nat.lt_of_lt_of_le hsz x2.le
      have q3 := x3.mut hsz2 q2
      have hsz3 : h1.sz < h3.sz := Nat.lt_of_lt_of_le hsz2 x3.le
      rw [cond_true, e3]
      simp only [xok, q3]
      have hl : Nat.blt (((rngI lo m).filter p).map g).length szL = true := by
        have : (((rngI lo m).filter p).map g).length ≤ m := by
          rw [List.length_map]
          refine Nat.le_trans (List.length_filter_le _ _) ?_
          unfold rngI
          rw [List.length_map, List.length_range]
          exact Nat.le_refl _
        rw [Nat.blt_eq]
        rw [xsz]
        omega
      rw [hl, cond_true]
      have := lcGo_rng hb (m + 1) n (h3.set h1.sz (.lst false (((rngI lo m).filter p).map g ++ [g (lo + m)]))) (by omega) (by omega) (by omega)
        ⟨Nat.le_trans x2'.le x3.le, fun i hi ne => by rw [MH.get_set, if_neg ne]; exact (x3.at_ i (Nat.lt_of_lt_of_le hi x2'.le)).trans (x2'.at_ i hi ne)⟩
        (by rw [mut_set, rngI_succ, List.filter_append, List.filter_cons, ep, List.map_append]; rfl) fuel (by omega)
      rwa [show m + (n + 1) = m + 1 + n by omega]
/-- [elt for k in range if cond] -/
theorem e_lcR {it cond elt : ME} {own : List Nat} {lo hi : Int} {k : Nat} {h1 : MH} {p : Int → Bool} {g : Int → MV} (hit : (ev c it).i σ h = .ok (.rng lo hi) h1) (hfu : (hi - lo).toNat < c.fuel) (hz : (hi - lo).toNat < 16777216)
    (hb : ∀ (i : Int) (h' : MH), lo ≤ i → i < hi → Ext h1 h' → ∃ h2, (ev c cond).t ((wipeE σ own).set k (some (.int i))) h' = .ok (p i) h2 ∧ Ext h' h2 ∧ (p i = true → ∃ h3, (ev c elt).e ((wipeE σ own).set k (some (.int i))) h2 = .ok (g i) h3 ∧ Ext h2 h3)) :
    ∃ h2, (ev c (.lc (.gNm k) it cond elt own)).e σ h = .ok (.ref h1.sz) h2 ∧ Ext h1 h2 ∧ h1.sz < h2.sz ∧ mutAt h2 h1.sz = some (((rngI lo (hi - lo).toNat).filter p).map g) := by
  obtain ⟨h2, e2, x2, z2, q2⟩ := lcGo_rng (σ := wipeE σ own) (h1 := h1) hb 0 (hi - lo).toNat (h1.push (.lst false [])) (by omega) (by omega) (by omega) ⟨Nat.le_refl _, fun _ _ _ => rfl⟩ mut_push c.fuel hfu
  refine ⟨h2, ?_, x2, z2, ?_⟩
  · rw [e_lc, hit]
    show noExc ((lcGo (fun v σ h => .ok (σ.set k (some v)) h) (ev c cond).t (ev c elt).e (.rng lo hi) h1.sz (wipeE σ own) c.fuel 0 (h1.push (.lst false []))).bind fun _ h2 => Out.ok (MV.ref h1.sz) h2) = _
    rw [e2]
    rfl
  · rwa [Nat.zero_add] at q2
/-! for -/
/-- a loop that runs to its end -/
theorem for_run {tg : MV → En → MH → Out En} {body : En → MH → OS} {it : IT} {n : Nat} (I : Nat → En → MH → Prop)
    (hs : ∀ i σ h, i < n → I i σ h → ∃ v σ1 h1, it.at i h = some (some v) ∧ tg v σ h = .ok σ1 h1 ∧ ∃ σ2 h2, (body σ1 h1 = .nx σ2 h2 ∨ body σ1 h1 = .ct σ2 h2) ∧ I (i + 1) σ2 h2) (he : ∀ σ h, I n σ h → it.at n h = some none) :
    ∀ (m i : Nat) (σ : En) (h : MH), i + m = n → I i σ h → ∀ fuel, m < fuel → ∃ σ' h', forGo tg body it fuel i σ h = .nx σ' h' ∧ I n σ' h'
  | 0, i, σ, h, e, hI, 0, hf => absurd hf (Nat.not_lt_zero _)
  | m + 1, i, σ, h, e, hI, 0, hf => absurd hf (Nat.not_lt_zero _)
  | 0, i, σ, h, e, hI, fuel + 1, hf => by
    have e' : i = n := by omega
    subst e'
    rw [forGo_succ, he σ h hI]
    exact ⟨σ, h, rfl, hI⟩
  | m + 1, i, σ, h, e, hI, fuel + 1, hf => by
    obtain ⟨v, σ1, h1, e1, e2, σ2, h2, e3, hI2⟩ := hs i σ h (by omega) hI
    obtain ⟨σ', h', e4, hI3⟩ := for_run I hs he m (i + 1) σ2 h2 (by omega) hI2 fuel (by omega)
    refine ⟨σ', h', ?_, hI3⟩
    rw [forGo_succ, e1]
    show ((tg v σ h).st σ fun σ1 h1 => turnEnd (forGo tg body it fuel (i + 1)) (body σ1 h1)) = _
    rw [e2, xst]
    rcases e3 with e3 | e3 <;> rw [e3] <;> exact e4
end
end Mp
/-! MpR: lists that are compared, items, lists written. -/
namespace Mp
open PySem
section
variable {α : Type} {h : MH} {c : Ctx} {σ : En} {i j : Int}
theorem mapO_map {β : Type} {f : MV → Option β} {g : α → MV} {k : α → β} (hg : ∀ x, f (g x) = some (k x)) : ∀ l : List α, mapO f (l.map g) = some (l.map k)
  | [] => rfl
  | x :: r => by
    show (match f (g x), mapO f (r.map g) with
      | some y, some s => some (y :: s)
      | _, _ => none) = _
    rw [hg, mapO_map hg r]
    rfl
theorem toD_lst {g : α → MV} {k : α → PyData} {n : Nat} (hg : ∀ x, toD h n (g x) = some (k x)) {a : Nat} {l : List α} (ha : lstAt h a = some (l.map g)) : toD h (n + 1) (.ref a) = some (.list (l.map k)) := by
  unfold toD
  rw [ha]
  show (mapO (toD h n) (l.map g)).map PyData.list = _
  rw [mapO_map hg]
  rfl
theorem lay_map {k : α → PyData} (hc : ∀ x, (k x).canLay0 = true) : ∀ l : List α, PyData.canLayAll0 (l.map k) = true
  | [] => by simp [PyData.canLayAll0]
  | x :: r => by simp [PyData.canLayAll0, hc, lay_map hc r]
theorem dep_map {k : α → PyData} {n : Nat} (hd : ∀ x, (k x).depth ≤ n) : ∀ l : List α, PyData.depthAll (l.map k) ≤ n
  | [] => by simp [PyData.depthAll]
  | x :: r => by
    have := dep_map hd r
    have := hd x
    simp only [List.map_cons, PyData.depthAll]
    omega
theorem eqv_map [DecidableEq α] {k : α → PyData} (he : ∀ x y, PyData.eqv (k x) (k y) = decide (x = y)) : ∀ l m : List α, PyData.eqvAll (l.map k) (m.map k) = decide (l = m)
  | [], [] => by simp [PyData.eqvAll]
  | [], y :: s => by simp [PyData.eqvAll]
  | x :: r, [] => by simp [PyData.eqvAll]
  | x :: r, y :: s => by
    simp only [List.map_cons, PyData.eqvAll, he, eqv_map he r s, List.cons.injEq]
    by_cases h1 : x = y <;> by_cases h2 : r = s <;> simp [h1, h2]
theorem shaped_lst {k : α → PyData} (hc : ∀ x, (k x).canLay0 = true) (hd : ∀ x, (k x).depth ≤ 60) (l : List α) : SeqAt.shaped (.list (l.map k)) = true := by
  unfold SeqAt.shaped
  rw [Bool.and_eq_true, decide_eq_true_eq]
  refine ⟨by simp only [PyData.canLay0]; exact lay_map hc l, ?_⟩
  have := dep_map hd l
  simp only [PyData.depth]
  omega
theorem eq_lsts [DecidableEq α] {g : α → MV} {k : α → PyData} (hg : ∀ x, toD h 63 (g x) = some (k x)) (hc : ∀ x, (k x).canLay0 = true) (hd : ∀ x, (k x).depth ≤ 60) (he : ∀ x y, PyData.eqv (k x) (k y) = decide (x = y)) {a b : Nat} {l m : List α}
    (ha : lstAt h a = some (l.map g)) (hb : lstAt h b = some (m.map g)) : evEq (.ref a) (.ref b) h = some (decide (l = m)) := by
  show eqD (.ref a) (.ref b) h = _
  unfold eqD
  rw [show deep = 63 + 1 from rfl, toD_lst hg ha, toD_lst hg hb]
  simp only [shaped_lst hc hd, Bool.and_self, cond_true]
  simp only [PyData.eqv, eqv_map he]
theorem eq_ints {a b : Nat} {l m : List Int} (ha : lstAt h a = some (l.map .int)) (hb : lstAt h b = some (m.map .int)) : evEq (.ref a) (.ref b) h = some (decide (l = m)) :=
  eq_lsts (k := PyData.int) (fun x => rfl) (fun x => by simp [PyData.canLay0]) (fun x => by simp [PyData.depth]) (fun x y => by simp [PyData.eqv]; rfl) ha hb
theorem eq_bools {a b : Nat} {l m : List Bool} (ha : lstAt h a = some (l.map .bl)) (hb : lstAt h b = some (m.map .bl)) : evEq (.ref a) (.ref b) h = some (decide (l = m)) :=
  eq_lsts (k := PyData.bool) (fun x => rfl) (fun x => by simp [PyData.canLay0]) (fun x => by simp [PyData.depth]) (fun x y => by simp [PyData.eqv]; cases x <;> cases y <;> rfl) ha hb
theorem c_eqR {x y : MV} {k : Bool} (q : evEq x y h = some k) : evCmp .Eq x y h = some k := q
theorem c_neR {x y : MV} {k : Bool} (q : evEq x y h = some k) : evCmp .NotEq x y h = some (!k) := by
  show (evEq x y h).map (!·) = _
  rw [q]; rfl
/-! items -/
theorem ixN_pos {n : Nat} (h0 : 0 ≤ i) (h1 : i < n) : L2.ixN n i = some i.toNat := by
  unfold L2.ixN
  rw [if_pos h0, if_pos h1]
theorem ixN_neg {n : Nat} (h0 : i < 0) (h1 : -(n : Int) ≤ i) : L2.ixN n i = some (i + n).toNat := by
  unfold L2.ixN
  rw [if_neg (by omega), if_pos h1]
theorem ix_ref {a : Nat} {xs : List MV} {k : Nat} (q : lstAt h a = some xs) (e : L2.ixN xs.length i = some k) : evIx (.ref a) (.int i) h = nth xs k := by
  show ((lstAt h a).bind fun xs => (L2.ixN xs.length i).bind (nth xs)) = _
  rw [q]
  show (L2.ixN xs.length i).bind (nth xs) = _
  rw [e]
  rfl
theorem ix_tup {xs : List MV} {k : Nat} (e : L2.ixN xs.length i = some k) : evIx (.tup xs) (.int i) h = nth xs k := by
  show (L2.ixN xs.length i).bind (nth xs) = _
  rw [e]
  rfl
theorem set_ref {a : Nat} {xs : List MV} {k : Nat} {v : MV} (q : mutAt h a = some xs) (e : L2.ixN xs.length i = some k) : Sm.setV v (.ref a) (.int i) h = some (h.set a (.lst false (xs.set k v))) := by
  show (match mutAt h a with
    | some xs => (match L2.ixN xs.length i with
      | some j => some (h.set a (.lst false (xs.set j v)))
      | none => none)
    | none => none) = _
  rw [q]
  simp only [e]
theorem o_mulL {a : Nat} {xs : List MV} (q : mutAt h a = some xs) (h0 : 0 ≤ i) (h1 : xs.length * i.toNat ≤ 16777216) (h2 : i < 9223372036854775808) : evBin .Mult (.ref a) (.int i) h = newL (repV i.toNat xs) h := by
  show (match mutAt h a with
    | some xs => repL xs i h
    | none => .bad) = _
  rw [q]
  show repL xs i h = _
  unfold repL
  have e1 : decide (-9223372036854775808 ≤ i) = true := decide_eq_true (by omega)
  rw [e1, decide_eq_true h2, xble, xsz, decide_eq_true h1]
  rfl
theorem rep_one (n : Nat) (x : MV) : repV n [x] = List.replicate n x := by
  unfold repV
  induction n with
  | zero => rfl
  | succ n ih => rw [List.replicate_succ, List.flatten_cons, ih, List.replicate_succ]; rfl
/-! pails: three numbers -/
structure Pail (h : MH) (p : Nat) : Prop where
  lt : p < h.sz
  at_ : ∃ a b c : Int, mutAt h p = some [.int a, .int b, .int c]
theorem ExtD.refl {p : Nat} : ExtD p h h := ⟨Nat.le_refl _, fun _ _ _ => rfl⟩
theorem ExtD.trans {p : Nat} {h1 h2 : MH} (a : ExtD p h h1) (b : ExtD p h1 h2) : ExtD p h h2 := ⟨Nat.le_trans a.le b.le, fun i hi ne => (b.at_ i (Nat.lt_of_lt_of_le hi a.le) ne).trans (a.at_ i hi ne)⟩
theorem Ext.d {p : Nat} {h' : MH} (a : Ext h h') : ExtD p h h' := ⟨a.le, fun i hi _ => a.at_ i hi⟩
theorem ExtD.ext {p : Nat} {h1 h2 : MH} (a : Ext h h1) (b : ExtD p h1 h2) (hp : h.sz ≤ p) : Ext h h2 := ⟨Nat.le_trans a.le b.le, fun i hi => (b.at_ i (Nat.lt_of_lt_of_le hi a.le) (Nat.ne_of_lt (Nat.lt_of_lt_of_le hi hp))).trans (a.at_ i hi)⟩
theorem ExtD.set {p : Nat} {o : MO} : ExtD p h (h.set p o) := ⟨Nat.le_refl _, fun i _ ne => by rw [MH.get_set, if_neg ne]⟩
theorem ExtD.mut {p : Nat} {h' : MH} (x : ExtD p h h') {a : Nat} {xs : List MV} (ha : a < h.sz) (ne : a ≠ p) (q : mutAt h a = some xs) : mutAt h' a = some xs := by
  unfold mutAt at q ⊢
  rw [x.at_ a ha ne]; exact q
theorem ExtD.lst {p : Nat} {h' : MH} (x : ExtD p h h') {a : Nat} {xs : List MV} (ha : a < h.sz) (ne : a ≠ p) (q : lstAt h a = some xs) : lstAt h' a = some xs := by
  unfold lstAt at q ⊢
  rw [x.at_ a ha ne]; exact q
theorem Pail.ext {p : Nat} {h' : MH} (a : Pail h p) (x : Ext h h') : Pail h' p := ⟨Nat.lt_of_lt_of_le a.lt x.le, let ⟨u, v, w, q⟩ := a.at_; ⟨u, v, w, x.mut a.lt q⟩⟩
theorem Pail.set {p : Nat} (a : Pail h p) (u v w : Int) : Pail (h.set p (.lst false [.int u, .int v, .int w])) p := ⟨a.lt, u, v, w, mut_set⟩
/-! ranges -/
theorem rngI_len (lo : Int) (n : Nat) : (rngI lo n).length = n := by unfold rngI; rw [List.length_map, List.length_range]
theorem mem_rngI {lo x : Int} {n : Nat} : x ∈ rngI lo n ↔ lo ≤ x ∧ x < lo + n := by
  unfold rngI
  rw [List.mem_map]
  constructor
  · rintro ⟨k, hk, rfl⟩
    rw [List.mem_range] at hk
    omega
  · rintro ⟨h1, h2⟩
    exact ⟨(x - lo).toNat, List.mem_range.mpr (by omega), by omega⟩
theorem rngI_get (lo : Int) (n k : Nat) (hk : k < n) : (rngI lo n)[k]? = some (lo + k) := by
  unfold rngI
  rw [List.getElem?_map, List.getElem?_range hk]
  rfl
theorem rngL_eq (lo : Int) (n : Nat) : Sm.rngL lo n = (rngI lo n).map .int := by
  unfold Sm.rngL rngI
  rw [List.map_map]
  rfl
theorem rngI_add (lo : Int) (n m : Nat) : rngI lo (n + m) = rngI lo n ++ rngI (lo + n) m := by
  induction m with
  | zero => simp [rngI]
  | succ m ih =>
    rw [← Nat.add_assoc, rngI_succ, ih, rngI_succ, List.append_assoc]
    congr 2
    simp only [List.cons.injEq, and_true]
    omega
/-- a filter that has no holes -/
theorem rngI_convex {p : Int → Bool} (hp : ∀ x y z, x ≤ y → y ≤ z → p x = true → p z = true → p y = true) (lo : Int) : ∀ n : Nat, (rngI lo n).filter p = [] ∨ ∃ a m, (rngI lo n).filter p = rngI a (m + 1)
  | 0 => .inl rfl
  | n + 1 => by
    rw [rngI_succ, List.filter_append, List.filter_cons, List.filter_nil]
    cases e : p (lo + n) with
    | false =>
      rw [if_neg Bool.false_ne_true, List.append_nil]
      exact rngI_convex hp lo n
    | true =>
      rw [if_pos rfl]
      rcases rngI_convex hp lo n with q | ⟨a, m, q⟩
      · rw [q]
        exact .inr ⟨lo + n, 0, by simp [rngI]⟩
      · have m1 : a + m ∈ (rngI lo n).filter p := by rw [q, mem_rngI]; omega
        rw [List.mem_filter, mem_rngI] at m1
        have e2 : a + (m : Int) + 1 = lo + n := by
          by_cases z : a + (m : Int) + 1 = lo + n
          · exact z
          · have m2 : lo + n - 1 ∈ (rngI lo n).filter p := by
              rw [List.mem_filter, mem_rngI]
              exact ⟨by omega, hp (a + m) _ (lo + n) (by omega) (by omega) m1.2 e⟩
            rw [q, mem_rngI] at m2
            omega
        refine .inr ⟨a, m + 1, ?_⟩
        rw [q, rngI_succ a (m + 1)]
        congr 2
        omega
/-! loops that run to their ends -/
theorem s_forR {it : ME} {b : MS} {lo hi : Int} {k n : Nat} {h1 : MH} (I : Nat → En → MH → Prop) (hit : (ev c it).i σ h = .ok (.rng lo hi) h1) (hn : n = (hi - lo).toNat) (hfu : n < c.fuel) (h0 : I 0 σ h1)
    (hs : ∀ i σ h, i < n → I i σ h → ∃ σ2 h2, (evS c b (σ.set k (some (.int (lo + i)))) h = .nx σ2 h2 ∨ evS c b (σ.set k (some (.int (lo + i)))) h = .ct σ2 h2) ∧ I (i + 1) σ2 h2) :
    ∃ σ' h', evS c (.for_ (.gNm k) it b) σ h = .nx σ' h' ∧ I n σ' h' := by
  rw [s_for, hit]
  exact for_run (tg := (ev c (.gNm k)).g) I (fun i σ h hi hI => by
    obtain ⟨σ2, h2, e, hI2⟩ := hs i σ h hi hI
    refine ⟨.int (lo + i), _, h, ?_, rfl, σ2, h2, e, hI2⟩
    rw [xat_rng, if_pos (by omega)]) (fun σ h hI => by rw [xat_rng, if_neg (by omega)]) n 0 σ h1 (by omega) h0 c.fuel hfu
theorem s_forT {it : ME} {b : MS} {xs : List MV} {tg : ME} {h1 : MH} (I : Nat → En → MH → Prop) (hit : (ev c it).i σ h = .ok (.seq xs) h1) (hfu : xs.length < c.fuel) (h0 : I 0 σ h1)
    (hs : ∀ i v σ h, nth xs i = some v → I i σ h → ∃ σ1 h1, (ev c tg).g v σ h = .ok σ1 h1 ∧ ∃ σ2 h2, (evS c b σ1 h1 = .nx σ2 h2 ∨ evS c b σ1 h1 = .ct σ2 h2) ∧ I (i + 1) σ2 h2) :
    ∃ σ' h', evS c (.for_ tg it b) σ h = .nx σ' h' ∧ I xs.length σ' h' := by
  rw [s_for, hit]
  exact for_run I (fun i σ h hi hI => by
    have e : nth xs i = some xs[i] := by rw [nth_eq]; exact List.getElem?_eq_getElem hi
    obtain ⟨σ1, h1, e1, σ2, h2, e2, hI2⟩ := hs i _ σ h e hI
    exact ⟨_, σ1, h1, by rw [xat_seq, e], e1, σ2, h2, e2, hI2⟩) (fun σ h hI => by rw [xat_seq, nth_eq, List.getElem?_eq_none (Nat.le_refl _)]) xs.length 0 σ h1 (by omega) h0 c.fuel hfu
theorem s_forL {it : ME} {b : MS} {xs : List MV} {tg : ME} {h1 : MH} {a : Nat} (I : Nat → En → MH → Prop) (hit : (ev c it).i σ h = .ok (.lst a) h1) (hfu : xs.length < c.fuel) (h0 : I 0 σ h1) (hl : ∀ i σ h, I i σ h → lstAt h a = some xs)
    (hs : ∀ i v σ h, nth xs i = some v → I i σ h → ∃ σ1 h1, (ev c tg).g v σ h = .ok σ1 h1 ∧ ∃ σ2 h2, (evS c b σ1 h1 = .nx σ2 h2 ∨ evS c b σ1 h1 = .ct σ2 h2) ∧ I (i + 1) σ2 h2) :
    ∃ σ' h', evS c (.for_ tg it b) σ h = .nx σ' h' ∧ I xs.length σ' h' := by
  rw [s_for, hit]
  exact for_run I (fun i σ h hi hI => by
    have e : nth xs i = some xs[i] := by rw [nth_eq]; exact List.getElem?_eq_getElem hi
    obtain ⟨σ1, h1, e1, σ2, h2, e2, hI2⟩ := hs i _ σ h e hI
    exact ⟨_, σ1, h1, by rw [xat_lst (hl _ _ _ hI), e], e1, σ2, h2, e2, hI2⟩) (fun σ h hI => by rw [xat_lst (hl _ _ _ hI), nth_eq, List.getElem?_eq_none (Nat.le_refl _)]) xs.length 0 σ h1 (by omega) h0 c.fuel hfu
theorem ne_win {k : Bool} {i j : Int} : evCmp .NotEq (bif k then MV.tup [.int i, .int j] else .non) (bif k then MV.tup [.int i, .int j] else .non) h = some false := by
  cases k with
  | false => rfl
  | true =>
    refine c_neR (k := true) ?_
    show eqD (.tup [.int i, .int j]) (.tup [.int i, .int j]) h = _
    have e : toD h deep (.tup [.int i, .int j]) = some (.tuple [.int i, .int j]) := rfl
    unfold eqD
    rw [e]
    have e2 : SeqAt.shaped (.tuple [.int i, .int j]) = true := by simp [SeqAt.shaped, PyData.canLay0, PyData.canLayAll0, PyData.depth, PyData.depthAll]
    simp only [e2, Bool.and_self, cond_true]
    simp [PyData.eqv, PyData.eqvAll]
/-- the statements behind the first n -/
def dropS : Nat → MS → MS
  | 0, s => s
  | n + 1, .cons _ r => dropS n r
  | _ + 1, s => s
theorem w_lrng (q1 : Sm.in62 i = true) (q2 : Sm.in62 j = true) (q3 : (j - i).toNat ≤ 16777216) : Sm.lrngV (.int i) (.int j) h = newL ((rngI i (j - i).toNat).map .int) h := by
  show (bif Sm.in62 i && Sm.in62 j && Nat.ble (j - i).toNat szL then newL (Sm.rngL i (j - i).toNat) h else .bad) = _
  rw [q1, q2, xble, xsz, decide_eq_true q3, rngL_eq]
  rfl
end
end Mp
namespace Mp
open PySem
/-- is_whole(value) -/
def d0 : FD := ⟨1, 1,
  (.cons (.ret (.and2 (.isi .int (.var 0)) (.nt (.isi .bool (.var 0)))))
    .nil)⟩
/-- is_tuple_of(value, many) -/
def d2 : FD := ⟨2, 2,
  (.cons (.ret (.and2 (.isi .tup (.var 0)) (.cmp .Eq (.bi .len1 (.cons (.var 0) .nil)) (.var 1))))
    .nil)⟩
/-- window_of(kind, bits, fine, size) -/
def d15 : FD := ⟨2, 4,
  (.cons (.asg (.gTup (.cons (.gNm 2) (.cons (.gNm 3) .nil))) (.var 0))
    (.cons (.ret (.tup (.cons (.var 2) (.cons (.bin .Sub (.bin .Sub (.var 1) (.cst (.int 1))) (.var 3)) .nil))))
    .nil))⟩
/-- fits(number, limit) -/
def d16 : FD := ⟨2, 2,
  (.cons (.ite (.cmp .Lt (.var 1) (.cst (.int 0))) (.cons (.ret (.cmp .Eq (.var 0) (.cst (.int 0))))
    .nil) .nil)
    (.cons (.ret (.cmp2 .LtE .Lt (.neg (.bin .LShift (.cst (.int 1)) (.var 1))) (.var 0) (.bin .LShift (.cst (.int 1)) (.var 1))))
    .nil))⟩
/-- is_parted_by(number, halvings) -/
def d17 : FD := ⟨2, 2,
  (.cons (.ret (.or2 (.cmp .LtE (.var 1) (.cst (.int 0))) (.cmp .Eq (.bin .Mod (.var 0) (.bin .LShift (.cst (.int 1)) (.var 1))) (.cst (.int 0)))))
    .nil)⟩
/-- holds(kind, word, point, fine, size) -/
def d18 : FD := ⟨3, 5,
  (.cons (.asg (.gTup (.cons (.gNm 3) (.cons (.gNm 4) .nil))) (.var 0))
    (.cons (.ret (.and2 (.call 16 (.cons (.var 1) (.cons (.bin .Add (.var 4) (.var 2)) .nil))) (.call 17 (.cons (.var 1) (.cons (.bin .Sub (.var 2) (.var 3)) .nil)))))
    .nil))⟩
/-- moved(word, point, other_point) -/
def d19 : FD := ⟨3, 3,
  (.cons (.ite (.cmp .GtE (.var 2) (.var 1)) (.cons (.ret (.lst (.cons (.bin .LShift (.var 0) (.bin .Sub (.var 2) (.var 1))) .nil)))
    .nil) .nil)
    (.cons (.ite (.nt (.call 17 (.cons (.var 0) (.cons (.bin .Sub (.var 1) (.var 2)) .nil)))) (.cons (.ret (.lst .nil))
    .nil) .nil)
    (.cons (.ret (.lst (.cons (.bin .RShift (.var 0) (.bin .Sub (.var 1) (.var 2))) .nil)))
    .nil)))⟩
/-- _law_deal(pail, top, figure, mixed) -/
def d231 : FD := ⟨2, 4,
  (.cons (.ite (.cmp .Gt (.ix (.var 0) (.cst (.int 0))) (.cst (.int 0))) (.cons (.asg (.gTup (.cons (.gIx (.var 0) (.cst (.int 0))) (.cons (.gNm 2) .nil))) (.bi .divmod2 (.cons (.ix (.var 0) (.cst (.int 0))) (.cons (.var 1) .nil))))
    (.cons (.ret (.var 2))
    .nil)) .nil)
    (.cons (.asg (.gIx (.var 0) (.cst (.int 2))) (.bin .Add (.ix (.var 0) (.cst (.int 2))) (.cst (.int 1))))
    (.cons (.asg (.gNm 3) (.bin .Mod (.bi .int1 (.cons (.bin .Add (.bin .Mult (.ix (.var 0) (.cst (.int 1))) (.cst (.int 15511))) (.bin .Mult (.cst (.int 11903)) (.ix (.var 0) (.cst (.int 2))))) .nil)) (.cst (.int 2147483423))))
    (.cons (.asg (.gIx (.var 0) (.cst (.int 1))) (.bin .Mod (.bi .int1 (.cons (.bin .Add (.bin .Mult (.var 3) (.bin .Add (.bin .Mod (.bi .int1 (.cons (.var 3) .nil)) (.cst (.int 5147))) (.cst (.int 30011)))) (.bin .Mult (.cst (.int 31)) (.ix (.var 0) (.cst (.int 2))))) .nil)) (.cst (.int 2147483423))))
    (.cons (.ret (.bin .Mod (.bi .int1 (.cons (.bin .FloorDiv (.ix (.var 0) (.cst (.int 1))) (.cst (.int 349))) .nil)) (.var 1)))
    .nil)))))⟩
/-- _law_any(pail, some) -/
def d232 : FD := ⟨2, 2,
  (.cons (.ret (.ix (.var 1) (.call 231 (.cons (.var 0) (.cons (.bi .len1 (.cons (.var 1) .nil)) .nil)))))
    .nil)⟩
/-- is_number(value, low, high) -/
def d280 : FD := ⟨3, 3,
  (.cons (.ret (.and2 (.call 0 (.cons (.var 0) .nil)) (.cmp2 .LtE .LtE (.var 1) (.var 0) (.var 2))))
    .nil)⟩
/-- is_bits(value) -/
def d285 : FD := ⟨1, 1,
  (.cons (.ret (.call 280 (.cons (.var 0) (.cons (.gl 185) (.cons (.gl 186) .nil)))))
    .nil)⟩
/-- is_place(value) -/
def d286 : FD := ⟨1, 1,
  (.cons (.ret (.call 280 (.cons (.var 0) (.cons (.neg (.gl 12)) (.cons (.gl 12) .nil)))))
    .nil)⟩
/-- is_kind_form(value) -/
def d287 : FD := ⟨1, 1,
  (.cons (.ite (.or2 (.nt (.call 2 (.cons (.var 0) (.cons (.cst (.int 2)) .nil)))) (.or2 (.nt (.call 286 (.cons (.ix (.var 0) (.cst (.int 0))) .nil))) (.nt (.call 286 (.cons (.ix (.var 0) (.cst (.int 1))) .nil))))) (.cons (.ret (.cst (.bl false)))
    .nil) .nil)
    (.cons (.ret (.cmp .GtE (.bin .Add (.ix (.var 0) (.cst (.int 0))) (.ix (.var 0) (.cst (.int 1)))) (.cst (.int 0))))
    .nil))⟩
/-- _law_pail(script, turn, mixed, cell, own) -/
def d304 : FD := ⟨2, 5,
  (.cons (.asg (.gNm 2) (.bin .Add (.cst (.int 1800011)) (.bin .Mult (.cst (.int 11003)) (.var 1))))
    (.cons (.for_ (.gNm 3) (.iSeq (.sl (.var 0) .nil (.cst (.int 12)))) (.cons (.asg (.gNm 2) (.bin .Mod (.bi .int1 (.cons (.bin .Add (.bin .Add (.bin .Mult (.var 2) (.cst (.int 65071))) (.bin .Mult (.bin .Mod (.bi .int1 (.cons (.var 3) .nil)) (.cst (.int 2147483423))) (.cst (.int 17)))) (.cst (.int 5))) .nil)) (.cst (.int 2147483423))))
    .nil))
    (.cons (.asg (.gNm 4) (.ife (.cmp .Lt (.var 1) (.bi .len1 (.cons (.var 0) .nil))) (.bi .int1 (.cons (.ix (.var 0) (.var 1)) .nil)) (.cst (.int 0))))
    (.cons (.asg (.gNm 2) (.bin .Mod (.bi .int1 (.cons (.bin .Add (.bin .Add (.bin .Mult (.var 2) (.cst (.int 61))) (.bin .Mult (.bin .Mod (.bi .int1 (.cons (.var 4) .nil)) (.cst (.int 2147483423))) (.cst (.int 30011)))) (.cst (.int 7))) .nil)) (.cst (.int 2147483423))))
    (.cons (.ret (.lst (.cons (.ife (.or2 (.cmp .Lt (.var 4) (.cst (.int 0))) (.cmp .GtE (.var 4) (.bin .Pow (.cst (.int 10)) (.cst (.int 15))))) (.bi .abs1 (.cons (.var 4) .nil)) (.cst (.int 0))) (.cons (.var 2) (.cons (.cst (.int 0)) .nil)))))
    .nil)))))⟩
/-- is_far_point(value) -/
def d319 : FD := ⟨1, 1,
  (.cons (.ret (.call 280 (.cons (.var 0) (.cons (.neg (.gl 202)) (.cons (.gl 202) .nil)))))
    .nil)⟩
/-- is_word_of(value, bits) -/
def d320 : FD := ⟨2, 2,
  (.cons (.ret (.call 280 (.cons (.var 0) (.cons (.neg (.bin .LShift (.cst (.int 1)) (.bin .Sub (.var 1) (.cst (.int 1))))) (.cons (.bin .Sub (.bin .LShift (.cst (.int 1)) (.bin .Sub (.var 1) (.cst (.int 1)))) (.cst (.int 1))) .nil)))))
    .nil)⟩
/-- check_kind(value) -/
def d321 : FD := ⟨1, 1,
  (.cons (.ite (.nt (.call 287 (.cons (.var 0) .nil))) (.cons .never
    .nil) .nil)
    .nil)⟩
/-- check_word(value) -/
def d322 : FD := ⟨1, 1,
  (.cons (.ite (.nt (.call 320 (.cons (.var 0) (.cons (.gl 186) .nil)))) (.cons .never
    .nil) .nil)
    .nil)⟩
/-- check_far_point(value) -/
def d323 : FD := ⟨1, 1,
  (.cons (.ite (.nt (.call 319 (.cons (.var 0) .nil))) (.cons .never
    .nil) .nil)
    .nil)⟩
/-- window(kind, bits, low, high) -/
def d325 : FD := ⟨2, 4,
  (.cons (.ex (.call 321 (.cons (.var 0) .nil)))
    (.cons (.ite (.nt (.call 285 (.cons (.var 1) .nil))) (.cons .never
    .nil) .nil)
    (.cons (.asg (.gTup (.cons (.gNm 2) (.cons (.gNm 3) .nil))) (.call 15 (.cons (.var 0) (.cons (.var 1) .nil))))
    (.cons (.ret (.ife (.cmp .LtE (.var 2) (.var 3)) (.tup (.cons (.var 2) (.cons (.var 3) .nil))) (.cst .non)))
    .nil))))⟩
/-- in_kind(kind, word, point) -/
def d326 : FD := ⟨3, 3,
  (.cons (.ex (.call 321 (.cons (.var 0) .nil)))
    (.cons (.ex (.call 322 (.cons (.var 1) .nil)))
    (.cons (.ex (.call 323 (.cons (.var 2) .nil)))
    (.cons (.ret (.call 18 (.cons (.var 0) (.cons (.var 1) (.cons (.var 2) .nil)))))
    .nil))))⟩
/-- at_point(word, point, other_point, number) -/
def d327 : FD := ⟨3, 4,
  (.cons (.ex (.call 322 (.cons (.var 0) .nil)))
    (.cons (.ex (.call 323 (.cons (.var 1) .nil)))
    (.cons (.ex (.call 323 (.cons (.var 2) .nil)))
    (.cons (.for_ (.gNm 3) (.iSeq (.call 19 (.cons (.var 0) (.cons (.var 1) (.cons (.var 2) .nil))))) (.cons (.ret (.var 3))
    .nil))
    (.cons (.ret (.cst .non))
    .nil)))))⟩
/-- _law_held(word, spot, other, bits, new, bound) -/
def d345 : FD := ⟨4, 6,
  (.cons (.asg (.gTup (.cons (.gNm 4) (.cons (.gNm 5) .nil))) (.tup (.cons (.callk 327 (.cons (.var 0) (.cons (.var 1) .nil)) (.cons (.var 2) .nil) [0, 1, 2]) (.cons (.bin .LShift (.cst (.int 1)) (.bin .Sub (.var 3) (.cst (.int 1)))) .nil))))
    (.cons (.ret (.and2 (.cmp .IsNot (.var 4) (.cst .non)) (.cmp2 .LtE .Lt (.bin .Sub (.cst (.int 0)) (.var 5)) (.var 4) (.var 5))))
    .nil))⟩
/-- _law_kind_right(sort, bits, left, many, had, low, high, spot, is_all, word, told, odd, even) -/
def d346 : FD := ⟨2, 13,
  (.cons (.asg (.gTup (.cons (.gNm 2) (.cons (.gNm 3) .nil))) (.tup (.cons (.ix (.var 0) (.cst (.int 0))) (.cons (.bin .LShift (.cst (.int 1)) (.bin .Add (.ix (.var 0) (.cst (.int 0))) (.ix (.var 0) (.cst (.int 1))))) .nil))))
    (.cons (.asg (.gTup (.cons (.gNm 4) (.cons (.gNm 5) (.cons (.gNm 6) .nil)))) (.tup (.cons (.callk 325 (.cons (.var 0) .nil) (.cons (.var 1) .nil) [0, 1]) (.cons (.var 2) (.cons (.bin .Sub (.bin .Sub (.var 1) (.cst (.int 1))) (.ix (.var 0) (.cst (.int 1)))) .nil)))))
    (.cons (.ite (.cmp .NotEq (.var 4) (.ife (.cmp .LtE (.var 5) (.var 6)) (.tup (.cons (.var 5) (.cons (.var 6) .nil))) (.cst .non))) (.cons (.ret (.cst (.bl false)))
    .nil) .nil)
    (.cons (.for_ (.gNm 7) (.iRng2 (.bin .Sub (.bi .min2 (.cons (.var 5) (.cons (.var 6) .nil))) (.cst (.int 2))) (.bin .Add (.bi .max2 (.cons (.var 5) (.cons (.var 6) .nil))) (.cst (.int 3)))) (.cons (.asg (.gNm 8) (.cmp .Eq (.lc (.gNm 9) (.iRng2 (.bin .Sub (.cst (.int 0)) (.var 3)) (.var 3)) (.nt (.call 345 (.cons (.var 9) (.cons (.var 2) (.cons (.var 7) (.cons (.var 1) .nil)))))) (.var 9) [9]) (.lst .nil)))
    (.cons (.ite (.cmp .NotEq (.var 8) (.and2 (.cmp .IsNot (.var 4) (.cst .non)) (.cmp2 .LtE .LtE (.ix (.var 4) (.cst (.int 0))) (.var 7) (.ix (.var 4) (.cst (.int 1)))))) (.cons (.ret (.cst (.bl false)))
    .nil) .nil)
    .nil)))
    (.cons (.asg (.gNm 10) (.lc (.gNm 9) (.iRng2 (.bin .Sub (.bin .Sub (.cst (.int 0)) (.var 3)) (.cst (.int 2))) (.bin .Add (.var 3) (.cst (.int 2)))) .nil (.call 326 (.cons (.var 0) (.cons (.var 9) (.cons (.var 2) .nil)))) [9]))
    (.cons (.ite (.cmp .NotEq (.var 10) (.bin .Add (.bin .Add (.lst (.cons (.cst (.bl false)) (.cons (.cst (.bl false)) .nil))) (.bin .Mult (.lst (.cons (.cst (.bl true)) .nil)) (.bin .Mult (.cst (.int 2)) (.var 3)))) (.lst (.cons (.cst (.bl false)) (.cons (.cst (.bl false)) .nil))))) (.cons (.ret (.cst (.bl false)))
    .nil) .nil)
    (.cons (.asg (.gNm 11) (.lc (.gNm 9) (.iRng2 (.bin .Sub (.cst (.int 0)) (.var 3)) (.var 3)) .nil (.call 326 (.cons (.var 0) (.cons (.bin .Add (.bin .Mult (.cst (.int 2)) (.var 9)) (.cst (.int 1))) (.cons (.bin .Add (.var 2) (.cst (.int 1))) .nil)))) [9]))
    (.cons (.asg (.gNm 12) (.lc (.gNm 9) (.iRng2 (.bin .Sub (.cst (.int 0)) (.var 3)) (.var 3)) .nil (.callk 326 .nil (.cons (.var 0) (.cons (.bin .Mult (.cst (.int 4)) (.var 9)) (.cons (.bin .Add (.var 2) (.cst (.int 2))) .nil))) [0, 1, 2]) [9]))
    (.cons (.ret (.and2 (.cmp .Eq (.var 11) (.bin .Mult (.lst (.cons (.cst (.bl false)) .nil)) (.bin .Mult (.cst (.int 2)) (.var 3)))) (.cmp .Eq (.var 12) (.bin .Mult (.lst (.cons (.cst (.bl true)) .nil)) (.bin .Mult (.cst (.int 2)) (.var 3))))))
    .nil)))))))))⟩
/-- _law_number_right(pail, spot, bits, word, held, other) -/
def d347 : FD := ⟨1, 6,
  (.cons (.asg (.gTup (.cons (.gNm 1) (.cons (.gNm 2) .nil))) (.tup (.cons (.bin .Sub (.call 231 (.cons (.var 0) (.cons (.cst (.int 21)) .nil))) (.cst (.int 10))) (.cons (.bin .Add (.cst (.int 2)) (.call 231 (.cons (.var 0) (.cons (.cst (.int 30)) .nil)))) .nil))))
    (.cons (.asg (.gNm 3) (.bin .Mult (.bin .Sub (.call 231 (.cons (.var 0) (.cons (.cst (.int 64)) .nil))) (.cst (.int 32))) (.call 232 (.cons (.var 0) (.cons (.lst (.cons (.cst (.int 1)) (.cons (.cst (.int 2)) (.cons (.cst (.int 4)) (.cons (.cst (.int 32)) (.cons (.cst (.int 96)) .nil)))))) .nil)))))
    (.cons (.asg (.gNm 4) (.lc (.gNm 5) (.iRng2 (.neg (.cst (.int 45))) (.cst (.int 46))) (.call 345 (.cons (.var 3) (.cons (.var 1) (.cons (.var 5) (.cons (.var 2) .nil))))) (.var 5) [5]))
    (.cons (.ite (.and2 (.cmp .NotEq (.var 4) (.lst .nil)) (.cmp .NotEq (.var 4) (.lrng2 (.ix (.var 4) (.cst (.int 0))) (.bin .Add (.ix (.var 4) (.neg (.cst (.int 1)))) (.cst (.int 1)))))) (.cons (.ret (.cst (.bl false)))
    .nil) .nil)
    (.cons (.for_ (.gNm 5) (.iSeq (.var 4)) (.cons (.ite (.cmp .NotEq (.call 327 (.cons (.call 327 (.cons (.var 3) (.cons (.var 1) (.cons (.var 5) .nil)))) (.cons (.var 5) (.cons (.var 1) .nil)))) (.var 3)) (.cons (.ret (.cst (.bl false)))
    .nil) .nil)
    .nil))
    (.cons (.ret (.or2 (.cmp .NotEq (.var 3) (.cst (.int 0))) (.cmp .Eq (.bi .len1 (.cons (.var 4) .nil)) (.cst (.int 91)))))
    .nil))))))⟩
/-- _law_right(pail, turn, size, left, sort, bits, k) -/
def d348 : FD := ⟨1, 7,
  (.cons (.for_ (.gNm 1) (.iRng1 (.cst (.int 4))) (.cons (.asg (.gTup (.cons (.gNm 2) (.cons (.gNm 3) .nil))) (.tup (.cons (.call 231 (.cons (.var 0) (.cons (.cst (.int 6)) .nil))) (.cons (.call 232 (.cons (.var 0) (.cons (.lst (.cons (.cst (.int 0)) (.cons (.cst (.int 1)) (.cons (.cst (.int 3)) (.cons (.neg (.cst (.int 2))) (.cons (.cst (.int 12)) (.cons (.neg (.cst (.int 9))) (.cons (.bin .Sub (.call 231 (.cons (.var 0) (.cons (.cst (.int 30)) .nil))) (.cst (.int 15))) .nil)))))))) .nil))) .nil))))
    (.cons (.asg (.gNm 4) (.tup (.cons (.var 3) (.cons (.bin .Sub (.var 2) (.var 3)) .nil))))
    (.cons (.for_ (.gNm 5) (.iSeq (.tup (.cons (.bi .max2 (.cons (.cst (.int 2)) (.cons (.var 2) .nil))) (.cons (.bin .Add (.var 2) (.cst (.int 2))) (.cons (.bin .Add (.bin .Add (.var 2) (.cst (.int 1))) (.call 231 (.cons (.var 0) (.cons (.cst (.int 6)) .nil)))) (.cons (.cst (.int 40)) .nil)))))) (.cons (.ite (.nt (.call 346 (.cons (.var 4) (.cons (.bi .min2 (.cons (.cst (.int 40)) (.cons (.bi .max2 (.cons (.cst (.int 2)) (.cons (.var 5) .nil))) .nil))) .nil)))) (.cons (.ret (.cst (.bl false)))
    .nil) .nil)
    .nil))
    (.cons (.for_ (.gNm 6) (.iRng1 (.cst (.int 4))) (.cons (.ite (.nt (.call 347 (.cons (.var 0) .nil))) (.cons (.ret (.cst (.bl false)))
    .nil) .nil)
    .nil))
    .nil)))))
    (.cons (.ret (.cst (.bl true)))
    .nil))⟩
/-- law(script, turn) -/
def d349 : FD := ⟨1, 2,
  (.cons (.ret (.bi .all1 (.cons (.lc (.gNm 1) (.iRng1 (.bi .max2 (.cons (.cst (.int 1)) (.cons (.bi .min2 (.cons (.bi .len1 (.cons (.var 0) .nil)) (.cons (.cst (.int 3)) .nil))) .nil)))) .nil (.call 348 (.cons (.call 304 (.cons (.var 0) (.cons (.var 1) .nil))) .nil)) [1]) .nil)))
    .nil)⟩
def fnT : Nat → Option FD
  | 0 => some d0
  | 2 => some d2
  | 15 => some d15
  | 16 => some d16
  | 17 => some d17
  | 18 => some d18
  | 19 => some d19
  | 231 => some d231
  | 232 => some d232
  | 280 => some d280
  | 285 => some d285
  | 286 => some d286
  | 287 => some d287
  | 304 => some d304
  | 319 => some d319
  | 320 => some d320
  | 321 => some d321
  | 322 => some d322
  | 323 => some d323
  | 325 => some d325
  | 326 => some d326
  | 327 => some d327
  | 345 => some d345
  | 346 => some d346
  | 347 => some d347
  | 348 => some d348
  | 349 => some d349
  | _ => none
def conT : Nat → Option MV
  | 12 => some (.int 20)
  | 185 => some (.int 2)
  | 186 => some (.int 40)
  | 202 => some (.int 99)
  | _ => none
def Q : Pg := ⟨fnT, conT, 100000⟩
theorem fn0 : Q.fn 0 = some d0 := rfl
theorem fn2 : Q.fn 2 = some d2 := rfl
theorem fn15 : Q.fn 15 = some d15 := rfl
theorem fn16 : Q.fn 16 = some d16 := rfl
theorem fn17 : Q.fn 17 = some d17 := rfl
theorem fn18 : Q.fn 18 = some d18 := rfl
theorem fn19 : Q.fn 19 = some d19 := rfl
theorem fn231 : Q.fn 231 = some d231 := rfl
theorem fn232 : Q.fn 232 = some d232 := rfl
theorem fn280 : Q.fn 280 = some d280 := rfl
theorem fn285 : Q.fn 285 = some d285 := rfl
theorem fn286 : Q.fn 286 = some d286 := rfl
theorem fn287 : Q.fn 287 = some d287 := rfl
theorem fn304 : Q.fn 304 = some d304 := rfl
theorem fn319 : Q.fn 319 = some d319 := rfl
theorem fn320 : Q.fn 320 = some d320 := rfl
theorem fn321 : Q.fn 321 = some d321 := rfl
theorem fn322 : Q.fn 322 = some d322 := rfl
theorem fn323 : Q.fn 323 = some d323 := rfl
theorem fn325 : Q.fn 325 = some d325 := rfl
theorem fn326 : Q.fn 326 = some d326 := rfl
theorem fn327 : Q.fn 327 = some d327 := rfl
theorem fn345 : Q.fn 345 = some d345 := rfl
theorem fn346 : Q.fn 346 = some d346 := rfl
theorem fn347 : Q.fn 347 = some d347 := rfl
theorem fn348 : Q.fn 348 = some d348 := rfl
theorem fn349 : Q.fn 349 = some d349 := rfl
/-- MOST_FINE -/
theorem con12 : Q.con 12 = some (.int 20) := rfl
/-- LEAST_BITS -/
theorem con185 : Q.con 185 = some (.int 2) := rfl
/-- MOST_BITS -/
theorem con186 : Q.con 186 = some (.int 40) := rfl
/-- MOST_POINT -/
theorem con202 : Q.con 202 = some (.int 99) := rfl
end Mp
namespace Mp
open PySem
theorem is_whole_i (d : Nat) (i : Int) (h : MH) : callD Q (d + 1) 0 [.int i] h = .ok (.bl true) h := rfl
theorem is_number_i (d : Nat) (v lo hi : Int) (h : MH) : callD Q (d + 2) 280 [.int v, .int lo, .int hi] h = .ok (.bl (decide (lo ≤ v) && decide (v ≤ hi))) h := by
  rw [call_en fn280 rfl]
  simp only [d280, xok, xbad, xexc, xbind, xst, xstbad, xstexc, xstbind, xgiv, xgivN, xnoE, xnx, xrt, xbk, xct, xex, xbs, xonx, xort, xoex, xjoin, xn0, xn1, xs0, xs1, e_cst, e_var, e_gl, e_bin, e_neg, e_nt, e_and, e_or, e_cmp, e_cmp2, e_ife, e_tup, e_lst, e_ix, e_sl, e_call, e_callk, e_bi, e_isi, e_lc, e_lrng1, e_lrng2, t_cst, t_var, t_call, t_callk, t_ix, t_bi, t_bin, t_isi, t_lc, t_nil, t_nt, t_and, t_or, t_cmp, t_cmp2, t_ife, p_nil, p_cst, p_int, p_var, p_bin, p_call, p_neg, p_ix, p_bi, l_nil0, l_cons, i_seq, i_rng1, i_rng2, g_nm, g_tup, gs_nil, gs_cons, g_ix, s_nil, s_cons, s_asg, s_ex, s_ret, s_ret0, s_pass, s_brk, s_cont, s_ite, s_whl, s_for, s_never, o_add, o_sub, o_mul, o_mulR, o_fdiv, o_mod, o_pow, o_shl, o_shr, o_addL, o_neg, o_not, o_and, o_or, c_lt, c_le, c_gt, c_ge, c_eq, c_ne, c_eqs, c_nes, c_eqb, c_neb, c_is, c_isnt, n_non, n_int, n_tup, n_ref, n_str, u_bl, u_int, u_non, u_tup, k_ii, k_bi, k_tt, b_int, b_abs, b_lent, b_lenl, b_max, b_min, b_divmod, b_all, w_rng, w_tup, w_lst, xbok, xbrt, xbnx, xbbl, xbst, xbb, xbseq, xbout, xcf, xct1, xpow, x64, xdv, x62, xble, xsz, xnew, xat_lst, xat_seq, xat_rng, xnil, e_lcR, startE, List.map_cons, List.map_nil, List.length_cons, List.length_nil, List.replicate, List.append_nil, List.cons_append, List.nil_append, Nat.sub_self, Nat.zero_add, Nat.reduceAdd, Nat.reduceSub, Nat.reduceMul, Nat.reducePow, Nat.reduceLeDiff, cond_true, cond_false, Bool.true_and, Bool.and_true, Bool.false_and, Bool.and_false, Bool.true_or, Bool.or_true, Bool.false_or, Bool.or_false, Bool.not_true, Bool.not_false, Bool.and_self, Int.reduceSub, Int.reduceAdd, Int.reduceMul, Int.reduceNeg, Int.reducePow, Int.reduceLE, Int.reduceLT, Int.reduceToNat, Int.reduceEq, Int.neg_neg, Int.one_mul, decide_true, decide_false, is_whole_i]
theorem is_bits_i (d : Nat) (v : Int) (h : MH) : callD Q (d + 3) 285 [.int v] h = .ok (.bl (decide (2 ≤ v) && decide (v ≤ 40))) h := by
  rw [call_en fn285 rfl]
  simp only [d285, xok, xbad, xexc, xbind, xst, xstbad, xstexc, xstbind, xgiv, xgivN, xnoE, xnx, xrt, xbk, xct, xex, xbs, xonx, xort, xoex, xjoin, xn0, xn1, xs0, xs1, e_cst, e_var, e_gl, e_bin, e_neg, e_nt, e_and, e_or, e_cmp, e_cmp2, e_ife, e_tup, e_lst, e_ix, e_sl, e_call, e_callk, e_bi, e_isi, e_lc, e_lrng1, e_lrng2, t_cst, t_var, t_call, t_callk, t_ix, t_bi, t_bin, t_isi, t_lc, t_nil, t_nt, t_and, t_or, t_cmp, t_cmp2, t_ife, p_nil, p_cst, p_int, p_var, p_bin, p_call, p_neg, p_ix, p_bi, l_nil0, l_cons, i_seq, i_rng1, i_rng2, g_nm, g_tup, gs_nil, gs_cons, g_ix, s_nil, s_cons, s_asg, s_ex, s_ret, s_ret0, s_pass, s_brk, s_cont, s_ite, s_whl, s_for, s_never, o_add, o_sub, o_mul, o_mulR, o_fdiv, o_mod, o_pow, o_shl, o_shr, o_addL, o_neg, o_not, o_and, o_or, c_lt, c_le, c_gt, c_ge, c_eq, c_ne, c_eqs, c_nes, c_eqb, c_neb, c_is, c_isnt, n_non, n_int, n_tup, n_ref, n_str, u_bl, u_int, u_non, u_tup, k_ii, k_bi, k_tt, b_int, b_abs, b_lent, b_lenl, b_max, b_min, b_divmod, b_all, w_rng, w_tup, w_lst, xbok, xbrt, xbnx, xbbl, xbst, xbb, xbseq, xbout, xcf, xct1, xpow, x64, xdv, x62, xble, xsz, xnew, xat_lst, xat_seq, xat_rng, xnil, e_lcR, startE, List.map_cons, List.map_nil, List.length_cons, List.length_nil, List.replicate, List.append_nil, List.cons_append, List.nil_append, Nat.sub_self, Nat.zero_add, Nat.reduceAdd, Nat.reduceSub, Nat.reduceMul, Nat.reducePow, Nat.reduceLeDiff, cond_true, cond_false, Bool.true_and, Bool.and_true, Bool.false_and, Bool.and_false, Bool.true_or, Bool.or_true, Bool.false_or, Bool.or_false, Bool.not_true, Bool.not_false, Bool.and_self, Int.reduceSub, Int.reduceAdd, Int.reduceMul, Int.reduceNeg, Int.reducePow, Int.reduceLE, Int.reduceLT, Int.reduceToNat, Int.reduceEq, Int.neg_neg, Int.one_mul, decide_true, decide_false, is_number_i, con185, con186]
theorem is_place_i (d : Nat) (v : Int) (h : MH) : callD Q (d + 3) 286 [.int v] h = .ok (.bl (decide (-20 ≤ v) && decide (v ≤ 20))) h := by
  rw [call_en fn286 rfl]
  simp only [d286, xok, xbad, xexc, xbind, xst, xstbad, xstexc, xstbind, xgiv, xgivN, xnoE, xnx, xrt, xbk, xct, xex, xbs, xonx, xort, xoex, xjoin, xn0, xn1, xs0, xs1, e_cst, e_var, e_gl, e_bin, e_neg, e_nt, e_and, e_or, e_cmp, e_cmp2, e_ife, e_tup, e_lst, e_ix, e_sl, e_call, e_callk, e_bi, e_isi, e_lc, e_lrng1, e_lrng2, t_cst, t_var, t_call, t_callk, t_ix, t_bi, t_bin, t_isi, t_lc, t_nil, t_nt, t_and, t_or, t_cmp, t_cmp2, t_ife, p_nil, p_cst, p_int, p_var, p_bin, p_call, p_neg, p_ix, p_bi, l_nil0, l_cons, i_seq, i_rng1, i_rng2, g_nm, g_tup, gs_nil, gs_cons, g_ix, s_nil, s_cons, s_asg, s_ex, s_ret, s_ret0, s_pass, s_brk, s_cont, s_ite, s_whl, s_for, s_never, o_add, o_sub, o_mul, o_mulR, o_fdiv, o_mod, o_pow, o_shl, o_shr, o_addL, o_neg, o_not, o_and, o_or, c_lt, c_le, c_gt, c_ge, c_eq, c_ne, c_eqs, c_nes, c_eqb, c_neb, c_is, c_isnt, n_non, n_int, n_tup, n_ref, n_str, u_bl, u_int, u_non, u_tup, k_ii, k_bi, k_tt, b_int, b_abs, b_lent, b_lenl, b_max, b_min, b_divmod, b_all, w_rng, w_tup, w_lst, xbok, xbrt, xbnx, xbbl, xbst, xbb, xbseq, xbout, xcf, xct1, xpow, x64, xdv, x62, xble, xsz, xnew, xat_lst, xat_seq, xat_rng, xnil, e_lcR, startE, List.map_cons, List.map_nil, List.length_cons, List.length_nil, List.replicate, List.append_nil, List.cons_append, List.nil_append, Nat.sub_self, Nat.zero_add, Nat.reduceAdd, Nat.reduceSub, Nat.reduceMul, Nat.reducePow, Nat.reduceLeDiff, cond_true, cond_false, Bool.true_and, Bool.and_true, Bool.false_and, Bool.and_false, Bool.true_or, Bool.or_true, Bool.false_or, Bool.or_false, Bool.not_true, Bool.not_false, Bool.and_self, Int.reduceSub, Int.reduceAdd, Int.reduceMul, Int.reduceNeg, Int.reducePow, Int.reduceLE, Int.reduceLT, Int.reduceToNat, Int.reduceEq, Int.neg_neg, Int.one_mul, decide_true, decide_false, is_number_i, con12]
theorem is_far_point_i (d : Nat) (v : Int) (h : MH) : callD Q (d + 3) 319 [.int v] h = .ok (.bl (decide (-99 ≤ v) && decide (v ≤ 99))) h := by
  rw [call_en fn319 rfl]
  simp only [d319, xok, xbad, xexc, xbind, xst, xstbad, xstexc, xstbind, xgiv, xgivN, xnoE, xnx, xrt, xbk, xct, xex, xbs, xonx, xort, xoex, xjoin, xn0, xn1, xs0, xs1, e_cst, e_var, e_gl, e_bin, e_neg, e_nt, e_and, e_or, e_cmp, e_cmp2, e_ife, e_tup, e_lst, e_ix, e_sl, e_call, e_callk, e_bi, e_isi, e_lc, e_lrng1, e_lrng2, t_cst, t_var, t_call, t_callk, t_ix, t_bi, t_bin, t_isi, t_lc, t_nil, t_nt, t_and, t_or, t_cmp, t_cmp2, t_ife, p_nil, p_cst, p_int, p_var, p_bin, p_call, p_neg, p_ix, p_bi, l_nil0, l_cons, i_seq, i_rng1, i_rng2, g_nm, g_tup, gs_nil, gs_cons, g_ix, s_nil, s_cons, s_asg, s_ex, s_ret, s_ret0, s_pass, s_brk, s_cont, s_ite, s_whl, s_for, s_never, o_add, o_sub, o_mul, o_mulR, o_fdiv, o_mod, o_pow, o_shl, o_shr, o_addL, o_neg, o_not, o_and, o_or, c_lt, c_le, c_gt, c_ge, c_eq, c_ne, c_eqs, c_nes, c_eqb, c_neb, c_is, c_isnt, n_non, n_int, n_tup, n_ref, n_str, u_bl, u_int, u_non, u_tup, k_ii, k_bi, k_tt, b_int, b_abs, b_lent, b_lenl, b_max, b_min, b_divmod, b_all, w_rng, w_tup, w_lst, xbok, xbrt, xbnx, xbbl, xbst, xbb, xbseq, xbout, xcf, xct1, xpow, x64, xdv, x62, xble, xsz, xnew, xat_lst, xat_seq, xat_rng, xnil, e_lcR, startE, List.map_cons, List.map_nil, List.length_cons, List.length_nil, List.replicate, List.append_nil, List.cons_append, List.nil_append, Nat.sub_self, Nat.zero_add, Nat.reduceAdd, Nat.reduceSub, Nat.reduceMul, Nat.reducePow, Nat.reduceLeDiff, cond_true, cond_false, Bool.true_and, Bool.and_true, Bool.false_and, Bool.and_false, Bool.true_or, Bool.or_true, Bool.false_or, Bool.or_false, Bool.not_true, Bool.not_false, Bool.and_self, Int.reduceSub, Int.reduceAdd, Int.reduceMul, Int.reduceNeg, Int.reducePow, Int.reduceLE, Int.reduceLT, Int.reduceToNat, Int.reduceEq, Int.neg_neg, Int.one_mul, decide_true, decide_false, is_number_i, con202]
theorem is_word_of_40 (d : Nat) (v : Int) (h : MH) : callD Q (d + 3) 320 [.int v, .int 40] h = .ok (.bl (decide (-549755813888 ≤ v) && decide (v ≤ 549755813887))) h := by
  rw [call_en fn320 rfl]
  simp only [d320, xok, xbad, xexc, xbind, xst, xstbad, xstexc, xstbind, xgiv, xgivN, xnoE, xnx, xrt, xbk, xct, xex, xbs, xonx, xort, xoex, xjoin, xn0, xn1, xs0, xs1, e_cst, e_var, e_gl, e_bin, e_neg, e_nt, e_and, e_or, e_cmp, e_cmp2, e_ife, e_tup, e_lst, e_ix, e_sl, e_call, e_callk, e_bi, e_isi, e_lc, e_lrng1, e_lrng2, t_cst, t_var, t_call, t_callk, t_ix, t_bi, t_bin, t_isi, t_lc, t_nil, t_nt, t_and, t_or, t_cmp, t_cmp2, t_ife, p_nil, p_cst, p_int, p_var, p_bin, p_call, p_neg, p_ix, p_bi, l_nil0, l_cons, i_seq, i_rng1, i_rng2, g_nm, g_tup, gs_nil, gs_cons, g_ix, s_nil, s_cons, s_asg, s_ex, s_ret, s_ret0, s_pass, s_brk, s_cont, s_ite, s_whl, s_for, s_never, o_add, o_sub, o_mul, o_mulR, o_fdiv, o_mod, o_pow, o_shl, o_shr, o_addL, o_neg, o_not, o_and, o_or, c_lt, c_le, c_gt, c_ge, c_eq, c_ne, c_eqs, c_nes, c_eqb, c_neb, c_is, c_isnt, n_non, n_int, n_tup, n_ref, n_str, u_bl, u_int, u_non, u_tup, k_ii, k_bi, k_tt, b_int, b_abs, b_lent, b_lenl, b_max, b_min, b_divmod, b_all, w_rng, w_tup, w_lst, xbok, xbrt, xbnx, xbbl, xbst, xbb, xbseq, xbout, xcf, xct1, xpow, x64, xdv, x62, xble, xsz, xnew, xat_lst, xat_seq, xat_rng, xnil, e_lcR, startE, List.map_cons, List.map_nil, List.length_cons, List.length_nil, List.replicate, List.append_nil, List.cons_append, List.nil_append, Nat.sub_self, Nat.zero_add, Nat.reduceAdd, Nat.reduceSub, Nat.reduceMul, Nat.reducePow, Nat.reduceLeDiff, cond_true, cond_false, Bool.true_and, Bool.and_true, Bool.false_and, Bool.and_false, Bool.true_or, Bool.or_true, Bool.false_or, Bool.or_false, Bool.not_true, Bool.not_false, Bool.and_self, Int.reduceSub, Int.reduceAdd, Int.reduceMul, Int.reduceNeg, Int.reducePow, Int.reduceLE, Int.reduceLT, Int.reduceToNat, Int.reduceEq, Int.neg_neg, Int.one_mul, decide_true, decide_false, is_number_i]
theorem is_kind_form_i (d : Nat) (f s : Int) (h : MH) : callD Q (d + 4) 287 [.tup [.int f, .int s]] h = .ok (.bl (decide (-20 ≤ f) && decide (f ≤ 20) && (decide (-20 ≤ s) && decide (s ≤ 20)) && decide (0 ≤ f + s))) h := by
  rw [call_en fn287 rfl]
  have e1 : ∀ h, callD Q (d + 3) 2 [.tup [.int f, .int s], .int 2] h = .ok (.bl true) h := fun h => rfl
  have e2 : ∀ h, evIx (.tup [.int f, .int s]) (.int 0) h = some (.int f) := fun h => rfl
  have e3 : ∀ h, evIx (.tup [.int f, .int s]) (.int 1) h = some (.int s) := fun h => rfl
  simp only [d287, xok, xbad, xexc, xbind, xst, xstbad, xstexc, xstbind, xgiv, xgivN, xnoE, xnx, xrt, xbk, xct, xex, xbs, xonx, xort, xoex, xjoin, xn0, xn1, xs0, xs1, e_cst, e_var, e_gl, e_bin, e_neg, e_nt, e_and, e_or, e_cmp, e_cmp2, e_ife, e_tup, e_lst, e_ix, e_sl, e_call, e_callk, e_bi, e_isi, e_lc, e_lrng1, e_lrng2, t_cst, t_var, t_call, t_callk, t_ix, t_bi, t_bin, t_isi, t_lc, t_nil, t_nt, t_and, t_or, t_cmp, t_cmp2, t_ife, p_nil, p_cst, p_int, p_var, p_bin, p_call, p_neg, p_ix, p_bi, l_nil0, l_cons, i_seq, i_rng1, i_rng2, g_nm, g_tup, gs_nil, gs_cons, g_ix, s_nil, s_cons, s_asg, s_ex, s_ret, s_ret0, s_pass, s_brk, s_cont, s_ite, s_whl, s_for, s_never, o_add, o_sub, o_mul, o_mulR, o_fdiv, o_mod, o_pow, o_shl, o_shr, o_addL, o_neg, o_not, o_and, o_or, c_lt, c_le, c_gt, c_ge, c_eq, c_ne, c_eqs, c_nes, c_eqb, c_neb, c_is, c_isnt, n_non, n_int, n_tup, n_ref, n_str, u_bl, u_int, u_non, u_tup, k_ii, k_bi, k_tt, b_int, b_abs, b_lent, b_lenl, b_max, b_min, b_divmod, b_all, w_rng, w_tup, w_lst, xbok, xbrt, xbnx, xbbl, xbst, xbb, xbseq, xbout, xcf, xct1, xpow, x64, xdv, x62, xble, xsz, xnew, xat_lst, xat_seq, xat_rng, xnil, e_lcR, startE, List.map_cons, List.map_nil, List.length_cons, List.length_nil, List.replicate, List.append_nil, List.cons_append, List.nil_append, Nat.sub_self, Nat.zero_add, Nat.reduceAdd, Nat.reduceSub, Nat.reduceMul, Nat.reducePow, Nat.reduceLeDiff, cond_true, cond_false, Bool.true_and, Bool.and_true, Bool.false_and, Bool.and_false, Bool.true_or, Bool.or_true, Bool.false_or, Bool.or_false, Bool.not_true, Bool.not_false, Bool.and_self, Int.reduceSub, Int.reduceAdd, Int.reduceMul, Int.reduceNeg, Int.reducePow, Int.reduceLE, Int.reduceLT, Int.reduceToNat, Int.reduceEq, Int.neg_neg, Int.one_mul, decide_true, decide_false, e1, e2, e3, is_place_i]
  cases (decide (-20 ≤ f) && decide (f ≤ 20)) <;> cases (decide (-20 ≤ s) && decide (s ≤ 20)) <;> rfl
/-- what stands for a number at another point -/
def atV (w p o : Int) : Option Int := bif decide (p ≤ o) then some (w * 2 ^ (o - p).toNat) else bif decide (w % 2 ^ (p - o).toNat = 0) then some (w / 2 ^ (p - o).toNat) else none
def optM : Option Int → MV
  | some v => .int v
  | none => .non
def optL : Option Int → List MV
  | some v => [.int v]
  | none => []
theorem is_parted_by_i (d : Nat) (n k : Int) (h : MH) (hk : k ≤ 1000000) : callD Q (d + 1) 17 [.int n, .int k] h = .ok (.bl (decide (k ≤ 0) || decide (n % 2 ^ k.toNat = 0))) h := by
  rw [call_en fn17 rfl]
  by_cases h0 : k ≤ 0
  · simp only [d17, xok, xbad, xexc, xbind, xst, xstbad, xstexc, xstbind, xgiv, xgivN, xnoE, xnx, xrt, xbk, xct, xex, xbs, xonx, xort, xoex, xjoin, xn0, xn1, xs0, xs1, e_cst, e_var, e_gl, e_bin, e_neg, e_nt, e_and, e_or, e_cmp, e_cmp2, e_ife, e_tup, e_lst, e_ix, e_sl, e_call, e_callk, e_bi, e_isi, e_lc, e_lrng1, e_lrng2, t_cst, t_var, t_call, t_callk, t_ix, t_bi, t_bin, t_isi, t_lc, t_nil, t_nt, t_and, t_or, t_cmp, t_cmp2, t_ife, p_nil, p_cst, p_int, p_var, p_bin, p_call, p_neg, p_ix, p_bi, l_nil0, l_cons, i_seq, i_rng1, i_rng2, g_nm, g_tup, gs_nil, gs_cons, g_ix, s_nil, s_cons, s_asg, s_ex, s_ret, s_ret0, s_pass, s_brk, s_cont, s_ite, s_whl, s_for, s_never, o_add, o_sub, o_mul, o_mulR, o_fdiv, o_mod, o_pow, o_shl, o_shr, o_addL, o_neg, o_not, o_and, o_or, c_lt, c_le, c_gt, c_ge, c_eq, c_ne, c_eqs, c_nes, c_eqb, c_neb, c_is, c_isnt, n_non, n_int, n_tup, n_ref, n_str, u_bl, u_int, u_non, u_tup, k_ii, k_bi, k_tt, b_int, b_abs, b_lent, b_lenl, b_max, b_min, b_divmod, b_all, w_rng, w_tup, w_lst, xbok, xbrt, xbnx, xbbl, xbst, xbb, xbseq, xbout, xcf, xct1, xpow, x64, xdv, x62, xble, xsz, xnew, xat_lst, xat_seq, xat_rng, xnil, e_lcR, startE, List.map_cons, List.map_nil, List.length_cons, List.length_nil, List.replicate, List.append_nil, List.cons_append, List.nil_append, Nat.sub_self, Nat.zero_add, Nat.reduceAdd, Nat.reduceSub, Nat.reduceMul, Nat.reducePow, Nat.reduceLeDiff, cond_true, cond_false, Bool.true_and, Bool.and_true, Bool.false_and, Bool.and_false, Bool.true_or, Bool.or_true, Bool.false_or, Bool.or_false, Bool.not_true, Bool.not_false, Bool.and_self, Int.reduceSub, Int.reduceAdd, Int.reduceMul, Int.reduceNeg, Int.reducePow, Int.reduceLE, Int.reduceLT, Int.reduceToNat, Int.reduceEq, Int.neg_neg, Int.one_mul, decide_true, decide_false, h0]
  · have e1 : 0 ≤ k := by omega
    have e2 : 0 < (2 : Int) ^ k.toNat := Int.pow_pos (by decide)
    simp only [d17, xok, xbad, xexc, xbind, xst, xstbad, xstexc, xstbind, xgiv, xgivN, xnoE, xnx, xrt, xbk, xct, xex, xbs, xonx, xort, xoex, xjoin, xn0, xn1, xs0, xs1, e_cst, e_var, e_gl, e_bin, e_neg, e_nt, e_and, e_or, e_cmp, e_cmp2, e_ife, e_tup, e_lst, e_ix, e_sl, e_call, e_callk, e_bi, e_isi, e_lc, e_lrng1, e_lrng2, t_cst, t_var, t_call, t_callk, t_ix, t_bi, t_bin, t_isi, t_lc, t_nil, t_nt, t_and, t_or, t_cmp, t_cmp2, t_ife, p_nil, p_cst, p_int, p_var, p_bin, p_call, p_neg, p_ix, p_bi, l_nil0, l_cons, i_seq, i_rng1, i_rng2, g_nm, g_tup, gs_nil, gs_cons, g_ix, s_nil, s_cons, s_asg, s_ex, s_ret, s_ret0, s_pass, s_brk, s_cont, s_ite, s_whl, s_for, s_never, o_add, o_sub, o_mul, o_mulR, o_fdiv, o_mod, o_pow, o_shl, o_shr, o_addL, o_neg, o_not, o_and, o_or, c_lt, c_le, c_gt, c_ge, c_eq, c_ne, c_eqs, c_nes, c_eqb, c_neb, c_is, c_isnt, n_non, n_int, n_tup, n_ref, n_str, u_bl, u_int, u_non, u_tup, k_ii, k_bi, k_tt, b_int, b_abs, b_lent, b_lenl, b_max, b_min, b_divmod, b_all, w_rng, w_tup, w_lst, xbok, xbrt, xbnx, xbbl, xbst, xbb, xbseq, xbout, xcf, xct1, xpow, x64, xdv, x62, xble, xsz, xnew, xat_lst, xat_seq, xat_rng, xnil, e_lcR, startE, List.map_cons, List.map_nil, List.length_cons, List.length_nil, List.replicate, List.append_nil, List.cons_append, List.nil_append, Nat.sub_self, Nat.zero_add, Nat.reduceAdd, Nat.reduceSub, Nat.reduceMul, Nat.reducePow, Nat.reduceLeDiff, cond_true, cond_false, Bool.true_and, Bool.and_true, Bool.false_and, Bool.and_false, Bool.true_or, Bool.or_true, Bool.false_or, Bool.or_false, Bool.not_true, Bool.not_false, Bool.and_self, Int.reduceSub, Int.reduceAdd, Int.reduceMul, Int.reduceNeg, Int.reducePow, Int.reduceLE, Int.reduceLT, Int.reduceToNat, Int.reduceEq, Int.neg_neg, Int.one_mul, decide_true, decide_false, h0, e1, e2, hk]
theorem moved_i (d : Nat) (w p o : Int) (h : MH) (w1 : -18446744073709551616 < w) (w2 : w < 18446744073709551616) (h1 : o - p ≤ 1000000) (h2 : p - o ≤ 1000000) : callD Q (d + 2) 19 [.int w, .int p, .int o] h = .ok (.ref h.sz) (h.push (.lst false (optL (atV w p o)))) := by
  rw [call_en fn19 rfl]
  by_cases h0 : p ≤ o
  · have e1 : 0 ≤ o - p := by omega
    simp only [d19, xok, xbad, xexc, xbind, xst, xstbad, xstexc, xstbind, xgiv, xgivN, xnoE, xnx, xrt, xbk, xct, xex, xbs, xonx, xort, xoex, xjoin, xn0, xn1, xs0, xs1, e_cst, e_var, e_gl, e_bin, e_neg, e_nt, e_and, e_or, e_cmp, e_cmp2, e_ife, e_tup, e_lst, e_ix, e_sl, e_call, e_callk, e_bi, e_isi, e_lc, e_lrng1, e_lrng2, t_cst, t_var, t_call, t_callk, t_ix, t_bi, t_bin, t_isi, t_lc, t_nil, t_nt, t_and, t_or, t_cmp, t_cmp2, t_ife, p_nil, p_cst, p_int, p_var, p_bin, p_call, p_neg, p_ix, p_bi, l_nil0, l_cons, i_seq, i_rng1, i_rng2, g_nm, g_tup, gs_nil, gs_cons, g_ix, s_nil, s_cons, s_asg, s_ex, s_ret, s_ret0, s_pass, s_brk, s_cont, s_ite, s_whl, s_for, s_never, o_add, o_sub, o_mul, o_mulR, o_fdiv, o_mod, o_pow, o_shl, o_shr, o_addL, o_neg, o_not, o_and, o_or, c_lt, c_le, c_gt, c_ge, c_eq, c_ne, c_eqs, c_nes, c_eqb, c_neb, c_is, c_isnt, n_non, n_int, n_tup, n_ref, n_str, u_bl, u_int, u_non, u_tup, k_ii, k_bi, k_tt, b_int, b_abs, b_lent, b_lenl, b_max, b_min, b_divmod, b_all, w_rng, w_tup, w_lst, xbok, xbrt, xbnx, xbbl, xbst, xbb, xbseq, xbout, xcf, xct1, xpow, x64, xdv, x62, xble, xsz, xnew, xat_lst, xat_seq, xat_rng, xnil, e_lcR, startE, List.map_cons, List.map_nil, List.length_cons, List.length_nil, List.replicate, List.append_nil, List.cons_append, List.nil_append, Nat.sub_self, Nat.zero_add, Nat.reduceAdd, Nat.reduceSub, Nat.reduceMul, Nat.reducePow, Nat.reduceLeDiff, cond_true, cond_false, Bool.true_and, Bool.and_true, Bool.false_and, Bool.and_false, Bool.true_or, Bool.or_true, Bool.false_or, Bool.or_false, Bool.not_true, Bool.not_false, Bool.and_self, Int.reduceSub, Int.reduceAdd, Int.reduceMul, Int.reduceNeg, Int.reducePow, Int.reduceLE, Int.reduceLT, Int.reduceToNat, Int.reduceEq, Int.neg_neg, Int.one_mul, decide_true, decide_false, h0, e1, h1, w1, w2, atV, optL]
  · have e3 : ¬ (p - o ≤ 0) := by omega
    have e5 : 0 ≤ p - o := by omega
    by_cases e4 : w % 2 ^ (p - o).toNat = 0
    · simp only [d19, xok, xbad, xexc, xbind, xst, xstbad, xstexc, xstbind, xgiv, xgivN, xnoE, xnx, xrt, xbk, xct, xex, xbs, xonx, xort, xoex, xjoin, xn0, xn1, xs0, xs1, e_cst, e_var, e_gl, e_bin, e_neg, e_nt, e_and, e_or, e_cmp, e_cmp2, e_ife, e_tup, e_lst, e_ix, e_sl, e_call, e_callk, e_bi, e_isi, e_lc, e_lrng1, e_lrng2, t_cst, t_var, t_call, t_callk, t_ix, t_bi, t_bin, t_isi, t_lc, t_nil, t_nt, t_and, t_or, t_cmp, t_cmp2, t_ife, p_nil, p_cst, p_int, p_var, p_bin, p_call, p_neg, p_ix, p_bi, l_nil0, l_cons, i_seq, i_rng1, i_rng2, g_nm, g_tup, gs_nil, gs_cons, g_ix, s_nil, s_cons, s_asg, s_ex, s_ret, s_ret0, s_pass, s_brk, s_cont, s_ite, s_whl, s_for, s_never, o_add, o_sub, o_mul, o_mulR, o_fdiv, o_mod, o_pow, o_shl, o_shr, o_addL, o_neg, o_not, o_and, o_or, c_lt, c_le, c_gt, c_ge, c_eq, c_ne, c_eqs, c_nes, c_eqb, c_neb, c_is, c_isnt, n_non, n_int, n_tup, n_ref, n_str, u_bl, u_int, u_non, u_tup, k_ii, k_bi, k_tt, b_int, b_abs, b_lent, b_lenl, b_max, b_min, b_divmod, b_all, w_rng, w_tup, w_lst, xbok, xbrt, xbnx, xbbl, xbst, xbb, xbseq, xbout, xcf, xct1, xpow, x64, xdv, x62, xble, xsz, xnew, xat_lst, xat_seq, xat_rng, xnil, e_lcR, startE, List.map_cons, List.map_nil, List.length_cons, List.length_nil, List.replicate, List.append_nil, List.cons_append, List.nil_append, Nat.sub_self, Nat.zero_add, Nat.reduceAdd, Nat.reduceSub, Nat.reduceMul, Nat.reducePow, Nat.reduceLeDiff, cond_true, cond_false, Bool.true_and, Bool.and_true, Bool.false_and, Bool.and_false, Bool.true_or, Bool.or_true, Bool.false_or, Bool.or_false, Bool.not_true, Bool.not_false, Bool.and_self, Int.reduceSub, Int.reduceAdd, Int.reduceMul, Int.reduceNeg, Int.reducePow, Int.reduceLE, Int.reduceLT, Int.reduceToNat, Int.reduceEq, Int.neg_neg, Int.one_mul, decide_true, decide_false, h0, is_parted_by_i, h2, e3, e4, e5, atV, optL]
    · simp only [d19, xok, xbad, xexc, xbind, xst, xstbad, xstexc, xstbind, xgiv, xgivN, xnoE, xnx, xrt, xbk, xct, xex, xbs, xonx, xort, xoex, xjoin, xn0, xn1, xs0, xs1, e_cst, e_var, e_gl, e_bin, e_neg, e_nt, e_and, e_or, e_cmp, e_cmp2, e_ife, e_tup, e_lst, e_ix, e_sl, e_call, e_callk, e_bi, e_isi, e_lc, e_lrng1, e_lrng2, t_cst, t_var, t_call, t_callk, t_ix, t_bi, t_bin, t_isi, t_lc, t_nil, t_nt, t_and, t_or, t_cmp, t_cmp2, t_ife, p_nil, p_cst, p_int, p_var, p_bin, p_call, p_neg, p_ix, p_bi, l_nil0, l_cons, i_seq, i_rng1, i_rng2, g_nm, g_tup, gs_nil, gs_cons, g_ix, s_nil, s_cons, s_asg, s_ex, s_ret, s_ret0, s_pass, s_brk, s_cont, s_ite, s_whl, s_for, s_never, o_add, o_sub, o_mul, o_mulR, o_fdiv, o_mod, o_pow, o_shl, o_shr, o_addL, o_neg, o_not, o_and, o_or, c_lt, c_le, c_gt, c_ge, c_eq, c_ne, c_eqs, c_nes, c_eqb, c_neb, c_is, c_isnt, n_non, n_int, n_tup, n_ref, n_str, u_bl, u_int, u_non, u_tup, k_ii, k_bi, k_tt, b_int, b_abs, b_lent, b_lenl, b_max, b_min, b_divmod, b_all, w_rng, w_tup, w_lst, xbok, xbrt, xbnx, xbbl, xbst, xbb, xbseq, xbout, xcf, xct1, xpow, x64, xdv, x62, xble, xsz, xnew, xat_lst, xat_seq, xat_rng, xnil, e_lcR, startE, List.map_cons, List.map_nil, List.length_cons, List.length_nil, List.replicate, List.append_nil, List.cons_append, List.nil_append, Nat.sub_self, Nat.zero_add, Nat.reduceAdd, Nat.reduceSub, Nat.reduceMul, Nat.reducePow, Nat.reduceLeDiff, cond_true, cond_false, Bool.true_and, Bool.and_true, Bool.false_and, Bool.and_false, Bool.true_or, Bool.or_true, Bool.false_or, Bool.or_false, Bool.not_true, Bool.not_false, Bool.and_self, Int.reduceSub, Int.reduceAdd, Int.reduceMul, Int.reduceNeg, Int.reducePow, Int.reduceLE, Int.reduceLT, Int.reduceToNat, Int.reduceEq, Int.neg_neg, Int.one_mul, decide_true, decide_false, h0, is_parted_by_i, h2, e3, e4, e5, atV, optL]
theorem check_word_i (d : Nat) (v : Int) (h : MH) (h1 : -549755813888 ≤ v) (h2 : v ≤ 549755813887) : callD Q (d + 4) 322 [.int v] h = .ok .non h := by
  rw [call_en fn322 rfl]
  simp only [d322, xok, xbad, xexc, xbind, xst, xstbad, xstexc, xstbind, xgiv, xgivN, xnoE, xnx, xrt, xbk, xct, xex, xbs, xonx, xort, xoex, xjoin, xn0, xn1, xs0, xs1, e_cst, e_var, e_gl, e_bin, e_neg, e_nt, e_and, e_or, e_cmp, e_cmp2, e_ife, e_tup, e_lst, e_ix, e_sl, e_call, e_callk, e_bi, e_isi, e_lc, e_lrng1, e_lrng2, t_cst, t_var, t_call, t_callk, t_ix, t_bi, t_bin, t_isi, t_lc, t_nil, t_nt, t_and, t_or, t_cmp, t_cmp2, t_ife, p_nil, p_cst, p_int, p_var, p_bin, p_call, p_neg, p_ix, p_bi, l_nil0, l_cons, i_seq, i_rng1, i_rng2, g_nm, g_tup, gs_nil, gs_cons, g_ix, s_nil, s_cons, s_asg, s_ex, s_ret, s_ret0, s_pass, s_brk, s_cont, s_ite, s_whl, s_for, s_never, o_add, o_sub, o_mul, o_mulR, o_fdiv, o_mod, o_pow, o_shl, o_shr, o_addL, o_neg, o_not, o_and, o_or, c_lt, c_le, c_gt, c_ge, c_eq, c_ne, c_eqs, c_nes, c_eqb, c_neb, c_is, c_isnt, n_non, n_int, n_tup, n_ref, n_str, u_bl, u_int, u_non, u_tup, k_ii, k_bi, k_tt, b_int, b_abs, b_lent, b_lenl, b_max, b_min, b_divmod, b_all, w_rng, w_tup, w_lst, xbok, xbrt, xbnx, xbbl, xbst, xbb, xbseq, xbout, xcf, xct1, xpow, x64, xdv, x62, xble, xsz, xnew, xat_lst, xat_seq, xat_rng, xnil, e_lcR, startE, List.map_cons, List.map_nil, List.length_cons, List.length_nil, List.replicate, List.append_nil, List.cons_append, List.nil_append, Nat.sub_self, Nat.zero_add, Nat.reduceAdd, Nat.reduceSub, Nat.reduceMul, Nat.reducePow, Nat.reduceLeDiff, cond_true, cond_false, Bool.true_and, Bool.and_true, Bool.false_and, Bool.and_false, Bool.true_or, Bool.or_true, Bool.false_or, Bool.or_false, Bool.not_true, Bool.not_false, Bool.and_self, Int.reduceSub, Int.reduceAdd, Int.reduceMul, Int.reduceNeg, Int.reducePow, Int.reduceLE, Int.reduceLT, Int.reduceToNat, Int.reduceEq, Int.neg_neg, Int.one_mul, decide_true, decide_false, is_word_of_40, con186, h1, h2]
theorem check_far_point_i (d : Nat) (v : Int) (h : MH) (h1 : -99 ≤ v) (h2 : v ≤ 99) : callD Q (d + 4) 323 [.int v] h = .ok .non h := by
  rw [call_en fn323 rfl]
  simp only [d323, xok, xbad, xexc, xbind, xst, xstbad, xstexc, xstbind, xgiv, xgivN, xnoE, xnx, xrt, xbk, xct, xex, xbs, xonx, xort, xoex, xjoin, xn0, xn1, xs0, xs1, e_cst, e_var, e_gl, e_bin, e_neg, e_nt, e_and, e_or, e_cmp, e_cmp2, e_ife, e_tup, e_lst, e_ix, e_sl, e_call, e_callk, e_bi, e_isi, e_lc, e_lrng1, e_lrng2, t_cst, t_var, t_call, t_callk, t_ix, t_bi, t_bin, t_isi, t_lc, t_nil, t_nt, t_and, t_or, t_cmp, t_cmp2, t_ife, p_nil, p_cst, p_int, p_var, p_bin, p_call, p_neg, p_ix, p_bi, l_nil0, l_cons, i_seq, i_rng1, i_rng2, g_nm, g_tup, gs_nil, gs_cons, g_ix, s_nil, s_cons, s_asg, s_ex, s_ret, s_ret0, s_pass, s_brk, s_cont, s_ite, s_whl, s_for, s_never, o_add, o_sub, o_mul, o_mulR, o_fdiv, o_mod, o_pow, o_shl, o_shr, o_addL, o_neg, o_not, o_and, o_or, c_lt, c_le, c_gt, c_ge, c_eq, c_ne, c_eqs, c_nes, c_eqb, c_neb, c_is, c_isnt, n_non, n_int, n_tup, n_ref, n_str, u_bl, u_int, u_non, u_tup, k_ii, k_bi, k_tt, b_int, b_abs, b_lent, b_lenl, b_max, b_min, b_divmod, b_all, w_rng, w_tup, w_lst, xbok, xbrt, xbnx, xbbl, xbst, xbb, xbseq, xbout, xcf, xct1, xpow, x64, xdv, x62, xble, xsz, xnew, xat_lst, xat_seq, xat_rng, xnil, e_lcR, startE, List.map_cons, List.map_nil, List.length_cons, List.length_nil, List.replicate, List.append_nil, List.cons_append, List.nil_append, Nat.sub_self, Nat.zero_add, Nat.reduceAdd, Nat.reduceSub, Nat.reduceMul, Nat.reducePow, Nat.reduceLeDiff, cond_true, cond_false, Bool.true_and, Bool.and_true, Bool.false_and, Bool.and_false, Bool.true_or, Bool.or_true, Bool.false_or, Bool.or_false, Bool.not_true, Bool.not_false, Bool.and_self, Int.reduceSub, Int.reduceAdd, Int.reduceMul, Int.reduceNeg, Int.reducePow, Int.reduceLE, Int.reduceLT, Int.reduceToNat, Int.reduceEq, Int.neg_neg, Int.one_mul, decide_true, decide_false, is_far_point_i, h1, h2]
theorem check_kind_i (d : Nat) (f s : Int) (h : MH) (h1 : -20 ≤ f) (h2 : f ≤ 20) (h3 : -20 ≤ s) (h4 : s ≤ 20) (h5 : 0 ≤ f + s) : callD Q (d + 5) 321 [.tup [.int f, .int s]] h = .ok .non h := by
  rw [call_en fn321 rfl]
  simp only [d321, xok, xbad, xexc, xbind, xst, xstbad, xstexc, xstbind, xgiv, xgivN, xnoE, xnx, xrt, xbk, xct, xex, xbs, xonx, xort, xoex, xjoin, xn0, xn1, xs0, xs1, e_cst, e_var, e_gl, e_bin, e_neg, e_nt, e_and, e_or, e_cmp, e_cmp2, e_ife, e_tup, e_lst, e_ix, e_sl, e_call, e_callk, e_bi, e_isi, e_lc, e_lrng1, e_lrng2, t_cst, t_var, t_call, t_callk, t_ix, t_bi, t_bin, t_isi, t_lc, t_nil, t_nt, t_and, t_or, t_cmp, t_cmp2, t_ife, p_nil, p_cst, p_int, p_var, p_bin, p_call, p_neg, p_ix, p_bi, l_nil0, l_cons, i_seq, i_rng1, i_rng2, g_nm, g_tup, gs_nil, gs_cons, g_ix, s_nil, s_cons, s_asg, s_ex, s_ret, s_ret0, s_pass, s_brk, s_cont, s_ite, s_whl, s_for, s_never, o_add, o_sub, o_mul, o_mulR, o_fdiv, o_mod, o_pow, o_shl, o_shr, o_addL, o_neg, o_not, o_and, o_or, c_lt, c_le, c_gt, c_ge, c_eq, c_ne, c_eqs, c_nes, c_eqb, c_neb, c_is, c_isnt, n_non, n_int, n_tup, n_ref, n_str, u_bl, u_int, u_non, u_tup, k_ii, k_bi, k_tt, b_int, b_abs, b_lent, b_lenl, b_max, b_min, b_divmod, b_all, w_rng, w_tup, w_lst, xbok, xbrt, xbnx, xbbl, xbst, xbb, xbseq, xbout, xcf, xct1, xpow, x64, xdv, x62, xble, xsz, xnew, xat_lst, xat_seq, xat_rng, xnil, e_lcR, startE, List.map_cons, List.map_nil, List.length_cons, List.length_nil, List.replicate, List.append_nil, List.cons_append, List.nil_append, Nat.sub_self, Nat.zero_add, Nat.reduceAdd, Nat.reduceSub, Nat.reduceMul, Nat.reducePow, Nat.reduceLeDiff, cond_true, cond_false, Bool.true_and, Bool.and_true, Bool.false_and, Bool.and_false, Bool.true_or, Bool.or_true, Bool.false_or, Bool.or_false, Bool.not_true, Bool.not_false, Bool.and_self, Int.reduceSub, Int.reduceAdd, Int.reduceMul, Int.reduceNeg, Int.reducePow, Int.reduceLE, Int.reduceLT, Int.reduceToNat, Int.reduceEq, Int.neg_neg, Int.one_mul, decide_true, decide_false, is_kind_form_i, h1, h2, h3, h4, h5]
/-- words, points -/
structure WP (w p o : Int) : Prop where
  w1 : -549755813888 ≤ w
  w2 : w ≤ 549755813887
  p1 : -99 ≤ p
  p2 : p ≤ 99
  o1 : -99 ≤ o
  o2 : o ≤ 99
theorem at_point_i (d : Nat) (w p o : Int) (h : MH) (g : WP w p o) : callD Q (d + 5) 327 [.int w, .int p, .int o] h = .ok (optM (atV w p o)) (h.push (.lst false (optL (atV w p o)))) := by
  obtain ⟨h1, h2, h3, h4, h5, h6⟩ := g
  have e1 : -18446744073709551616 < w := by omega
  have e0 : w < 18446744073709551616 := by omega
  have e2 : o - p ≤ 1000000 := by omega
  have e3 : p - o ≤ 1000000 := by omega
  rw [call_en fn327 rfl]
  have hL := lst_push (h := h) (xs := optL (atV w p o))
  simp only [d327, xok, xbad, xexc, xbind, xst, xstbad, xstexc, xstbind, xgiv, xgivN, xnoE, xnx, xrt, xbk, xct, xex, xbs, xonx, xort, xoex, xjoin, xn0, xn1, xs0, xs1, e_cst, e_var, e_gl, e_bin, e_neg, e_nt, e_and, e_or, e_cmp, e_cmp2, e_ife, e_tup, e_lst, e_ix, e_sl, e_call, e_callk, e_bi, e_isi, e_lc, e_lrng1, e_lrng2, t_cst, t_var, t_call, t_callk, t_ix, t_bi, t_bin, t_isi, t_lc, t_nil, t_nt, t_and, t_or, t_cmp, t_cmp2, t_ife, p_nil, p_cst, p_int, p_var, p_bin, p_call, p_neg, p_ix, p_bi, l_nil0, l_cons, i_seq, i_rng1, i_rng2, g_nm, g_tup, gs_nil, gs_cons, g_ix, s_nil, s_cons, s_asg, s_ex, s_ret, s_ret0, s_pass, s_brk, s_cont, s_ite, s_whl, s_for, s_never, o_add, o_sub, o_mul, o_mulR, o_fdiv, o_mod, o_pow, o_shl, o_shr, o_addL, o_neg, o_not, o_and, o_or, c_lt, c_le, c_gt, c_ge, c_eq, c_ne, c_eqs, c_nes, c_eqb, c_neb, c_is, c_isnt, n_non, n_int, n_tup, n_ref, n_str, u_bl, u_int, u_non, u_tup, k_ii, k_bi, k_tt, b_int, b_abs, b_lent, b_lenl, b_max, b_min, b_divmod, b_all, w_rng, w_tup, w_lst, xbok, xbrt, xbnx, xbbl, xbst, xbb, xbseq, xbout, xcf, xct1, xpow, x64, xdv, x62, xble, xsz, xnew, xat_lst, xat_seq, xat_rng, xnil, e_lcR, startE, List.map_cons, List.map_nil, List.length_cons, List.length_nil, List.replicate, List.append_nil, List.cons_append, List.nil_append, Nat.sub_self, Nat.zero_add, Nat.reduceAdd, Nat.reduceSub, Nat.reduceMul, Nat.reducePow, Nat.reduceLeDiff, cond_true, cond_false, Bool.true_and, Bool.and_true, Bool.false_and, Bool.and_false, Bool.true_or, Bool.or_true, Bool.false_or, Bool.or_false, Bool.not_true, Bool.not_false, Bool.and_self, Int.reduceSub, Int.reduceAdd, Int.reduceMul, Int.reduceNeg, Int.reducePow, Int.reduceLE, Int.reduceLT, Int.reduceToNat, Int.reduceEq, Int.neg_neg, Int.one_mul, decide_true, decide_false, check_word_i, check_far_point_i, h1, h2, h3, h4, h5, h6, moved_i, e0, e1, e2, e3, w_lst hL]
  show (OS.seq (forGo _ _ _ (99999 + 1) _ _ _) _).out = _
  rw [forGo_succ, xat_lst hL]
  cases atV w p o with
  | none => rfl
  | some v => rfl
/-- a number at another point is of so many bits -/
def heldB (w s o b : Int) : Bool := match atV w s o with
  | some v => decide (-(2 ^ (b - 1).toNat) ≤ v) && decide (v < 2 ^ (b - 1).toNat)
  | none => false
theorem held_i (d : Nat) (w s o b : Int) (h : MH) (g : WP w s o) (b1 : 1 ≤ b) (b2 : b ≤ 40) : callD Q (d + 6) 345 [.int w, .int s, .int o, .int b] h = .ok (.bl (heldB w s o b)) (h.push (.lst false (optL (atV w s o)))) := by
  have e1 : 0 ≤ b - 1 := by omega
  have e2 : b - 1 ≤ 1000000 := by omega
  rw [call_en fn345 rfl]
  have ep : ∀ h, giv (Sm.permV [0, 1, 2] [MV.int w, .int s, .int o]) h = .ok [.int w, .int s, .int o] h := fun h => rfl
  simp only [d345, xok, xbad, xexc, xbind, xst, xstbad, xstexc, xstbind, xgiv, xgivN, xnoE, xnx, xrt, xbk, xct, xex, xbs, xonx, xort, xoex, xjoin, xn0, xn1, xs0, xs1, e_cst, e_var, e_gl, e_bin, e_neg, e_nt, e_and, e_or, e_cmp, e_cmp2, e_ife, e_tup, e_lst, e_ix, e_sl, e_call, e_callk, e_bi, e_isi, e_lc, e_lrng1, e_lrng2, t_cst, t_var, t_call, t_callk, t_ix, t_bi, t_bin, t_isi, t_lc, t_nil, t_nt, t_and, t_or, t_cmp, t_cmp2, t_ife, p_nil, p_cst, p_int, p_var, p_bin, p_call, p_neg, p_ix, p_bi, l_nil0, l_cons, i_seq, i_rng1, i_rng2, g_nm, g_tup, gs_nil, gs_cons, g_ix, s_nil, s_cons, s_asg, s_ex, s_ret, s_ret0, s_pass, s_brk, s_cont, s_ite, s_whl, s_for, s_never, o_add, o_sub, o_mul, o_mulR, o_fdiv, o_mod, o_pow, o_shl, o_shr, o_addL, o_neg, o_not, o_and, o_or, c_lt, c_le, c_gt, c_ge, c_eq, c_ne, c_eqs, c_nes, c_eqb, c_neb, c_is, c_isnt, n_non, n_int, n_tup, n_ref, n_str, u_bl, u_int, u_non, u_tup, k_ii, k_bi, k_tt, b_int, b_abs, b_lent, b_lenl, b_max, b_min, b_divmod, b_all, w_rng, w_tup, w_lst, xbok, xbrt, xbnx, xbbl, xbst, xbb, xbseq, xbout, xcf, xct1, xpow, x64, xdv, x62, xble, xsz, xnew, xat_lst, xat_seq, xat_rng, xnil, e_lcR, startE, List.map_cons, List.map_nil, List.length_cons, List.length_nil, List.replicate, List.append_nil, List.cons_append, List.nil_append, Nat.sub_self, Nat.zero_add, Nat.reduceAdd, Nat.reduceSub, Nat.reduceMul, Nat.reducePow, Nat.reduceLeDiff, cond_true, cond_false, Bool.true_and, Bool.and_true, Bool.false_and, Bool.and_false, Bool.true_or, Bool.or_true, Bool.false_or, Bool.or_false, Bool.not_true, Bool.not_false, Bool.and_self, Int.reduceSub, Int.reduceAdd, Int.reduceMul, Int.reduceNeg, Int.reducePow, Int.reduceLE, Int.reduceLT, Int.reduceToNat, Int.reduceEq, Int.neg_neg, Int.one_mul, decide_true, decide_false, ep, at_point_i, g, e1, e2]
  unfold heldB
  cases atV w s o with
  | none => rfl
  | some v =>
    simp only [optM, xok, xbad, xexc, xbind, xst, xstbad, xstexc, xstbind, xgiv, xgivN, xnoE, xnx, xrt, xbk, xct, xex, xbs, xonx, xort, xoex, xjoin, xn0, xn1, xs0, xs1, e_cst, e_var, e_gl, e_bin, e_neg, e_nt, e_and, e_or, e_cmp, e_cmp2, e_ife, e_tup, e_lst, e_ix, e_sl, e_call, e_callk, e_bi, e_isi, e_lc, e_lrng1, e_lrng2, t_cst, t_var, t_call, t_callk, t_ix, t_bi, t_bin, t_isi, t_lc, t_nil, t_nt, t_and, t_or, t_cmp, t_cmp2, t_ife, p_nil, p_cst, p_int, p_var, p_bin, p_call, p_neg, p_ix, p_bi, l_nil0, l_cons, i_seq, i_rng1, i_rng2, g_nm, g_tup, gs_nil, gs_cons, g_ix, s_nil, s_cons, s_asg, s_ex, s_ret, s_ret0, s_pass, s_brk, s_cont, s_ite, s_whl, s_for, s_never, o_add, o_sub, o_mul, o_mulR, o_fdiv, o_mod, o_pow, o_shl, o_shr, o_addL, o_neg, o_not, o_and, o_or, c_lt, c_le, c_gt, c_ge, c_eq, c_ne, c_eqs, c_nes, c_eqb, c_neb, c_is, c_isnt, n_non, n_int, n_tup, n_ref, n_str, u_bl, u_int, u_non, u_tup, k_ii, k_bi, k_tt, b_int, b_abs, b_lent, b_lenl, b_max, b_min, b_divmod, b_all, w_rng, w_tup, w_lst, xbok, xbrt, xbnx, xbbl, xbst, xbb, xbseq, xbout, xcf, xct1, xpow, x64, xdv, x62, xble, xsz, xnew, xat_lst, xat_seq, xat_rng, xnil, e_lcR, startE, List.map_cons, List.map_nil, List.length_cons, List.length_nil, List.replicate, List.append_nil, List.cons_append, List.nil_append, Nat.sub_self, Nat.zero_add, Nat.reduceAdd, Nat.reduceSub, Nat.reduceMul, Nat.reducePow, Nat.reduceLeDiff, cond_true, cond_false, Bool.true_and, Bool.and_true, Bool.false_and, Bool.and_false, Bool.true_or, Bool.or_true, Bool.false_or, Bool.or_false, Bool.not_true, Bool.not_false, Bool.and_self, Int.reduceSub, Int.reduceAdd, Int.reduceMul, Int.reduceNeg, Int.reducePow, Int.reduceLE, Int.reduceLT, Int.reduceToNat, Int.reduceEq, Int.neg_neg, Int.one_mul, decide_true, decide_false, Int.zero_sub]
theorem window_of_i (d : Nat) (f s b : Int) (h : MH) : callD Q (d + 1) 15 [.tup [.int f, .int s], .int b] h = .ok (.tup [.int f, .int (b - 1 - s)]) h := by
  rw [call_en fn15 rfl]
  simp only [d15, xok, xbad, xexc, xbind, xst, xstbad, xstexc, xstbind, xgiv, xgivN, xnoE, xnx, xrt, xbk, xct, xex, xbs, xonx, xort, xoex, xjoin, xn0, xn1, xs0, xs1, e_cst, e_var, e_gl, e_bin, e_neg, e_nt, e_and, e_or, e_cmp, e_cmp2, e_ife, e_tup, e_lst, e_ix, e_sl, e_call, e_callk, e_bi, e_isi, e_lc, e_lrng1, e_lrng2, t_cst, t_var, t_call, t_callk, t_ix, t_bi, t_bin, t_isi, t_lc, t_nil, t_nt, t_and, t_or, t_cmp, t_cmp2, t_ife, p_nil, p_cst, p_int, p_var, p_bin, p_call, p_neg, p_ix, p_bi, l_nil0, l_cons, i_seq, i_rng1, i_rng2, g_nm, g_tup, gs_nil, gs_cons, g_ix, s_nil, s_cons, s_asg, s_ex, s_ret, s_ret0, s_pass, s_brk, s_cont, s_ite, s_whl, s_for, s_never, o_add, o_sub, o_mul, o_mulR, o_fdiv, o_mod, o_pow, o_shl, o_shr, o_addL, o_neg, o_not, o_and, o_or, c_lt, c_le, c_gt, c_ge, c_eq, c_ne, c_eqs, c_nes, c_eqb, c_neb, c_is, c_isnt, n_non, n_int, n_tup, n_ref, n_str, u_bl, u_int, u_non, u_tup, k_ii, k_bi, k_tt, b_int, b_abs, b_lent, b_lenl, b_max, b_min, b_divmod, b_all, w_rng, w_tup, w_lst, xbok, xbrt, xbnx, xbbl, xbst, xbb, xbseq, xbout, xcf, xct1, xpow, x64, xdv, x62, xble, xsz, xnew, xat_lst, xat_seq, xat_rng, xnil, e_lcR, startE, List.map_cons, List.map_nil, List.length_cons, List.length_nil, List.replicate, List.append_nil, List.cons_append, List.nil_append, Nat.sub_self, Nat.zero_add, Nat.reduceAdd, Nat.reduceSub, Nat.reduceMul, Nat.reducePow, Nat.reduceLeDiff, cond_true, cond_false, Bool.true_and, Bool.and_true, Bool.false_and, Bool.and_false, Bool.true_or, Bool.or_true, Bool.false_or, Bool.or_false, Bool.not_true, Bool.not_false, Bool.and_self, Int.reduceSub, Int.reduceAdd, Int.reduceMul, Int.reduceNeg, Int.reducePow, Int.reduceLE, Int.reduceLT, Int.reduceToNat, Int.reduceEq, Int.neg_neg, Int.one_mul, decide_true, decide_false]
def winV (f s b : Int) : MV := bif decide (f ≤ b - 1 - s) then .tup [.int f, .int (b - 1 - s)] else .non
/-- a kind -/
structure KD (f s : Int) : Prop where
  f1 : -20 ≤ f
  f2 : f ≤ 20
  s1 : -20 ≤ s
  s2 : s ≤ 20
  t : 0 ≤ f + s
theorem window_i (d : Nat) (f s b : Int) (h : MH) (g : KD f s) (b1 : 2 ≤ b) (b2 : b ≤ 40) : callD Q (d + 6) 325 [.tup [.int f, .int s], .int b] h = .ok (winV f s b) h := by
  obtain ⟨g1, g2, g3, g4, g5⟩ := g
  rw [call_en fn325 rfl]
  simp only [d325, xok, xbad, xexc, xbind, xst, xstbad, xstexc, xstbind, xgiv, xgivN, xnoE, xnx, xrt, xbk, xct, xex, xbs, xonx, xort, xoex, xjoin, xn0, xn1, xs0, xs1, e_cst, e_var, e_gl, e_bin, e_neg, e_nt, e_and, e_or, e_cmp, e_cmp2, e_ife, e_tup, e_lst, e_ix, e_sl, e_call, e_callk, e_bi, e_isi, e_lc, e_lrng1, e_lrng2, t_cst, t_var, t_call, t_callk, t_ix, t_bi, t_bin, t_isi, t_lc, t_nil, t_nt, t_and, t_or, t_cmp, t_cmp2, t_ife, p_nil, p_cst, p_int, p_var, p_bin, p_call, p_neg, p_ix, p_bi, l_nil0, l_cons, i_seq, i_rng1, i_rng2, g_nm, g_tup, gs_nil, gs_cons, g_ix, s_nil, s_cons, s_asg, s_ex, s_ret, s_ret0, s_pass, s_brk, s_cont, s_ite, s_whl, s_for, s_never, o_add, o_sub, o_mul, o_mulR, o_fdiv, o_mod, o_pow, o_shl, o_shr, o_addL, o_neg, o_not, o_and, o_or, c_lt, c_le, c_gt, c_ge, c_eq, c_ne, c_eqs, c_nes, c_eqb, c_neb, c_is, c_isnt, n_non, n_int, n_tup, n_ref, n_str, u_bl, u_int, u_non, u_tup, k_ii, k_bi, k_tt, b_int, b_abs, b_lent, b_lenl, b_max, b_min, b_divmod, b_all, w_rng, w_tup, w_lst, xbok, xbrt, xbnx, xbbl, xbst, xbb, xbseq, xbout, xcf, xct1, xpow, x64, xdv, x62, xble, xsz, xnew, xat_lst, xat_seq, xat_rng, xnil, e_lcR, startE, List.map_cons, List.map_nil, List.length_cons, List.length_nil, List.replicate, List.append_nil, List.cons_append, List.nil_append, Nat.sub_self, Nat.zero_add, Nat.reduceAdd, Nat.reduceSub, Nat.reduceMul, Nat.reducePow, Nat.reduceLeDiff, cond_true, cond_false, Bool.true_and, Bool.and_true, Bool.false_and, Bool.and_false, Bool.true_or, Bool.or_true, Bool.false_or, Bool.or_false, Bool.not_true, Bool.not_false, Bool.and_self, Int.reduceSub, Int.reduceAdd, Int.reduceMul, Int.reduceNeg, Int.reducePow, Int.reduceLE, Int.reduceLT, Int.reduceToNat, Int.reduceEq, Int.neg_neg, Int.one_mul, decide_true, decide_false, check_kind_i, g1, g2, g3, g4, g5, is_bits_i, b1, b2, window_of_i, winV]
theorem fits_i (d : Nat) (n k : Int) (h : MH) (hk : k ≤ 1000000) : callD Q (d + 1) 16 [.int n, .int k] h = .ok (.bl (bif decide (k < 0) then decide (n = 0) else decide (-(2 ^ k.toNat) ≤ n) && decide (n < 2 ^ k.toNat))) h := by
  rw [call_en fn16 rfl]
  by_cases h0 : k < 0
  · simp only [d16, xok, xbad, xexc, xbind, xst, xstbad, xstexc, xstbind, xgiv, xgivN, xnoE, xnx, xrt, xbk, xct, xex, xbs, xonx, xort, xoex, xjoin, xn0, xn1, xs0, xs1, e_cst, e_var, e_gl, e_bin, e_neg, e_nt, e_and, e_or, e_cmp, e_cmp2, e_ife, e_tup, e_lst, e_ix, e_sl, e_call, e_callk, e_bi, e_isi, e_lc, e_lrng1, e_lrng2, t_cst, t_var, t_call, t_callk, t_ix, t_bi, t_bin, t_isi, t_lc, t_nil, t_nt, t_and, t_or, t_cmp, t_cmp2, t_ife, p_nil, p_cst, p_int, p_var, p_bin, p_call, p_neg, p_ix, p_bi, l_nil0, l_cons, i_seq, i_rng1, i_rng2, g_nm, g_tup, gs_nil, gs_cons, g_ix, s_nil, s_cons, s_asg, s_ex, s_ret, s_ret0, s_pass, s_brk, s_cont, s_ite, s_whl, s_for, s_never, o_add, o_sub, o_mul, o_mulR, o_fdiv, o_mod, o_pow, o_shl, o_shr, o_addL, o_neg, o_not, o_and, o_or, c_lt, c_le, c_gt, c_ge, c_eq, c_ne, c_eqs, c_nes, c_eqb, c_neb, c_is, c_isnt, n_non, n_int, n_tup, n_ref, n_str, u_bl, u_int, u_non, u_tup, k_ii, k_bi, k_tt, b_int, b_abs, b_lent, b_lenl, b_max, b_min, b_divmod, b_all, w_rng, w_tup, w_lst, xbok, xbrt, xbnx, xbbl, xbst, xbb, xbseq, xbout, xcf, xct1, xpow, x64, xdv, x62, xble, xsz, xnew, xat_lst, xat_seq, xat_rng, xnil, e_lcR, startE, List.map_cons, List.map_nil, List.length_cons, List.length_nil, List.replicate, List.append_nil, List.cons_append, List.nil_append, Nat.sub_self, Nat.zero_add, Nat.reduceAdd, Nat.reduceSub, Nat.reduceMul, Nat.reducePow, Nat.reduceLeDiff, cond_true, cond_false, Bool.true_and, Bool.and_true, Bool.false_and, Bool.and_false, Bool.true_or, Bool.or_true, Bool.false_or, Bool.or_false, Bool.not_true, Bool.not_false, Bool.and_self, Int.reduceSub, Int.reduceAdd, Int.reduceMul, Int.reduceNeg, Int.reducePow, Int.reduceLE, Int.reduceLT, Int.reduceToNat, Int.reduceEq, Int.neg_neg, Int.one_mul, decide_true, decide_false, h0]
  · have e1 : 0 ≤ k := by omega
    simp only [d16, xok, xbad, xexc, xbind, xst, xstbad, xstexc, xstbind, xgiv, xgivN, xnoE, xnx, xrt, xbk, xct, xex, xbs, xonx, xort, xoex, xjoin, xn0, xn1, xs0, xs1, e_cst, e_var, e_gl, e_bin, e_neg, e_nt, e_and, e_or, e_cmp, e_cmp2, e_ife, e_tup, e_lst, e_ix, e_sl, e_call, e_callk, e_bi, e_isi, e_lc, e_lrng1, e_lrng2, t_cst, t_var, t_call, t_callk, t_ix, t_bi, t_bin, t_isi, t_lc, t_nil, t_nt, t_and, t_or, t_cmp, t_cmp2, t_ife, p_nil, p_cst, p_int, p_var, p_bin, p_call, p_neg, p_ix, p_bi, l_nil0, l_cons, i_seq, i_rng1, i_rng2, g_nm, g_tup, gs_nil, gs_cons, g_ix, s_nil, s_cons, s_asg, s_ex, s_ret, s_ret0, s_pass, s_brk, s_cont, s_ite, s_whl, s_for, s_never, o_add, o_sub, o_mul, o_mulR, o_fdiv, o_mod, o_pow, o_shl, o_shr, o_addL, o_neg, o_not, o_and, o_or, c_lt, c_le, c_gt, c_ge, c_eq, c_ne, c_eqs, c_nes, c_eqb, c_neb, c_is, c_isnt, n_non, n_int, n_tup, n_ref, n_str, u_bl, u_int, u_non, u_tup, k_ii, k_bi, k_tt, b_int, b_abs, b_lent, b_lenl, b_max, b_min, b_divmod, b_all, w_rng, w_tup, w_lst, xbok, xbrt, xbnx, xbbl, xbst, xbb, xbseq, xbout, xcf, xct1, xpow, x64, xdv, x62, xble, xsz, xnew, xat_lst, xat_seq, xat_rng, xnil, e_lcR, startE, List.map_cons, List.map_nil, List.length_cons, List.length_nil, List.replicate, List.append_nil, List.cons_append, List.nil_append, Nat.sub_self, Nat.zero_add, Nat.reduceAdd, Nat.reduceSub, Nat.reduceMul, Nat.reducePow, Nat.reduceLeDiff, cond_true, cond_false, Bool.true_and, Bool.and_true, Bool.false_and, Bool.and_false, Bool.true_or, Bool.or_true, Bool.false_or, Bool.or_false, Bool.not_true, Bool.not_false, Bool.and_self, Int.reduceSub, Int.reduceAdd, Int.reduceMul, Int.reduceNeg, Int.reducePow, Int.reduceLE, Int.reduceLT, Int.reduceToNat, Int.reduceEq, Int.neg_neg, Int.one_mul, decide_true, decide_false, h0, e1, hk]
def holdsB (f s w p : Int) : Bool := (bif decide (s + p < 0) then decide (w = 0) else decide (-(2 ^ (s + p).toNat) ≤ w) && decide (w < 2 ^ (s + p).toNat)) && (decide (p - f ≤ 0) || decide (w % 2 ^ (p - f).toNat = 0))
theorem holds_i (d : Nat) (f s w p : Int) (h : MH) (h1 : s + p ≤ 1000000) (h2 : p - f ≤ 1000000) : callD Q (d + 2) 18 [.tup [.int f, .int s], .int w, .int p] h = .ok (.bl (holdsB f s w p)) h := by
  rw [call_en fn18 rfl]
  simp only [d18, xok, xbad, xexc, xbind, xst, xstbad, xstexc, xstbind, xgiv, xgivN, xnoE, xnx, xrt, xbk, xct, xex, xbs, xonx, xort, xoex, xjoin, xn0, xn1, xs0, xs1, e_cst, e_var, e_gl, e_bin, e_neg, e_nt, e_and, e_or, e_cmp, e_cmp2, e_ife, e_tup, e_lst, e_ix, e_sl, e_call, e_callk, e_bi, e_isi, e_lc, e_lrng1, e_lrng2, t_cst, t_var, t_call, t_callk, t_ix, t_bi, t_bin, t_isi, t_lc, t_nil, t_nt, t_and, t_or, t_cmp, t_cmp2, t_ife, p_nil, p_cst, p_int, p_var, p_bin, p_call, p_neg, p_ix, p_bi, l_nil0, l_cons, i_seq, i_rng1, i_rng2, g_nm, g_tup, gs_nil, gs_cons, g_ix, s_nil, s_cons, s_asg, s_ex, s_ret, s_ret0, s_pass, s_brk, s_cont, s_ite, s_whl, s_for, s_never, o_add, o_sub, o_mul, o_mulR, o_fdiv, o_mod, o_pow, o_shl, o_shr, o_addL, o_neg, o_not, o_and, o_or, c_lt, c_le, c_gt, c_ge, c_eq, c_ne, c_eqs, c_nes, c_eqb, c_neb, c_is, c_isnt, n_non, n_int, n_tup, n_ref, n_str, u_bl, u_int, u_non, u_tup, k_ii, k_bi, k_tt, b_int, b_abs, b_lent, b_lenl, b_max, b_min, b_divmod, b_all, w_rng, w_tup, w_lst, xbok, xbrt, xbnx, xbbl, xbst, xbb, xbseq, xbout, xcf, xct1, xpow, x64, xdv, x62, xble, xsz, xnew, xat_lst, xat_seq, xat_rng, xnil, e_lcR, startE, List.map_cons, List.map_nil, List.length_cons, List.length_nil, List.replicate, List.append_nil, List.cons_append, List.nil_append, Nat.sub_self, Nat.zero_add, Nat.reduceAdd, Nat.reduceSub, Nat.reduceMul, Nat.reducePow, Nat.reduceLeDiff, cond_true, cond_false, Bool.true_and, Bool.and_true, Bool.false_and, Bool.and_false, Bool.true_or, Bool.or_true, Bool.false_or, Bool.or_false, Bool.not_true, Bool.not_false, Bool.and_self, Int.reduceSub, Int.reduceAdd, Int.reduceMul, Int.reduceNeg, Int.reducePow, Int.reduceLE, Int.reduceLT, Int.reduceToNat, Int.reduceEq, Int.neg_neg, Int.one_mul, decide_true, decide_false, fits_i, is_parted_by_i, h1, h2, holdsB]
theorem in_kind_i (d : Nat) (f s w p : Int) (h : MH) (g : KD f s) (gw : WP w p p) : callD Q (d + 6) 326 [.tup [.int f, .int s], .int w, .int p] h = .ok (.bl (holdsB f s w p)) h := by
  obtain ⟨g1, g2, g3, g4, g5⟩ := g
  obtain ⟨w1, w2, p1, p2, _, _⟩ := gw
  have e1 : s + p ≤ 1000000 := by omega
  have e2 : p - f ≤ 1000000 := by omega
  rw [call_en fn326 rfl]
  simp only [d326, xok, xbad, xexc, xbind, xst, xstbad, xstexc, xstbind, xgiv, xgivN, xnoE, xnx, xrt, xbk, xct, xex, xbs, xonx, xort, xoex, xjoin, xn0, xn1, xs0, xs1, e_cst, e_var, e_gl, e_bin, e_neg, e_nt, e_and, e_or, e_cmp, e_cmp2, e_ife, e_tup, e_lst, e_ix, e_sl, e_call, e_callk, e_bi, e_isi, e_lc, e_lrng1, e_lrng2, t_cst, t_var, t_call, t_callk, t_ix, t_bi, t_bin, t_isi, t_lc, t_nil, t_nt, t_and, t_or, t_cmp, t_cmp2, t_ife, p_nil, p_cst, p_int, p_var, p_bin, p_call, p_neg, p_ix, p_bi, l_nil0, l_cons, i_seq, i_rng1, i_rng2, g_nm, g_tup, gs_nil, gs_cons, g_ix, s_nil, s_cons, s_asg, s_ex, s_ret, s_ret0, s_pass, s_brk, s_cont, s_ite, s_whl, s_for, s_never, o_add, o_sub, o_mul, o_mulR, o_fdiv, o_mod, o_pow, o_shl, o_shr, o_addL, o_neg, o_not, o_and, o_or, c_lt, c_le, c_gt, c_ge, c_eq, c_ne, c_eqs, c_nes, c_eqb, c_neb, c_is, c_isnt, n_non, n_int, n_tup, n_ref, n_str, u_bl, u_int, u_non, u_tup, k_ii, k_bi, k_tt, b_int, b_abs, b_lent, b_lenl, b_max, b_min, b_divmod, b_all, w_rng, w_tup, w_lst, xbok, xbrt, xbnx, xbbl, xbst, xbb, xbseq, xbout, xcf, xct1, xpow, x64, xdv, x62, xble, xsz, xnew, xat_lst, xat_seq, xat_rng, xnil, e_lcR, startE, List.map_cons, List.map_nil, List.length_cons, List.length_nil, List.replicate, List.append_nil, List.cons_append, List.nil_append, Nat.sub_self, Nat.zero_add, Nat.reduceAdd, Nat.reduceSub, Nat.reduceMul, Nat.reducePow, Nat.reduceLeDiff, cond_true, cond_false, Bool.true_and, Bool.and_true, Bool.false_and, Bool.and_false, Bool.true_or, Bool.or_true, Bool.false_or, Bool.or_false, Bool.not_true, Bool.not_false, Bool.and_self, Int.reduceSub, Int.reduceAdd, Int.reduceMul, Int.reduceNeg, Int.reducePow, Int.reduceLE, Int.reduceLT, Int.reduceToNat, Int.reduceEq, Int.neg_neg, Int.one_mul, decide_true, decide_false, check_kind_i, check_word_i, check_far_point_i, g1, g2, g3, g4, g5, w1, w2, p1, p2, e1, e2, holds_i]
end Mp
namespace Mp
open PySem
section
variable {h : MH} {p : Nat} {x y z : MV}
theorem ix30 (q : mutAt h p = some [x, y, z]) : evIx (.ref p) (.int 0) h = some x := ix_ref (mut_lst q) (i := 0) (k := 0) rfl
theorem ix31 (q : mutAt h p = some [x, y, z]) : evIx (.ref p) (.int 1) h = some y := ix_ref (mut_lst q) (i := 1) (k := 1) rfl
theorem ix32 (q : mutAt h p = some [x, y, z]) : evIx (.ref p) (.int 2) h = some z := ix_ref (mut_lst q) (i := 2) (k := 2) rfl
theorem st30 (v : MV) (q : mutAt h p = some [x, y, z]) : Sm.setV v (.ref p) (.int 0) h = some (h.set p (.lst false [v, y, z])) := set_ref q (i := 0) (k := 0) rfl
theorem st31 (v : MV) (q : mutAt h p = some [x, y, z]) : Sm.setV v (.ref p) (.int 1) h = some (h.set p (.lst false [x, v, z])) := set_ref q (i := 1) (k := 1) rfl
theorem st32 (v : MV) (q : mutAt h p = some [x, y, z]) : Sm.setV v (.ref p) (.int 2) h = some (h.set p (.lst false [x, y, v])) := set_ref q (i := 2) (k := 2) rfl
end
theorem deal_i (d : Nat) (h : MH) (p : Nat) (t : Int) (g : Pail h p) (t0 : 0 < t) (t1 : t < 1073741824) :
    ∃ v h', callD Q (d + 1) 231 [.ref p, .int t] h = .ok (.int v) h' ∧ 0 ≤ v ∧ v < t ∧ Pail h' p ∧ ExtD p h h' := by
  obtain ⟨a, b, c, m⟩ := g.at_
  rw [call_en fn231 rfl]
  by_cases ha : 0 < a
  · refine ⟨a % t, h.set p (.lst false [.int (a / t), .int b, .int c]), ?_, Int.emod_nonneg _ (by omega), Int.emod_lt_of_pos _ t0, g.set _ _ _, .set⟩
    simp only [d231, xok, xbad, xexc, xbind, xst, xstbad, xstexc, xstbind, xgiv, xgivN, xnoE, xnx, xrt, xbk, xct, xex, xbs, xonx, xort, xoex, xjoin, xn0, xn1, xs0, xs1, e_cst, e_var, e_gl, e_bin, e_neg, e_nt, e_and, e_or, e_cmp, e_cmp2, e_ife, e_tup, e_lst, e_ix, e_sl, e_call, e_callk, e_bi, e_isi, e_lc, e_lrng1, e_lrng2, t_cst, t_var, t_call, t_callk, t_ix, t_bi, t_bin, t_isi, t_lc, t_nil, t_nt, t_and, t_or, t_cmp, t_cmp2, t_ife, p_nil, p_cst, p_int, p_var, p_bin, p_call, p_neg, p_ix, p_bi, l_nil0, l_cons, i_seq, i_rng1, i_rng2, g_nm, g_tup, gs_nil, gs_cons, g_ix, s_nil, s_cons, s_asg, s_ex, s_ret, s_ret0, s_pass, s_brk, s_cont, s_ite, s_whl, s_for, s_never, o_add, o_sub, o_mul, o_mulR, o_fdiv, o_mod, o_pow, o_shl, o_shr, o_addL, o_neg, o_not, o_and, o_or, c_lt, c_le, c_gt, c_ge, c_eq, c_ne, c_eqs, c_nes, c_eqb, c_neb, c_is, c_isnt, n_non, n_int, n_tup, n_ref, n_str, u_bl, u_int, u_non, u_tup, k_ii, k_bi, k_tt, b_int, b_abs, b_lent, b_lenl, b_max, b_min, b_divmod, b_all, w_rng, w_tup, w_lst, xbok, xbrt, xbnx, xbbl, xbst, xbb, xbseq, xbout, xcf, xct1, xpow, x64, xdv, x62, xble, xsz, xnew, xat_lst, xat_seq, xat_rng, xnil, e_lcR, startE, List.map_cons, List.map_nil, List.length_cons, List.length_nil, List.replicate, List.append_nil, List.cons_append, List.nil_append, Nat.sub_self, Nat.zero_add, Nat.reduceAdd, Nat.reduceSub, Nat.reduceMul, Nat.reducePow, Nat.reduceLeDiff, cond_true, cond_false, Bool.true_and, Bool.and_true, Bool.false_and, Bool.and_false, Bool.true_or, Bool.or_true, Bool.false_or, Bool.or_false, Bool.not_true, Bool.not_false, Bool.and_self, Int.reduceSub, Int.reduceAdd, Int.reduceMul, Int.reduceNeg, Int.reducePow, Int.reduceLE, Int.reduceLT, Int.reduceToNat, Int.reduceEq, Int.neg_neg, Int.one_mul, decide_true, decide_false, ix30 m, ha, t0, t1, st30 _ m]
  · have m1 : mutAt (h.set p (.lst false [.int a, .int b, .int (c + 1)])) p = some [.int a, .int b, .int (c + 1)] := mut_set
    have f0 := Int.emod_nonneg (b * 15511 + 11903 * (c + 1)) (b := 2147483423) (by decide)
    have f1 := Int.emod_lt_of_pos (b * 15511 + 11903 * (c + 1)) (b := 2147483423) (by decide)
    generalize ex : (b * 15511 + 11903 * (c + 1)) % 2147483423 = x at f0 f1
    have f2 : -18446744073709551616 < x := by omega
    have f3 : x < 18446744073709551616 := by omega
    generalize ey : (x * (x % 5147 + 30011) + 31 * (c + 1)) % 2147483423 = y
    have m2 : mutAt ((h.set p (.lst false [.int a, .int b, .int (c + 1)])).set p (.lst false [.int a, .int y, .int (c + 1)])) p = some [.int a, .int y, .int (c + 1)] := mut_set
    refine ⟨y / 349 % t, (h.set p (.lst false [.int a, .int b, .int (c + 1)])).set p (.lst false [.int a, .int y, .int (c + 1)]), ?_, Int.emod_nonneg _ (by omega), Int.emod_lt_of_pos _ t0, (g.set _ _ _).set _ _ _, ExtD.set.trans .set⟩
    simp only [d231, xok, xbad, xexc, xbind, xst, xstbad, xstexc, xstbind, xgiv, xgivN, xnoE, xnx, xrt, xbk, xct, xex, xbs, xonx, xort, xoex, xjoin, xn0, xn1, xs0, xs1, e_cst, e_var, e_gl, e_bin, e_neg, e_nt, e_and, e_or, e_cmp, e_cmp2, e_ife, e_tup, e_lst, e_ix, e_sl, e_call, e_callk, e_bi, e_isi, e_lc, e_lrng1, e_lrng2, t_cst, t_var, t_call, t_callk, t_ix, t_bi, t_bin, t_isi, t_lc, t_nil, t_nt, t_and, t_or, t_cmp, t_cmp2, t_ife, p_nil, p_cst, p_int, p_var, p_bin, p_call, p_neg, p_ix, p_bi, l_nil0, l_cons, i_seq, i_rng1, i_rng2, g_nm, g_tup, gs_nil, gs_cons, g_ix, s_nil, s_cons, s_asg, s_ex, s_ret, s_ret0, s_pass, s_brk, s_cont, s_ite, s_whl, s_for, s_never, o_add, o_sub, o_mul, o_mulR, o_fdiv, o_mod, o_pow, o_shl, o_shr, o_addL, o_neg, o_not, o_and, o_or, c_lt, c_le, c_gt, c_ge, c_eq, c_ne, c_eqs, c_nes, c_eqb, c_neb, c_is, c_isnt, n_non, n_int, n_tup, n_ref, n_str, u_bl, u_int, u_non, u_tup, k_ii, k_bi, k_tt, b_int, b_abs, b_lent, b_lenl, b_max, b_min, b_divmod, b_all, w_rng, w_tup, w_lst, xbok, xbrt, xbnx, xbbl, xbst, xbb, xbseq, xbout, xcf, xct1, xpow, x64, xdv, x62, xble, xsz, xnew, xat_lst, xat_seq, xat_rng, xnil, e_lcR, startE, List.map_cons, List.map_nil, List.length_cons, List.length_nil, List.replicate, List.append_nil, List.cons_append, List.nil_append, Nat.sub_self, Nat.zero_add, Nat.reduceAdd, Nat.reduceSub, Nat.reduceMul, Nat.reducePow, Nat.reduceLeDiff, cond_true, cond_false, Bool.true_and, Bool.and_true, Bool.false_and, Bool.and_false, Bool.true_or, Bool.or_true, Bool.false_or, Bool.or_false, Bool.not_true, Bool.not_false, Bool.and_self, Int.reduceSub, Int.reduceAdd, Int.reduceMul, Int.reduceNeg, Int.reducePow, Int.reduceLE, Int.reduceLT, Int.reduceToNat, Int.reduceEq, Int.neg_neg, Int.one_mul, decide_true, decide_false, ix30 m, ix32 m, st32 _ m, ha, ix31 m1, ix32 m1, ex, f2, f3, st31 _ m1, ix31 m2, ey, t0, t1]
theorem nth_mem {α : Type} {xs : List α} {i : Nat} (hi : i < xs.length) : ∃ x, nth xs i = some x ∧ x ∈ xs := by
  rw [nth_eq]
  exact ⟨xs[i], List.getElem?_eq_getElem hi, List.getElem_mem hi⟩
theorem any_i (d : Nat) (h : MH) (p s : Nat) (xs : List MV) (g : Pail h p) (hs : mutAt h s = some xs) (s1 : s < h.sz) (ne : s ≠ p) (l0 : 0 < xs.length) (l1 : xs.length < 1073741824) :
    ∃ x h', callD Q (d + 2) 232 [.ref p, .ref s] h = .ok x h' ∧ x ∈ xs ∧ Pail h' p ∧ ExtD p h h' := by
  obtain ⟨v, h', e, v0, v1, g', x⟩ := deal_i d h p xs.length g (by omega) (by omega)
  obtain ⟨y, e1, e2⟩ := nth_mem (xs := xs) (i := v.toNat) (by omega)
  refine ⟨y, h', ?_, e2, g', x⟩
  have e3 : evIx (.ref s) (.int v) h' = some y := by
    rw [ix_ref (x.lst s1 ne (mut_lst hs)) (ixN_pos v0 v1), e1]
  rw [call_en fn232 rfl]
  simp only [d232, xok, xbad, xexc, xbind, xst, xstbad, xstexc, xstbind, xgiv, xgivN, xnoE, xnx, xrt, xbk, xct, xex, xbs, xonx, xort, xoex, xjoin, xn0, xn1, xs0, xs1, e_cst, e_var, e_gl, e_bin, e_neg, e_nt, e_and, e_or, e_cmp, e_cmp2, e_ife, e_tup, e_lst, e_ix, e_sl, e_call, e_callk, e_bi, e_isi, e_lc, e_lrng1, e_lrng2, t_cst, t_var, t_call, t_callk, t_ix, t_bi, t_bin, t_isi, t_lc, t_nil, t_nt, t_and, t_or, t_cmp, t_cmp2, t_ife, p_nil, p_cst, p_int, p_var, p_bin, p_call, p_neg, p_ix, p_bi, l_nil0, l_cons, i_seq, i_rng1, i_rng2, g_nm, g_tup, gs_nil, gs_cons, g_ix, s_nil, s_cons, s_asg, s_ex, s_ret, s_ret0, s_pass, s_brk, s_cont, s_ite, s_whl, s_for, s_never, o_add, o_sub, o_mul, o_mulR, o_fdiv, o_mod, o_pow, o_shl, o_shr, o_addL, o_neg, o_not, o_and, o_or, c_lt, c_le, c_gt, c_ge, c_eq, c_ne, c_eqs, c_nes, c_eqb, c_neb, c_is, c_isnt, n_non, n_int, n_tup, n_ref, n_str, u_bl, u_int, u_non, u_tup, k_ii, k_bi, k_tt, b_int, b_abs, b_lent, b_lenl, b_max, b_min, b_divmod, b_all, w_rng, w_tup, w_lst, xbok, xbrt, xbnx, xbbl, xbst, xbb, xbseq, xbout, xcf, xct1, xpow, x64, xdv, x62, xble, xsz, xnew, xat_lst, xat_seq, xat_rng, xnil, e_lcR, startE, List.map_cons, List.map_nil, List.length_cons, List.length_nil, List.replicate, List.append_nil, List.cons_append, List.nil_append, Nat.sub_self, Nat.zero_add, Nat.reduceAdd, Nat.reduceSub, Nat.reduceMul, Nat.reducePow, Nat.reduceLeDiff, cond_true, cond_false, Bool.true_and, Bool.and_true, Bool.false_and, Bool.and_false, Bool.true_or, Bool.or_true, Bool.false_or, Bool.or_false, Bool.not_true, Bool.not_false, Bool.and_self, Int.reduceSub, Int.reduceAdd, Int.reduceMul, Int.reduceNeg, Int.reducePow, Int.reduceLE, Int.reduceLT, Int.reduceToNat, Int.reduceEq, Int.neg_neg, Int.one_mul, decide_true, decide_false, b_lenl (mut_lst hs), e, e3]
/-! numbers at points -/
theorem pow_pos2 (n : Nat) : (0 : Int) < 2 ^ n := Int.pow_pos (by decide)
theorem pow_add2 (n m : Nat) : (2 : Int) ^ (n + m) = 2 ^ n * 2 ^ m := Int.pow_add _ _ _
theorem pow_le2 {n m : Nat} (h : n ≤ m) : (2 : Int) ^ n ≤ 2 ^ m := by
  have := Nat.pow_le_pow_right (n := 2) (by decide) h
  have e1 : ((2 ^ n : Nat) : Int) = 2 ^ n := Int.natCast_pow 2 n
  have e2 : ((2 ^ m : Nat) : Int) = 2 ^ m := Int.natCast_pow 2 m
  omega
theorem pow_lt2 {n m : Nat} (h : n < m) : (2 : Int) ^ n < 2 ^ m := by
  have h1 := pow_le2 (n := n + 1) (m := m) h
  have h2 := pow_pos2 n
  rw [pow_add2] at h1
  omega
theorem atV_back {w s o v : Int} (e : atV w s o = some v) : atV v o s = some w := by
  unfold atV at e ⊢
  by_cases h : s ≤ o
  · rw [decide_eq_true h, cond_true] at e
    cases e
    by_cases h2 : o ≤ s
    · have : s = o := by omega
      subst this
      simp
    · rw [decide_eq_false h2, cond_false]
      have hp := pow_pos2 (o - s).toNat
      rw [decide_eq_true (Int.mul_emod_left _ _), cond_true, Int.mul_ediv_cancel _ (by omega)]
  · rw [decide_eq_false h, cond_false] at e
    rw [decide_eq_true (by omega : o ≤ s), cond_true]
    by_cases h2 : w % 2 ^ (s - o).toNat = 0
    · rw [decide_eq_true h2, cond_true] at e
      cases e
      rw [Int.ediv_mul_cancel (Int.dvd_of_emod_eq_zero h2)]
    · rw [decide_eq_false h2] at e
      cases e
/-- held: a number of so many halves -/
theorem heldB_iff {w s o b : Int} : heldB w s o b = true ↔ ∃ v, atV w s o = some v ∧ -(2 ^ (b - 1).toNat) ≤ v ∧ v < 2 ^ (b - 1).toNat := by
  unfold heldB
  cases atV w s o with
  | none => simp
  | some v => simp
theorem atV_some {w s o v : Int} : atV w s o = some v ↔ (s ≤ o ∧ v = w * 2 ^ (o - s).toNat) ∨ (o < s ∧ w = v * 2 ^ (s - o).toNat) := by
  constructor
  · intro e
    by_cases h : s ≤ o
    · left
      unfold atV at e
      rw [decide_eq_true h, cond_true] at e
      cases e
      exact ⟨h, rfl⟩
    · right
      have := atV_back e
      unfold atV at this
      rw [decide_eq_true (by omega : o ≤ s), cond_true] at this
      cases this
      exact ⟨by omega, rfl⟩
  · rintro (⟨h, rfl⟩ | ⟨h, rfl⟩)
    · unfold atV
      rw [decide_eq_true h, cond_true]
    · unfold atV
      have hp := pow_pos2 (s - o).toNat
      rw [decide_eq_false (by omega : ¬ s ≤ o), cond_false, decide_eq_true (Int.mul_emod_left _ _), cond_true, Int.mul_ediv_cancel _ (by omega)]
/-- held at two points: held at all between -/
theorem held_convex {w s b : Int} (x y z : Int) (h1 : x ≤ y) (h2 : y ≤ z) (hx : heldB w s x b = true) (hz : heldB w s z b = true) : heldB w s y b = true := by
  rw [heldB_iff] at hx hz ⊢
  obtain ⟨v, e1, v1, v2⟩ := hx
  obtain ⟨u, e2, u1, u2⟩ := hz
  have hB := pow_pos2 (b - 1).toNat
  generalize (2 : Int) ^ (b - 1).toNat = B at *
  -- the number at y from that at x; that at z from that at y
  have a1 : atV w s y = some (v * 2 ^ (y - x).toNat) := by
    rw [atV_some] at e1 ⊢
    rcases e1 with ⟨q, rfl⟩ | ⟨q, rfl⟩
    · left
      refine ⟨by omega, ?_⟩
      rw [Int.mul_assoc, ← pow_add2]
      congr 2
      omega
    · by_cases sy : s ≤ y
      · left
        refine ⟨sy, ?_⟩
        rw [Int.mul_assoc, ← pow_add2]
        congr 2
        omega
      · right
        refine ⟨by omega, ?_⟩
        rw [Int.mul_assoc, ← pow_add2]
        congr 2
        omega
  have a2 : u = v * 2 ^ (y - x).toNat * 2 ^ (z - y).toNat := by
    have := e1
    rw [atV_some] at this e2
    rw [Int.mul_assoc, ← pow_add2]
    have ez : (y - x).toNat + (z - y).toNat = (z - x).toNat := by omega
    rw [ez]
    rcases this with ⟨q, rfl⟩ | ⟨q, rfl⟩
    · rcases e2 with ⟨q2, rfl⟩ | ⟨q2, _⟩
      · rw [Int.mul_assoc, ← pow_add2]
        congr 2
        omega
      · omega
    · rcases e2 with ⟨q2, rfl⟩ | ⟨q2, e⟩
      · rw [Int.mul_assoc, ← pow_add2]
        congr 2
        omega
      · have e3 : (s - x).toNat = (z - x).toNat + (s - z).toNat := by omega
        rw [e3, pow_add2, ← Int.mul_assoc] at e
        exact (Int.eq_of_mul_eq_mul_right (by have := pow_pos2 (s - z).toNat; omega) e).symm
  refine ⟨_, a1, ?_⟩
  generalize v * 2 ^ (y - x).toNat = t at a2
  have hp := pow_pos2 (z - y).toNat
  generalize (2 : Int) ^ (z - y).toNat = P at a2 hp
  subst a2
  constructor
  · by_cases ht : 0 ≤ t
    · omega
    · have : t * P ≤ t * 1 := Int.mul_le_mul_of_nonpos_left (by omega) (by omega)
      omega
  · by_cases ht : 0 ≤ t
    · have : t * 1 ≤ t * P := Int.mul_le_mul_of_nonneg_left (by omega) ht
      omega
    · omega
theorem held_zero (s o b : Int) : heldB 0 s o b = true := by
  rw [heldB_iff]
  have hB := pow_pos2 (b - 1).toNat
  refine ⟨0, ?_, by omega, hB⟩
  rw [atV_some]
  by_cases h : s ≤ o
  · exact .inl ⟨h, by simp⟩
  · exact .inr ⟨by omega, by simp⟩
/-- all words of a kind are held just where they should be -/
theorem held_all {k b s o : Int} (hk : 0 ≤ k) (hb : 1 ≤ b) : (∀ w, -(2 ^ k.toNat) ≤ w → w < 2 ^ k.toNat → heldB w s o b = true) ↔ (s ≤ o ∧ k + (o - s) ≤ b - 1) := by
  have hK := pow_pos2 k.toNat
  constructor
  · intro q
    have so : s ≤ o := by
      by_cases z : s ≤ o
      · exact z
      · have := q (-1) (by omega) (by omega)
        rw [heldB_iff] at this
        obtain ⟨v, e, _⟩ := this
        rw [atV_some] at e
        rcases e with ⟨y, _⟩ | ⟨_, e⟩
        · exact absurd y z
        · have : (s - o).toNat = 1 + (s - o - 1).toNat := by omega
          rw [this, pow_add2] at e
          have e2 : v * (2 ^ 1 * 2 ^ (s - o - 1).toNat) = 2 * (v * 2 ^ (s - o - 1).toNat) := by
            rw [← Int.mul_assoc, Int.mul_comm v, Int.mul_assoc]; rfl
          rw [e2] at e
          omega
    refine ⟨so, ?_⟩
    have := q (-(2 ^ k.toNat)) (by omega) (by omega)
    rw [heldB_iff] at this
    obtain ⟨v, e, e1, e2⟩ := this
    rw [atV_some] at e
    rcases e with ⟨_, rfl⟩ | ⟨y, _⟩
    · rw [Int.neg_mul, ← pow_add2] at e1
      by_cases z : k + (o - s) ≤ b - 1
      · exact z
      · have := pow_lt2 (n := (b - 1).toNat) (m := k.toNat + (o - s).toNat) (by omega)
        omega
    · omega
  · rintro ⟨so, kb⟩ w w1 w2
    rw [heldB_iff]
    refine ⟨w * 2 ^ (o - s).toNat, by rw [atV_some]; exact .inl ⟨so, rfl⟩, ?_⟩
    have le := pow_le2 (n := k.toNat + (o - s).toNat) (m := (b - 1).toNat) (by omega)
    rw [pow_add2] at le
    have hT := pow_pos2 (o - s).toNat
    generalize (2 : Int) ^ k.toNat = K at *
    generalize (2 : Int) ^ (o - s).toNat = T at *
    constructor
    · have : -K * T ≤ w * T := Int.mul_le_mul_of_nonneg_right w1 (by omega)
      rw [Int.neg_mul] at this
      omega
    · have : w * T < K * T := Int.mul_lt_mul_of_pos_right w2 hT
      omega
end Mp
namespace Mp
open PySem
theorem xopt (v : Option Int) : ∀ h, evCmp .Eq (optM v) (optM v) h = evCmp .Eq (optM v) (optM v) h := fun _ => rfl
theorem filt_held {f s b o K : Int} (h1 : 0 ≤ f + s) (h2 : 2 ≤ b) (eK : (2 : Int) ^ (f + s).toNat = K) : decide ((rngI (0 - K) (K - (0 - K)).toNat).filter (fun w => !heldB w f o b) = []) = (decide (f ≤ o) && decide (o ≤ b - 1 - s)) := by
  have hK : (0 : Int) < 2 ^ (f + s).toNat := pow_pos2 _
  rw [eK] at hK
  have e : ((rngI (0 - K) (K - (0 - K)).toNat).filter (fun w => !heldB w f o b) = []) ↔ (f ≤ o ∧ o ≤ b - 1 - s) := by
    rw [List.filter_eq_nil_iff]
    have q := held_all (k := f + s) (b := b) (s := f) (o := o) h1 (by omega)
    rw [eK] at q
    constructor
    · intro z
      have := q.mp fun w w1 w2 => by
        have := z w (mem_rngI.mpr ⟨by omega, by omega⟩)
        simpa using this
      exact ⟨this.1, by omega⟩
    · rintro ⟨z1, z2⟩ w hw
      rw [mem_rngI] at hw
      have := q.mpr ⟨z1, by omega⟩ w (by omega) (by omega)
      simpa using this
  rw [← Bool.decide_and]
  exact decide_eq_decide.mpr e
theorem told_eq {f s K : Int} (h1 : 0 ≤ f + s) (eK : (2 : Int) ^ (f + s).toNat = K) : (rngI (0 - K - 2) (K + 2 - (0 - K - 2)).toNat).map (fun w => holdsB f s w f) = [false, false] ++ List.replicate (2 * K).toNat true ++ [false, false] := by
  have hK : (0 : Int) < 2 ^ (f + s).toNat := pow_pos2 _
  rw [eK] at hK
  have en : (K + 2 - (0 - K - 2)).toNat = 2 + (2 * K).toNat + 2 := by omega
  have hh : ∀ w, holdsB f s w f = (decide (-K ≤ w) && decide (w < K)) := fun w => by
    unfold holdsB
    rw [show s + f = f + s by omega, eK, decide_eq_false (by omega : ¬ f + s < 0), cond_false, decide_eq_true (by omega : f - f ≤ 0), Bool.true_or, Bool.and_true]
  rw [en, rngI_add, rngI_add, List.map_append, List.map_append]
  have e1 : (rngI (0 - K - 2) 2).map (fun w => holdsB f s w f) = [false, false] := by
    show [holdsB f s (0 - K - 2 + 0) f, holdsB f s (0 - K - 2 + 1) f] = _
    rw [hh, hh, decide_eq_false (by omega : ¬ (-K ≤ 0 - K - 2 + 0)), decide_eq_false (by omega : ¬ (-K ≤ 0 - K - 2 + 1))]
    rfl
  have e3 : (rngI (0 - K - 2 + ((2 + (2 * K).toNat : Nat) : Int)) 2).map (fun w => holdsB f s w f) = [false, false] := by
    show [holdsB f s (0 - K - 2 + ((2 + (2 * K).toNat : Nat) : Int) + 0) f, holdsB f s (0 - K - 2 + ((2 + (2 * K).toNat : Nat) : Int) + 1) f] = _
    rw [hh, hh, decide_eq_false (by omega : ¬ (0 - K - 2 + ((2 + (2 * K).toNat : Nat) : Int) + 0 < K)), decide_eq_false (by omega : ¬ (0 - K - 2 + ((2 + (2 * K).toNat : Nat) : Int) + 1 < K)), Bool.and_false, Bool.and_false]
  have e2 : (rngI (0 - K - 2 + ((2 : Nat) : Int)) (2 * K).toNat).map (fun w => holdsB f s w f) = List.replicate (2 * K).toNat true := by
    rw [List.eq_replicate_iff]
    refine ⟨by rw [List.length_map, rngI_len], fun x hx => ?_⟩
    obtain ⟨w, hw, rfl⟩ := List.mem_map.mp hx
    rw [mem_rngI] at hw
    rw [hh, decide_eq_true (by omega), decide_eq_true (by omega)]
    rfl
  rw [e1, e2, e3]
theorem odd_eq {f s K : Int} (h1 : 0 ≤ f + s) : (rngI (0 - K) (K - (0 - K)).toNat).map (fun w => holdsB f s (2 * w + 1) (f + 1)) = List.replicate (2 * K).toNat false := by
  rw [List.eq_replicate_iff]
  refine ⟨by rw [List.length_map, rngI_len]; congr 1; omega, fun x hx => ?_⟩
  obtain ⟨w, hw, rfl⟩ := List.mem_map.mp hx
  unfold holdsB
  have e : f + 1 - f = 1 := by omega
  rw [e]
  have : ¬ ((2 * w + 1) % 2 ^ (1 : Int).toNat = 0) := by show ¬ ((2 * w + 1) % 2 = 0); omega
  rw [decide_eq_false this]
  simp
theorem even_eq {f s K : Int} (h1 : 0 ≤ f + s) (eK : (2 : Int) ^ (f + s).toNat = K) : (rngI (0 - K) (K - (0 - K)).toNat).map (fun w => holdsB f s (4 * w) (f + 2)) = List.replicate (2 * K).toNat true := by
  rw [List.eq_replicate_iff]
  refine ⟨by rw [List.length_map, rngI_len]; congr 1; omega, fun x hx => ?_⟩
  obtain ⟨w, hw, rfl⟩ := List.mem_map.mp hx
  rw [mem_rngI] at hw
  unfold holdsB
  have e : f + 2 - f = 2 := by omega
  have e2 : (s + (f + 2)).toNat = 2 + (f + s).toNat := by omega
  have e3 : ((4 * w) % 2 ^ (2 : Int).toNat = 0) := by show ((4 * w) % 4 = 0); omega
  rw [e, decide_eq_true e3, e2, pow_add2, eK, decide_eq_false (by omega : ¬ (s + (f + 2) < 0))]
  have e4 : (2 : Int) ^ 2 = 4 := rfl
  rw [e4, cond_false, decide_eq_true (by omega : -(4 * K) ≤ 4 * w), decide_eq_true (by omega : 4 * w < 4 * K)]
  simp
theorem rng_true (l : List Int) : l.filter (fun _ => true) = l := List.filter_eq_self.mpr fun _ _ => rfl
theorem kind_right_i (d : Nat) (f s b : Int) (h : MH) (g : KD f s) (hs : f + s ≤ 5) (f1 : -15 ≤ f) (f2 : f ≤ 14) (b1 : 2 ≤ b) (b2 : b ≤ 40) :
    ∃ h', callD Q (d + 8) 346 [.tup [.int f, .int s], .int b] h = .ok (.bl true) h' ∧ Ext h h' := by
  have g' := g
  obtain ⟨g1, g2, g3, g4, g5⟩ := g'
  have e1 : f + s ≤ 1000000 := by omega
  have i0 : ∀ h, evIx (.tup [.int f, .int s]) (.int 0) h = some (.int f) := fun h => rfl
  have i1 : ∀ h, evIx (.tup [.int f, .int s]) (.int 1) h = some (.int s) := fun h => rfl
  have ep : ∀ h, giv (Sm.permV [0, 1] [MV.tup [.int f, .int s], .int b]) h = .ok [.tup [.int f, .int s], .int b] h := fun h => rfl
  have hK : (0 : Int) < 2 ^ (f + s).toNat := pow_pos2 _
  have hK2 : (2 : Int) ^ (f + s).toNat ≤ 2 ^ 5 := pow_le2 (by omega)
  have hT := told_eq (f := f) (s := s) g5 rfl
  have hO := odd_eq (f := f) (s := s) (K := 2 ^ (f + s).toNat) g5
  have hE := even_eq (f := f) (s := s) g5 rfl
  have hF := fun o => filt_held (f := f) (s := s) (b := b) (o := o) g5 b1 rfl
  generalize eK : (2 : Int) ^ (f + s).toNat = K at *
  have hK2 : K ≤ 32 := hK2
  rw [call_en fn346 rfl]
  simp only [d346, xok, xbad, xexc, xbind, xst, xstbad, xstexc, xstbind, xgiv, xgivN, xnoE, xnx, xrt, xbk, xct, xex, xbs, xonx, xort, xoex, xjoin, xn0, xn1, xs0, xs1, e_cst, e_var, e_gl, e_bin, e_neg, e_nt, e_and, e_or, e_cmp, e_cmp2, e_ife, e_tup, e_lst, e_ix, e_sl, e_call, e_callk, e_bi, e_isi, e_lrng1, e_lrng2, t_cst, t_var, t_call, t_callk, t_ix, t_bi, t_bin, t_isi, t_lc, t_nil, t_nt, t_and, t_or, t_cmp, t_cmp2, t_ife, p_nil, p_cst, p_int, p_var, p_bin, p_call, p_neg, p_ix, p_bi, l_nil0, l_cons, i_seq, i_rng1, i_rng2, g_nm, g_tup, gs_nil, gs_cons, g_ix, s_nil, s_cons, s_asg, s_ex, s_ret, s_ret0, s_pass, s_brk, s_cont, s_ite, s_never, o_add, o_sub, o_mul, o_mulR, o_fdiv, o_mod, o_pow, o_shl, o_shr, o_addL, o_neg, o_not, o_and, o_or, c_lt, c_le, c_gt, c_ge, c_eq, c_ne, c_eqs, c_nes, c_eqb, c_neb, c_is, c_isnt, n_non, n_int, n_tup, n_ref, n_str, u_bl, u_int, u_non, u_tup, k_ii, k_bi, k_tt, b_int, b_abs, b_lent, b_lenl, b_max, b_min, b_divmod, b_all, w_rng, w_tup, w_lst, xbok, xbrt, xbnx, xbbl, xbst, xbb, xbseq, xbout, xcf, xct1, xpow, x64, xdv, x62, xble, xsz, xnew, xat_lst, xat_seq, xat_rng, xnil, e_lcR, startE, List.map_cons, List.map_nil, List.length_cons, List.length_nil, List.replicate, List.append_nil, List.cons_append, List.nil_append, Nat.sub_self, Nat.zero_add, Nat.reduceAdd, Nat.reduceSub, Nat.reduceMul, Nat.reducePow, Nat.reduceLeDiff, cond_true, cond_false, Bool.true_and, Bool.and_true, Bool.false_and, Bool.and_false, Bool.true_or, Bool.or_true, Bool.false_or, Bool.or_false, Bool.not_true, Bool.not_false, Bool.and_self, Int.reduceSub, Int.reduceAdd, Int.reduceMul, Int.reduceNeg, Int.reducePow, Int.reduceLE, Int.reduceLT, Int.reduceToNat, Int.reduceEq, Int.neg_neg, Int.one_mul, decide_true, decide_false, i0, i1, ep, window_i, g, b1, b2, winV, eK, ne_win, e1, g5]
  -- the spots
  generalize hr : evS _ (MS.for_ _ _ _) _ _ = r
  obtain ⟨σ1, h1, e, ⟨u, v, w, rfl⟩, x1⟩ : ∃ σ' h', r = .nx σ' h' ∧ (∃ u v w, σ' = [some (.tup [.int f, .int s]), some (.int b), some (.int f), some (.int K), some (bif decide (f ≤ b - 1 - s) then MV.tup [.int f, .int (b - 1 - s)] else MV.non), some (.int f), some (.int (b - 1 - s)), u, v, w, none, none, none]) ∧ Ext h h' := by
    rw [← hr]
    refine s_forR (lo := (if b - 1 - s < f then b - 1 - s else f) - 2) (hi := (if b - 1 - s > f then b - 1 - s else f) + 3) (h1 := h) (n := (((if b - 1 - s > f then b - 1 - s else f) + 3) - ((if b - 1 - s < f then b - 1 - s else f) - 2)).toNat)
      (fun _ σ' h' => (∃ u v w, σ' = [some (.tup [.int f, .int s]), some (.int b), some (.int f), some (.int K), some (bif decide (f ≤ b - 1 - s) then MV.tup [.int f, .int (b - 1 - s)] else MV.non), some (.int f), some (.int (b - 1 - s)), u, v, w, none, none, none]) ∧ Ext h h') ?_ rfl (by show _ < 100000; split <;> split <;> omega) ⟨⟨_, _, _, rfl⟩, .refl⟩ ?_
    · have j1 : -4611686018427387904 ≤ (if b - 1 - s < f then b - 1 - s else f) - 2 := by split <;> omega
      have j2 : (if b - 1 - s < f then b - 1 - s else f) - 2 < 4611686018427387904 := by split <;> omega
      have j3 : -4611686018427387904 ≤ (if b - 1 - s > f then b - 1 - s else f) + 3 := by split <;> omega
      have j4 : (if b - 1 - s > f then b - 1 - s else f) + 3 < 4611686018427387904 := by split <;> omega
      simp only [xok, xbad, xexc, xbind, xst, xstbad, xstexc, xstbind, xgiv, xgivN, xnoE, xnx, xrt, xbk, xct, xex, xbs, xonx, xort, xoex, xjoin, xn0, xn1, xs0, xs1, e_cst, e_var, e_gl, e_bin, e_neg, e_nt, e_and, e_or, e_cmp, e_cmp2, e_ife, e_tup, e_lst, e_ix, e_sl, e_call, e_callk, e_bi, e_isi, e_lrng1, e_lrng2, t_cst, t_var, t_call, t_callk, t_ix, t_bi, t_bin, t_isi, t_lc, t_nil, t_nt, t_and, t_or, t_cmp, t_cmp2, t_ife, p_nil, p_cst, p_int, p_var, p_bin, p_call, p_neg, p_ix, p_bi, l_nil0, l_cons, i_seq, i_rng1, i_rng2, g_nm, g_tup, gs_nil, gs_cons, g_ix, s_nil, s_cons, s_asg, s_ex, s_ret, s_ret0, s_pass, s_brk, s_cont, s_ite, s_never, o_add, o_sub, o_mul, o_mulR, o_fdiv, o_mod, o_pow, o_shl, o_shr, o_addL, o_neg, o_not, o_and, o_or, c_lt, c_le, c_gt, c_ge, c_eq, c_ne, c_eqs, c_nes, c_eqb, c_neb, c_is, c_isnt, n_non, n_int, n_tup, n_ref, n_str, u_bl, u_int, u_non, u_tup, k_ii, k_bi, k_tt, b_int, b_abs, b_lent, b_lenl, b_max, b_min, b_divmod, b_all, w_rng, w_tup, w_lst, xbok, xbrt, xbnx, xbbl, xbst, xbb, xbseq, xbout, xcf, xct1, xpow, x64, xdv, x62, xble, xsz, xnew, xat_lst, xat_seq, xat_rng, xnil, e_lcR, startE, List.map_cons, List.map_nil, List.length_cons, List.length_nil, List.replicate, List.append_nil, List.cons_append, List.nil_append, Nat.sub_self, Nat.zero_add, Nat.reduceAdd, Nat.reduceSub, Nat.reduceMul, Nat.reducePow, Nat.reduceLeDiff, cond_true, cond_false, Bool.true_and, Bool.and_true, Bool.false_and, Bool.and_false, Bool.true_or, Bool.or_true, Bool.false_or, Bool.or_false, Bool.not_true, Bool.not_false, Bool.and_self, Int.reduceSub, Int.reduceAdd, Int.reduceMul, Int.reduceNeg, Int.reducePow, Int.reduceLE, Int.reduceLT, Int.reduceToNat, Int.reduceEq, Int.neg_neg, Int.one_mul, decide_true, decide_false, w_rng, j1, j2, j3, j4]
    · rintro i σ h0 hi ⟨⟨u, v, w, rfl⟩, x0⟩
      have o1 : -99 ≤ (if b - 1 - s < f then b - 1 - s else f) - 2 + (i : Int) := by split <;> omega
      have o2 : (if b - 1 - s < f then b - 1 - s else f) - 2 + (i : Int) ≤ 99 := by
        revert hi; split <;> split <;> omega
      generalize eo : (if b - 1 - s < f then b - 1 - s else f) - 2 + (i : Int) = o at o1 o2
      simp only [xok, xbad, xexc, xbind, xst, xstbad, xstexc, xstbind, xgiv, xgivN, xnoE, xnx, xrt, xbk, xct, xex, xbs, xonx, xort, xoex, xjoin, xn0, xn1, xs0, xs1, e_cst, e_var, e_gl, e_bin, e_neg, e_nt, e_and, e_or, e_cmp, e_cmp2, e_ife, e_tup, e_lst, e_ix, e_sl, e_call, e_callk, e_bi, e_isi, e_lrng1, e_lrng2, t_cst, t_var, t_call, t_callk, t_ix, t_bi, t_bin, t_isi, t_lc, t_nil, t_nt, t_and, t_or, t_cmp, t_cmp2, t_ife, p_nil, p_cst, p_int, p_var, p_bin, p_call, p_neg, p_ix, p_bi, l_nil0, l_cons, i_seq, i_rng1, i_rng2, g_nm, g_tup, gs_nil, gs_cons, g_ix, s_nil, s_cons, s_asg, s_ex, s_ret, s_ret0, s_pass, s_brk, s_cont, s_ite, s_never, o_add, o_sub, o_mul, o_mulR, o_fdiv, o_mod, o_pow, o_shl, o_shr, o_addL, o_neg, o_not, o_and, o_or, c_lt, c_le, c_gt, c_ge, c_eq, c_ne, c_eqs, c_nes, c_eqb, c_neb, c_is, c_isnt, n_non, n_int, n_tup, n_ref, n_str, u_bl, u_int, u_non, u_tup, k_ii, k_bi, k_tt, b_int, b_abs, b_lent, b_lenl, b_max, b_min, b_divmod, b_all, w_rng, w_tup, w_lst, xbok, xbrt, xbnx, xbbl, xbst, xbb, xbseq, xbout, xcf, xct1, xpow, x64, xdv, x62, xble, xsz, xnew, xat_lst, xat_seq, xat_rng, xnil, e_lcR, startE, List.map_cons, List.map_nil, List.length_cons, List.length_nil, List.replicate, List.append_nil, List.cons_append, List.nil_append, Nat.sub_self, Nat.zero_add, Nat.reduceAdd, Nat.reduceSub, Nat.reduceMul, Nat.reducePow, Nat.reduceLeDiff, cond_true, cond_false, Bool.true_and, Bool.and_true, Bool.false_and, Bool.and_false, Bool.true_or, Bool.or_true, Bool.false_or, Bool.or_false, Bool.not_true, Bool.not_false, Bool.and_self, Int.reduceSub, Int.reduceAdd, Int.reduceMul, Int.reduceNeg, Int.reducePow, Int.reduceLE, Int.reduceLT, Int.reduceToNat, Int.reduceEq, Int.neg_neg, Int.one_mul, decide_true, decide_false]
      generalize hr2 : (ev _ (ME.lc _ _ _ _ _)).e _ _ = r2
      obtain ⟨h2, e2, x2, z2, q2⟩ : ∃ h2, r2 = .ok (.ref h0.sz) h2 ∧ Ext h0 h2 ∧ h0.sz < h2.sz ∧ mutAt h2 h0.sz = some (((rngI (0 - K) (K - (0 - K)).toNat).filter (fun w => !heldB w f o b)).map .int) := by
        rw [← hr2]
        refine e_lcR (lo := 0 - K) (hi := K) (h1 := h0) ?_ (by show _ < 100000; omega) (by omega) fun wd h' w1 w2 x' => ?_
        · have j1 : -4611686018427387904 ≤ 0 - K := by omega
          have j2 : 0 - K < 4611686018427387904 := by omega
          have j3 : -4611686018427387904 ≤ K := by omega
          have j4 : K < 4611686018427387904 := by omega
          simp only [xok, xbad, xexc, xbind, xst, xstbad, xstexc, xstbind, xgiv, xgivN, xnoE, xnx, xrt, xbk, xct, xex, xbs, xonx, xort, xoex, xjoin, xn0, xn1, xs0, xs1, e_cst, e_var, e_gl, e_bin, e_neg, e_nt, e_and, e_or, e_cmp, e_cmp2, e_ife, e_tup, e_lst, e_ix, e_sl, e_call, e_callk, e_bi, e_isi, e_lrng1, e_lrng2, t_cst, t_var, t_call, t_callk, t_ix, t_bi, t_bin, t_isi, t_lc, t_nil, t_nt, t_and, t_or, t_cmp, t_cmp2, t_ife, p_nil, p_cst, p_int, p_var, p_bin, p_call, p_neg, p_ix, p_bi, l_nil0, l_cons, i_seq, i_rng1, i_rng2, g_nm, g_tup, gs_nil, gs_cons, g_ix, s_nil, s_cons, s_asg, s_ex, s_ret, s_ret0, s_pass, s_brk, s_cont, s_ite, s_never, o_add, o_sub, o_mul, o_mulR, o_fdiv, o_mod, o_pow, o_shl, o_shr, o_addL, o_neg, o_not, o_and, o_or, c_lt, c_le, c_gt, c_ge, c_eq, c_ne, c_eqs, c_nes, c_eqb, c_neb, c_is, c_isnt, n_non, n_int, n_tup, n_ref, n_str, u_bl, u_int, u_non, u_tup, k_ii, k_bi, k_tt, b_int, b_abs, b_lent, b_lenl, b_max, b_min, b_divmod, b_all, w_rng, w_tup, w_lst, xbok, xbrt, xbnx, xbbl, xbst, xbb, xbseq, xbout, xcf, xct1, xpow, x64, xdv, x62, xble, xsz, xnew, xat_lst, xat_seq, xat_rng, xnil, e_lcR, startE, List.map_cons, List.map_nil, List.length_cons, List.length_nil, List.replicate, List.append_nil, List.cons_append, List.nil_append, Nat.sub_self, Nat.zero_add, Nat.reduceAdd, Nat.reduceSub, Nat.reduceMul, Nat.reducePow, Nat.reduceLeDiff, cond_true, cond_false, Bool.true_and, Bool.and_true, Bool.false_and, Bool.and_false, Bool.true_or, Bool.or_true, Bool.false_or, Bool.or_false, Bool.not_true, Bool.not_false, Bool.and_self, Int.reduceSub, Int.reduceAdd, Int.reduceMul, Int.reduceNeg, Int.reducePow, Int.reduceLE, Int.reduceLT, Int.reduceToNat, Int.reduceEq, Int.neg_neg, Int.one_mul, decide_true, decide_false, w_rng, j1, j2, j3, j4]
        · have gw : WP wd f o := ⟨by omega, by omega, by omega, by omega, o1, o2⟩
          have b0 : 1 ≤ b := by omega
          refine ⟨h'.push (.lst false (optL (atV wd f o))), by simp only [xok, xbad, xexc, xbind, xst, xstbad, xstexc, xstbind, xgiv, xgivN, xnoE, xnx, xrt, xbk, xct, xex, xbs, xonx, xort, xoex, xjoin, xn0, xn1, xs0, xs1, e_cst, e_var, e_gl, e_bin, e_neg, e_nt, e_and, e_or, e_cmp, e_cmp2, e_ife, e_tup, e_lst, e_ix, e_sl, e_call, e_callk, e_bi, e_isi, e_lrng1, e_lrng2, t_cst, t_var, t_call, t_callk, t_ix, t_bi, t_bin, t_isi, t_lc, t_nil, t_nt, t_and, t_or, t_cmp, t_cmp2, t_ife, p_nil, p_cst, p_int, p_var, p_bin, p_call, p_neg, p_ix, p_bi, l_nil0, l_cons, i_seq, i_rng1, i_rng2, g_nm, g_tup, gs_nil, gs_cons, g_ix, s_nil, s_cons, s_asg, s_ex, s_ret, s_ret0, s_pass, s_brk, s_cont, s_ite, s_never, o_add, o_sub, o_mul, o_mulR, o_fdiv, o_mod, o_pow, o_shl, o_shr, o_addL, o_neg, o_not, o_and, o_or, c_lt, c_le, c_gt, c_ge, c_eq, c_ne, c_eqs, c_nes, c_eqb, c_neb, c_is, c_isnt, n_non, n_int, n_tup, n_ref, n_str, u_bl, u_int, u_non, u_tup, k_ii, k_bi, k_tt, b_int, b_abs, b_lent, b_lenl, b_max, b_min, b_divmod, b_all, w_rng, w_tup, w_lst, xbok, xbrt, xbnx, xbbl, xbst, xbb, xbseq, xbout, xcf, xct1, xpow, x64, xdv, x62, xble, xsz, xnew, xat_lst, xat_seq, xat_rng, xnil, e_lcR, startE, List.map_cons, List.map_nil, List.length_cons, List.length_nil, List.replicate, List.append_nil, List.cons_append, List.nil_append, Nat.sub_self, Nat.zero_add, Nat.reduceAdd, Nat.reduceSub, Nat.reduceMul, Nat.reducePow, Nat.reduceLeDiff, cond_true, cond_false, Bool.true_and, Bool.and_true, Bool.false_and, Bool.and_false, Bool.true_or, Bool.or_true, Bool.false_or, Bool.or_false, Bool.not_true, Bool.not_false, Bool.and_self, Int.reduceSub, Int.reduceAdd, Int.reduceMul, Int.reduceNeg, Int.reducePow, Int.reduceLE, Int.reduceLT, Int.reduceToNat, Int.reduceEq, Int.neg_neg, Int.one_mul, decide_true, decide_false, wipeE, held_i, gw, b0, b2], .push _, fun _ => ⟨_, by simp only [xok, xbad, xexc, xbind, xst, xstbad, xstexc, xstbind, xgiv, xgivN, xnoE, xnx, xrt, xbk, xct, xex, xbs, xonx, xort, xoex, xjoin, xn0, xn1, xs0, xs1, e_cst, e_var, e_gl, e_bin, e_neg, e_nt, e_and, e_or, e_cmp, e_cmp2, e_ife, e_tup, e_lst, e_ix, e_sl, e_call, e_callk, e_bi, e_isi, e_lrng1, e_lrng2, t_cst, t_var, t_call, t_callk, t_ix, t_bi, t_bin, t_isi, t_lc, t_nil, t_nt, t_and, t_or, t_cmp, t_cmp2, t_ife, p_nil, p_cst, p_int, p_var, p_bin, p_call, p_neg, p_ix, p_bi, l_nil0, l_cons, i_seq, i_rng1, i_rng2, g_nm, g_tup, gs_nil, gs_cons, g_ix, s_nil, s_cons, s_asg, s_ex, s_ret, s_ret0, s_pass, s_brk, s_cont, s_ite, s_never, o_add, o_sub, o_mul, o_mulR, o_fdiv, o_mod, o_pow, o_shl, o_shr, o_addL, o_neg, o_not, o_and, o_or, c_lt, c_le, c_gt, c_ge, c_eq, c_ne, c_eqs, c_nes, c_eqb, c_neb, c_is, c_isnt, n_non, n_int, n_tup, n_ref, n_str, u_bl, u_int, u_non, u_tup, k_ii, k_bi, k_tt, b_int, b_abs, b_lent, b_lenl, b_max, b_min, b_divmod, b_all, w_rng, w_tup, w_lst, xbok, xbrt, xbnx, xbbl, xbst, xbb, xbseq, xbout, xcf, xct1, xpow, x64, xdv, x62, xble, xsz, xnew, xat_lst, xat_seq, xat_rng, xnil, e_lcR, startE, List.map_cons, List.map_nil, List.length_cons, List.length_nil, List.replicate, List.append_nil, List.cons_append, List.nil_append, Nat.sub_self, Nat.zero_add, Nat.reduceAdd, Nat.reduceSub, Nat.reduceMul, Nat.reducePow, Nat.reduceLeDiff, cond_true, cond_false, Bool.true_and, Bool.and_true, Bool.false_and, Bool.and_false, Bool.true_or, Bool.or_true, Bool.false_or, Bool.or_false, Bool.not_true, Bool.not_false, Bool.and_self, Int.reduceSub, Int.reduceAdd, Int.reduceMul, Int.reduceNeg, Int.reducePow, Int.reduceLE, Int.reduceLT, Int.reduceToNat, Int.reduceEq, Int.neg_neg, Int.one_mul, decide_true, decide_false, wipeE], .refl⟩⟩
      subst e2
      have xp := Ext.push (h := h2) (.lst false [])
      have qe : evEq (.ref h0.sz) (.ref h2.sz) (h2.push (.lst false [])) = some (decide (f ≤ o) && decide (o ≤ b - 1 - s)) := by
        rw [← hF o]
        exact eq_ints (xp.lst z2 (mut_lst q2)) (m := []) lst_push
      simp only [xok, xbad, xexc, xbind, xst, xstbad, xstexc, xstbind, xgiv, xgivN, xnoE, xnx, xrt, xbk, xct, xex, xbs, xonx, xort, xoex, xjoin, xn0, xn1, xs0, xs1, e_cst, e_var, e_gl, e_bin, e_neg, e_nt, e_and, e_or, e_cmp, e_cmp2, e_ife, e_tup, e_lst, e_ix, e_sl, e_call, e_callk, e_bi, e_isi, e_lrng1, e_lrng2, t_cst, t_var, t_call, t_callk, t_ix, t_bi, t_bin, t_isi, t_lc, t_nil, t_nt, t_and, t_or, t_cmp, t_cmp2, t_ife, p_nil, p_cst, p_int, p_var, p_bin, p_call, p_neg, p_ix, p_bi, l_nil0, l_cons, i_seq, i_rng1, i_rng2, g_nm, g_tup, gs_nil, gs_cons, g_ix, s_nil, s_cons, s_asg, s_ex, s_ret, s_ret0, s_pass, s_brk, s_cont, s_ite, s_never, o_add, o_sub, o_mul, o_mulR, o_fdiv, o_mod, o_pow, o_shl, o_shr, o_addL, o_neg, o_not, o_and, o_or, c_lt, c_le, c_gt, c_ge, c_eq, c_ne, c_eqs, c_nes, c_eqb, c_neb, c_is, c_isnt, n_non, n_int, n_tup, n_ref, n_str, u_bl, u_int, u_non, u_tup, k_ii, k_bi, k_tt, b_int, b_abs, b_lent, b_lenl, b_max, b_min, b_divmod, b_all, w_rng, w_tup, w_lst, xbok, xbrt, xbnx, xbbl, xbst, xbb, xbseq, xbout, xcf, xct1, xpow, x64, xdv, x62, xble, xsz, xnew, xat_lst, xat_seq, xat_rng, xnil, e_lcR, startE, List.map_cons, List.map_nil, List.length_cons, List.length_nil, List.replicate, List.append_nil, List.cons_append, List.nil_append, Nat.sub_self, Nat.zero_add, Nat.reduceAdd, Nat.reduceSub, Nat.reduceMul, Nat.reducePow, Nat.reduceLeDiff, cond_true, cond_false, Bool.true_and, Bool.and_true, Bool.false_and, Bool.and_false, Bool.true_or, Bool.or_true, Bool.false_or, Bool.or_false, Bool.not_true, Bool.not_false, Bool.and_self, Int.reduceSub, Int.reduceAdd, Int.reduceMul, Int.reduceNeg, Int.reducePow, Int.reduceLE, Int.reduceLT, Int.reduceToNat, Int.reduceEq, Int.neg_neg, Int.one_mul, decide_true, decide_false, c_eqR qe]
      have ex : Ext h (h2.push (.lst false [])) := (x0.trans x2).trans xp
      by_cases hw : f ≤ b - 1 - s
      · have i2 : ∀ h, evIx (.tup [.int f, .int (b - 1 - s)]) (.int 0) h = some (.int f) := fun h => rfl
        have i3 : ∀ h, evIx (.tup [.int f, .int (b - 1 - s)]) (.int 1) h = some (.int (b - 1 - s)) := fun h => rfl
        simp only [xok, xbad, xexc, xbind, xst, xstbad, xstexc, xstbind, xgiv, xgivN, xnoE, xnx, xrt, xbk, xct, xex, xbs, xonx, xort, xoex, xjoin, xn0, xn1, xs0, xs1, e_cst, e_var, e_gl, e_bin, e_neg, e_nt, e_and, e_or, e_cmp, e_cmp2, e_ife, e_tup, e_lst, e_ix, e_sl, e_call, e_callk, e_bi, e_isi, e_lrng1, e_lrng2, t_cst, t_var, t_call, t_callk, t_ix, t_bi, t_bin, t_isi, t_lc, t_nil, t_nt, t_and, t_or, t_cmp, t_cmp2, t_ife, p_nil, p_cst, p_int, p_var, p_bin, p_call, p_neg, p_ix, p_bi, l_nil0, l_cons, i_seq, i_rng1, i_rng2, g_nm, g_tup, gs_nil, gs_cons, g_ix, s_nil, s_cons, s_asg, s_ex, s_ret, s_ret0, s_pass, s_brk, s_cont, s_ite, s_never, o_add, o_sub, o_mul, o_mulR, o_fdiv, o_mod, o_pow, o_shl, o_shr, o_addL, o_neg, o_not, o_and, o_or, c_lt, c_le, c_gt, c_ge, c_eq, c_ne, c_eqs, c_nes, c_eqb, c_neb, c_is, c_isnt, n_non, n_int, n_tup, n_ref, n_str, u_bl, u_int, u_non, u_tup, k_ii, k_bi, k_tt, b_int, b_abs, b_lent, b_lenl, b_max, b_min, b_divmod, b_all, w_rng, w_tup, w_lst, xbok, xbrt, xbnx, xbbl, xbst, xbb, xbseq, xbout, xcf, xct1, xpow, x64, xdv, x62, xble, xsz, xnew, xat_lst, xat_seq, xat_rng, xnil, e_lcR, startE, List.map_cons, List.map_nil, List.length_cons, List.length_nil, List.replicate, List.append_nil, List.cons_append, List.nil_append, Nat.sub_self, Nat.zero_add, Nat.reduceAdd, Nat.reduceSub, Nat.reduceMul, Nat.reducePow, Nat.reduceLeDiff, cond_true, cond_false, Bool.true_and, Bool.and_true, Bool.false_and, Bool.and_false, Bool.true_or, Bool.or_true, Bool.false_or, Bool.or_false, Bool.not_true, Bool.not_false, Bool.and_self, Int.reduceSub, Int.reduceAdd, Int.reduceMul, Int.reduceNeg, Int.reducePow, Int.reduceLE, Int.reduceLT, Int.reduceToNat, Int.reduceEq, Int.neg_neg, Int.one_mul, decide_true, decide_false, hw, i2, i3]
        generalize decide (f ≤ o) = A
        generalize decide (o ≤ b - 1 - s) = B
        cases A <;> cases B <;> exact ⟨_, _, .inl rfl, ⟨_, _, _, rfl⟩, ex⟩
      · have hz : (decide (f ≤ o) && decide (o ≤ b - 1 - s)) = false := by
          rw [← Bool.decide_and]
          exact decide_eq_false fun z => hw (by omega)
        rw [hz]
        simp only [xok, xbad, xexc, xbind, xst, xstbad, xstexc, xstbind, xgiv, xgivN, xnoE, xnx, xrt, xbk, xct, xex, xbs, xonx, xort, xoex, xjoin, xn0, xn1, xs0, xs1, e_cst, e_var, e_gl, e_bin, e_neg, e_nt, e_and, e_or, e_cmp, e_cmp2, e_ife, e_tup, e_lst, e_ix, e_sl, e_call, e_callk, e_bi, e_isi, e_lrng1, e_lrng2, t_cst, t_var, t_call, t_callk, t_ix, t_bi, t_bin, t_isi, t_lc, t_nil, t_nt, t_and, t_or, t_cmp, t_cmp2, t_ife, p_nil, p_cst, p_int, p_var, p_bin, p_call, p_neg, p_ix, p_bi, l_nil0, l_cons, i_seq, i_rng1, i_rng2, g_nm, g_tup, gs_nil, gs_cons, g_ix, s_nil, s_cons, s_asg, s_ex, s_ret, s_ret0, s_pass, s_brk, s_cont, s_ite, s_never, o_add, o_sub, o_mul, o_mulR, o_fdiv, o_mod, o_pow, o_shl, o_shr, o_addL, o_neg, o_not, o_and, o_or, c_lt, c_le, c_gt, c_ge, c_eq, c_ne, c_eqs, c_nes, c_eqb, c_neb, c_is, c_isnt, n_non, n_int, n_tup, n_ref, n_str, u_bl, u_int, u_non, u_tup, k_ii, k_bi, k_tt, b_int, b_abs, b_lent, b_lenl, b_max, b_min, b_divmod, b_all, w_rng, w_tup, w_lst, xbok, xbrt, xbnx, xbbl, xbst, xbb, xbseq, xbout, xcf, xct1, xpow, x64, xdv, x62, xble, xsz, xnew, xat_lst, xat_seq, xat_rng, xnil, e_lcR, startE, List.map_cons, List.map_nil, List.length_cons, List.length_nil, List.replicate, List.append_nil, List.cons_append, List.nil_append, Nat.sub_self, Nat.zero_add, Nat.reduceAdd, Nat.reduceSub, Nat.reduceMul, Nat.reducePow, Nat.reduceLeDiff, cond_true, cond_false, Bool.true_and, Bool.and_true, Bool.false_and, Bool.and_false, Bool.true_or, Bool.or_true, Bool.false_or, Bool.or_false, Bool.not_true, Bool.not_false, Bool.and_self, Int.reduceSub, Int.reduceAdd, Int.reduceMul, Int.reduceNeg, Int.reducePow, Int.reduceLE, Int.reduceLT, Int.reduceToNat, Int.reduceEq, Int.neg_neg, Int.one_mul, decide_true, decide_false, hw, beq_self_eq_true]
        exact ⟨_, _, .inl rfl, ⟨_, _, _, rfl⟩, ex⟩
  subst e
  simp only [xok, xbad, xexc, xbind, xst, xstbad, xstexc, xstbind, xgiv, xgivN, xnoE, xnx, xrt, xbk, xct, xex, xbs, xonx, xort, xoex, xjoin, xn0, xn1, xs0, xs1, e_cst, e_var, e_gl, e_bin, e_neg, e_nt, e_and, e_or, e_cmp, e_cmp2, e_ife, e_tup, e_lst, e_ix, e_sl, e_call, e_callk, e_bi, e_isi, e_lrng1, e_lrng2, t_cst, t_var, t_call, t_callk, t_ix, t_bi, t_bin, t_isi, t_lc, t_nil, t_nt, t_and, t_or, t_cmp, t_cmp2, t_ife, p_nil, p_cst, p_int, p_var, p_bin, p_call, p_neg, p_ix, p_bi, l_nil0, l_cons, i_seq, i_rng1, i_rng2, g_nm, g_tup, gs_nil, gs_cons, g_ix, s_nil, s_cons, s_asg, s_ex, s_ret, s_ret0, s_pass, s_brk, s_cont, s_ite, s_never, o_add, o_sub, o_mul, o_mulR, o_fdiv, o_mod, o_pow, o_shl, o_shr, o_addL, o_neg, o_not, o_and, o_or, c_lt, c_le, c_gt, c_ge, c_eq, c_ne, c_eqs, c_nes, c_eqb, c_neb, c_is, c_isnt, n_non, n_int, n_tup, n_ref, n_str, u_bl, u_int, u_non, u_tup, k_ii, k_bi, k_tt, b_int, b_abs, b_lent, b_lenl, b_max, b_min, b_divmod, b_all, w_rng, w_tup, w_lst, xbok, xbrt, xbnx, xbbl, xbst, xbb, xbseq, xbout, xcf, xct1, xpow, x64, xdv, x62, xble, xsz, xnew, xat_lst, xat_seq, xat_rng, xnil, e_lcR, startE, List.map_cons, List.map_nil, List.length_cons, List.length_nil, List.replicate, List.append_nil, List.cons_append, List.nil_append, Nat.sub_self, Nat.zero_add, Nat.reduceAdd, Nat.reduceSub, Nat.reduceMul, Nat.reducePow, Nat.reduceLeDiff, cond_true, cond_false, Bool.true_and, Bool.and_true, Bool.false_and, Bool.and_false, Bool.true_or, Bool.or_true, Bool.false_or, Bool.or_false, Bool.not_true, Bool.not_false, Bool.and_self, Int.reduceSub, Int.reduceAdd, Int.reduceMul, Int.reduceNeg, Int.reducePow, Int.reduceLE, Int.reduceLT, Int.reduceToNat, Int.reduceEq, Int.neg_neg, Int.one_mul, decide_true, decide_false]
  -- told
  generalize hr2 : (ev _ (ME.lc _ _ _ _ _)).e _ _ = r2
  obtain ⟨h2, e2, x2, z2, q2⟩ : ∃ h2, r2 = .ok (.ref h1.sz) h2 ∧ Ext h1 h2 ∧ h1.sz < h2.sz ∧ mutAt h2 h1.sz = some (((rngI (0 - K - 2) (K + 2 - (0 - K - 2)).toNat).filter (fun _ => true)).map fun w => .bl (holdsB f s w f)) := by
    rw [← hr2]
    refine e_lcR (lo := 0 - K - 2) (hi := K + 2) (h1 := h1) ?_ (by show _ < 100000; omega) (by omega) fun wd h' w1 w2 x' => ?_
    · have j1 : -4611686018427387904 ≤ 0 - K - 2 := by omega
      have j2 : 0 - K - 2 < 4611686018427387904 := by omega
      have j3 : -4611686018427387904 ≤ K + 2 := by omega
      have j4 : K + 2 < 4611686018427387904 := by omega
      simp only [xok, xbad, xexc, xbind, xst, xstbad, xstexc, xstbind, xgiv, xgivN, xnoE, xnx, xrt, xbk, xct, xex, xbs, xonx, xort, xoex, xjoin, xn0, xn1, xs0, xs1, e_cst, e_var, e_gl, e_bin, e_neg, e_nt, e_and, e_or, e_cmp, e_cmp2, e_ife, e_tup, e_lst, e_ix, e_sl, e_call, e_callk, e_bi, e_isi, e_lrng1, e_lrng2, t_cst, t_var, t_call, t_callk, t_ix, t_bi, t_bin, t_isi, t_lc, t_nil, t_nt, t_and, t_or, t_cmp, t_cmp2, t_ife, p_nil, p_cst, p_int, p_var, p_bin, p_call, p_neg, p_ix, p_bi, l_nil0, l_cons, i_seq, i_rng1, i_rng2, g_nm, g_tup, gs_nil, gs_cons, g_ix, s_nil, s_cons, s_asg, s_ex, s_ret, s_ret0, s_pass, s_brk, s_cont, s_ite, s_never, o_add, o_sub, o_mul, o_mulR, o_fdiv, o_mod, o_pow, o_shl, o_shr, o_addL, o_neg, o_not, o_and, o_or, c_lt, c_le, c_gt, c_ge, c_eq, c_ne, c_eqs, c_nes, c_eqb, c_neb, c_is, c_isnt, n_non, n_int, n_tup, n_ref, n_str, u_bl, u_int, u_non, u_tup, k_ii, k_bi, k_tt, b_int, b_abs, b_lent, b_lenl, b_max, b_min, b_divmod, b_all, w_rng, w_tup, w_lst, xbok, xbrt, xbnx, xbbl, xbst, xbb, xbseq, xbout, xcf, xct1, xpow, x64, xdv, x62, xble, xsz, xnew, xat_lst, xat_seq, xat_rng, xnil, e_lcR, startE, List.map_cons, List.map_nil, List.length_cons, List.length_nil, List.replicate, List.append_nil, List.cons_append, List.nil_append, Nat.sub_self, Nat.zero_add, Nat.reduceAdd, Nat.reduceSub, Nat.reduceMul, Nat.reducePow, Nat.reduceLeDiff, cond_true, cond_false, Bool.true_and, Bool.and_true, Bool.false_and, Bool.and_false, Bool.true_or, Bool.or_true, Bool.false_or, Bool.or_false, Bool.not_true, Bool.not_false, Bool.and_self, Int.reduceSub, Int.reduceAdd, Int.reduceMul, Int.reduceNeg, Int.reducePow, Int.reduceLE, Int.reduceLT, Int.reduceToNat, Int.reduceEq, Int.neg_neg, Int.one_mul, decide_true, decide_false, w_rng, j1, j2, j3, j4]
    · have gw : WP wd f f := ⟨by omega, by omega, by omega, by omega, by omega, by omega⟩
      exact ⟨_, by simp only [xok, xbad, xexc, xbind, xst, xstbad, xstexc, xstbind, xgiv, xgivN, xnoE, xnx, xrt, xbk, xct, xex, xbs, xonx, xort, xoex, xjoin, xn0, xn1, xs0, xs1, e_cst, e_var, e_gl, e_bin, e_neg, e_nt, e_and, e_or, e_cmp, e_cmp2, e_ife, e_tup, e_lst, e_ix, e_sl, e_call, e_callk, e_bi, e_isi, e_lrng1, e_lrng2, t_cst, t_var, t_call, t_callk, t_ix, t_bi, t_bin, t_isi, t_lc, t_nil, t_nt, t_and, t_or, t_cmp, t_cmp2, t_ife, p_nil, p_cst, p_int, p_var, p_bin, p_call, p_neg, p_ix, p_bi, l_nil0, l_cons, i_seq, i_rng1, i_rng2, g_nm, g_tup, gs_nil, gs_cons, g_ix, s_nil, s_cons, s_asg, s_ex, s_ret, s_ret0, s_pass, s_brk, s_cont, s_ite, s_never, o_add, o_sub, o_mul, o_mulR, o_fdiv, o_mod, o_pow, o_shl, o_shr, o_addL, o_neg, o_not, o_and, o_or, c_lt, c_le, c_gt, c_ge, c_eq, c_ne, c_eqs, c_nes, c_eqb, c_neb, c_is, c_isnt, n_non, n_int, n_tup, n_ref, n_str, u_bl, u_int, u_non, u_tup, k_ii, k_bi, k_tt, b_int, b_abs, b_lent, b_lenl, b_max, b_min, b_divmod, b_all, w_rng, w_tup, w_lst, xbok, xbrt, xbnx, xbbl, xbst, xbb, xbseq, xbout, xcf, xct1, xpow, x64, xdv, x62, xble, xsz, xnew, xat_lst, xat_seq, xat_rng, xnil, e_lcR, startE, List.map_cons, List.map_nil, List.length_cons, List.length_nil, List.replicate, List.append_nil, List.cons_append, List.nil_append, Nat.sub_self, Nat.zero_add, Nat.reduceAdd, Nat.reduceSub, Nat.reduceMul, Nat.reducePow, Nat.reduceLeDiff, cond_true, cond_false, Bool.true_and, Bool.and_true, Bool.false_and, Bool.and_false, Bool.true_or, Bool.or_true, Bool.false_or, Bool.or_false, Bool.not_true, Bool.not_false, Bool.and_self, Int.reduceSub, Int.reduceAdd, Int.reduceMul, Int.reduceNeg, Int.reducePow, Int.reduceLE, Int.reduceLT, Int.reduceToNat, Int.reduceEq, Int.neg_neg, Int.one_mul, decide_true, decide_false, wipeE], .refl, fun _ => ⟨_, by simp only [xok, xbad, xexc, xbind, xst, xstbad, xstexc, xstbind, xgiv, xgivN, xnoE, xnx, xrt, xbk, xct, xex, xbs, xonx, xort, xoex, xjoin, xn0, xn1, xs0, xs1, e_cst, e_var, e_gl, e_bin, e_neg, e_nt, e_and, e_or, e_cmp, e_cmp2, e_ife, e_tup, e_lst, e_ix, e_sl, e_call, e_callk, e_bi, e_isi, e_lrng1, e_lrng2, t_cst, t_var, t_call, t_callk, t_ix, t_bi, t_bin, t_isi, t_lc, t_nil, t_nt, t_and, t_or, t_cmp, t_cmp2, t_ife, p_nil, p_cst, p_int, p_var, p_bin, p_call, p_neg, p_ix, p_bi, l_nil0, l_cons, i_seq, i_rng1, i_rng2, g_nm, g_tup, gs_nil, gs_cons, g_ix, s_nil, s_cons, s_asg, s_ex, s_ret, s_ret0, s_pass, s_brk, s_cont, s_ite, s_never, o_add, o_sub, o_mul, o_mulR, o_fdiv, o_mod, o_pow, o_shl, o_shr, o_addL, o_neg, o_not, o_and, o_or, c_lt, c_le, c_gt, c_ge, c_eq, c_ne, c_eqs, c_nes, c_eqb, c_neb, c_is, c_isnt, n_non, n_int, n_tup, n_ref, n_str, u_bl, u_int, u_non, u_tup, k_ii, k_bi, k_tt, b_int, b_abs, b_lent, b_lenl, b_max, b_min, b_divmod, b_all, w_rng, w_tup, w_lst, xbok, xbrt, xbnx, xbbl, xbst, xbb, xbseq, xbout, xcf, xct1, xpow, x64, xdv, x62, xble, xsz, xnew, xat_lst, xat_seq, xat_rng, xnil, e_lcR, startE, List.map_cons, List.map_nil, List.length_cons, List.length_nil, List.replicate, List.append_nil, List.cons_append, List.nil_append, Nat.sub_self, Nat.zero_add, Nat.reduceAdd, Nat.reduceSub, Nat.reduceMul, Nat.reducePow, Nat.reduceLeDiff, cond_true, cond_false, Bool.true_and, Bool.and_true, Bool.false_and, Bool.and_false, Bool.true_or, Bool.or_true, Bool.false_or, Bool.or_false, Bool.not_true, Bool.not_false, Bool.and_self, Int.reduceSub, Int.reduceAdd, Int.reduceMul, Int.reduceNeg, Int.reducePow, Int.reduceLE, Int.reduceLT, Int.reduceToNat, Int.reduceEq, Int.neg_neg, Int.one_mul, decide_true, decide_false, wipeE, in_kind_i, g, gw], .refl⟩⟩
  subst e2
  rw [rng_true] at q2
  have q3 : lstAt h2 h1.sz = some (((rngI (0 - K - 2) (K + 2 - (0 - K - 2)).toNat).map (fun w => holdsB f s w f)).map .bl) := by rw [List.map_map]; exact mut_lst q2
  rw [hT] at q3
  have K0 : 0 ≤ 2 * K := by omega
  obtain ⟨P1, p1⟩ : ∃ P, P = h2.push (.lst false [.bl false, .bl false]) := ⟨_, rfl⟩
  obtain ⟨P2, p2⟩ : ∃ P, P = P1.push (.lst false [.bl true]) := ⟨_, rfl⟩
  have A1 : evBin .Mult (.ref P1.sz) (.int (2 * K)) P2 = newL (List.replicate (2 * K).toNat (.bl true)) P2 := by
    rw [p2, o_mulL mut_push K0 (by show 1 * _ ≤ _; omega) (by omega), rep_one]
  obtain ⟨P3, p3⟩ : ∃ P, P = P2.push (.lst false (List.replicate (2 * K).toNat (.bl true))) := ⟨_, rfl⟩
  have y1 : Ext h2 P1 := by rw [p1]; exact .push _
  have y2 : Ext P1 P2 := by rw [p2]; exact .push _
  have y3 : Ext P2 P3 := by rw [p3]; exact .push _
  have s1 : h2.sz < P1.sz := by rw [p1]; exact Nat.lt_succ_self _
  have A2 : evBin .Add (.ref h2.sz) (.ref P2.sz) P3 = newL (.bl false :: .bl false :: List.replicate (2 * K).toNat (.bl true)) P3 := by
    refine o_addL (xs := [.bl false, .bl false]) ((y2.trans y3).mut s1 (by rw [p1]; exact mut_push)) (by rw [p3]; exact mut_push) ?_
    rw [xble, xsz, List.length_replicate]
    exact decide_eq_true (by show 2 + _ ≤ _; omega)
  obtain ⟨P4, p4⟩ : ∃ P, P = P3.push (.lst false (.bl false :: .bl false :: List.replicate (2 * K).toNat (.bl true))) := ⟨_, rfl⟩
  obtain ⟨P5, p5⟩ : ∃ P, P = P4.push (.lst false [.bl false, .bl false]) := ⟨_, rfl⟩
  have y4 : Ext P3 P4 := by rw [p4]; exact .push _
  have y5 : Ext P4 P5 := by rw [p5]; exact .push _
  have s3 : P3.sz < P4.sz := by rw [p4]; exact Nat.lt_succ_self _
  have A3 : evBin .Add (.ref P3.sz) (.ref P4.sz) P5 = newL (.bl false :: .bl false :: (List.replicate (2 * K).toNat (.bl true) ++ [.bl false, .bl false])) P5 := by
    refine o_addL (xs := .bl false :: .bl false :: List.replicate (2 * K).toNat (.bl true)) (y5.mut s3 (by rw [p4]; exact mut_push)) (by rw [p5]; exact mut_push) ?_
    rw [xble, xsz, List.length_cons, List.length_cons, List.length_replicate]
    exact decide_eq_true (by show _ + 1 + 1 + 2 ≤ _; omega)
  obtain ⟨P6, p6⟩ : ∃ P, P = P5.push (.lst false (.bl false :: .bl false :: (List.replicate (2 * K).toNat (.bl true) ++ [.bl false, .bl false]))) := ⟨_, rfl⟩
  have y6 : Ext P5 P6 := by rw [p6]; exact .push _
  have yy : Ext h2 P6 := ((((y1.trans y2).trans y3).trans y4).trans y5).trans y6
  have A4 : evEq (.ref h1.sz) (.ref P5.sz) P6 = some true := by
    rw [eq_bools (yy.lst z2 q3) (m := [false, false] ++ List.replicate (2 * K).toNat true ++ [false, false]) (by rw [p6, lst_push]; simp), decide_eq_true rfl]
  simp only [xok, xbad, xexc, xbind, xst, xstbad, xstexc, xstbind, xgiv, xgivN, xnoE, xnx, xrt, xbk, xct, xex, xbs, xonx, xort, xoex, xjoin, xn0, xn1, xs0, xs1, e_cst, e_var, e_gl, e_bin, e_neg, e_nt, e_and, e_or, e_cmp, e_cmp2, e_ife, e_tup, e_lst, e_ix, e_sl, e_call, e_callk, e_bi, e_isi, e_lrng1, e_lrng2, t_cst, t_var, t_call, t_callk, t_ix, t_bi, t_bin, t_isi, t_lc, t_nil, t_nt, t_and, t_or, t_cmp, t_cmp2, t_ife, p_nil, p_cst, p_int, p_var, p_bin, p_call, p_neg, p_ix, p_bi, l_nil0, l_cons, i_seq, i_rng1, i_rng2, g_nm, g_tup, gs_nil, gs_cons, g_ix, s_nil, s_cons, s_asg, s_ex, s_ret, s_ret0, s_pass, s_brk, s_cont, s_ite, s_never, o_add, o_sub, o_mul, o_mulR, o_fdiv, o_mod, o_pow, o_shl, o_shr, o_addL, o_neg, o_not, o_and, o_or, c_lt, c_le, c_gt, c_ge, c_eq, c_ne, c_eqs, c_nes, c_eqb, c_neb, c_is, c_isnt, n_non, n_int, n_tup, n_ref, n_str, u_bl, u_int, u_non, u_tup, k_ii, k_bi, k_tt, b_int, b_abs, b_lent, b_lenl, b_max, b_min, b_divmod, b_all, w_rng, w_tup, w_lst, xbok, xbrt, xbnx, xbbl, xbst, xbb, xbseq, xbout, xcf, xct1, xpow, x64, xdv, x62, xble, xsz, xnew, xat_lst, xat_seq, xat_rng, xnil, e_lcR, startE, List.map_cons, List.map_nil, List.length_cons, List.length_nil, List.replicate, List.append_nil, List.cons_append, List.nil_append, Nat.sub_self, Nat.zero_add, Nat.reduceAdd, Nat.reduceSub, Nat.reduceMul, Nat.reducePow, Nat.reduceLeDiff, cond_true, cond_false, Bool.true_and, Bool.and_true, Bool.false_and, Bool.and_false, Bool.true_or, Bool.or_true, Bool.false_or, Bool.or_false, Bool.not_true, Bool.not_false, Bool.and_self, Int.reduceSub, Int.reduceAdd, Int.reduceMul, Int.reduceNeg, Int.reducePow, Int.reduceLE, Int.reduceLT, Int.reduceToNat, Int.reduceEq, Int.neg_neg, Int.one_mul, decide_true, decide_false, ← p1, ← p2, A1, ← p3, A2, ← p4, ← p5, A3, ← p6, c_neR A4]
  have z6 : Ext h P6 := (x1.trans x2).trans yy
  -- odd
  generalize hr3 : (ev _ (ME.lc _ _ _ _ _)).e _ _ = r3
  obtain ⟨h3, e3, x3, z3, q3⟩ : ∃ h3, r3 = .ok (.ref P6.sz) h3 ∧ Ext P6 h3 ∧ P6.sz < h3.sz ∧ mutAt h3 P6.sz = some (((rngI (0 - K) (K - (0 - K)).toNat).filter (fun _ => true)).map fun w => .bl (holdsB f s (2 * w + 1) (f + 1))) := by
    rw [← hr3]
    refine e_lcR (lo := 0 - K) (hi := K) (h1 := P6) ?_ (by show _ < 100000; omega) (by omega) fun wd h' w1 w2 x' => ?_
    · have j1 : -4611686018427387904 ≤ 0 - K := by omega
      have j2 : 0 - K < 4611686018427387904 := by omega
      have j3 : -4611686018427387904 ≤ K := by omega
      have j4 : K < 4611686018427387904 := by omega
      simp only [xok, xbad, xexc, xbind, xst, xstbad, xstexc, xstbind, xgiv, xgivN, xnoE, xnx, xrt, xbk, xct, xex, xbs, xonx, xort, xoex, xjoin, xn0, xn1, xs0, xs1, e_cst, e_var, e_gl, e_bin, e_neg, e_nt, e_and, e_or, e_cmp, e_cmp2, e_ife, e_tup, e_lst, e_ix, e_sl, e_call, e_callk, e_bi, e_isi, e_lrng1, e_lrng2, t_cst, t_var, t_call, t_callk, t_ix, t_bi, t_bin, t_isi, t_lc, t_nil, t_nt, t_and, t_or, t_cmp, t_cmp2, t_ife, p_nil, p_cst, p_int, p_var, p_bin, p_call, p_neg, p_ix, p_bi, l_nil0, l_cons, i_seq, i_rng1, i_rng2, g_nm, g_tup, gs_nil, gs_cons, g_ix, s_nil, s_cons, s_asg, s_ex, s_ret, s_ret0, s_pass, s_brk, s_cont, s_ite, s_never, o_add, o_sub, o_mul, o_mulR, o_fdiv, o_mod, o_pow, o_shl, o_shr, o_addL, o_neg, o_not, o_and, o_or, c_lt, c_le, c_gt, c_ge, c_eq, c_ne, c_eqs, c_nes, c_eqb, c_neb, c_is, c_isnt, n_non, n_int, n_tup, n_ref, n_str, u_bl, u_int, u_non, u_tup, k_ii, k_bi, k_tt, b_int, b_abs, b_lent, b_lenl, b_max, b_min, b_divmod, b_all, w_rng, w_tup, w_lst, xbok, xbrt, xbnx, xbbl, xbst, xbb, xbseq, xbout, xcf, xct1, xpow, x64, xdv, x62, xble, xsz, xnew, xat_lst, xat_seq, xat_rng, xnil, e_lcR, startE, List.map_cons, List.map_nil, List.length_cons, List.length_nil, List.replicate, List.append_nil, List.cons_append, List.nil_append, Nat.sub_self, Nat.zero_add, Nat.reduceAdd, Nat.reduceSub, Nat.reduceMul, Nat.reducePow, Nat.reduceLeDiff, cond_true, cond_false, Bool.true_and, Bool.and_true, Bool.false_and, Bool.and_false, Bool.true_or, Bool.or_true, Bool.false_or, Bool.or_false, Bool.not_true, Bool.not_false, Bool.and_self, Int.reduceSub, Int.reduceAdd, Int.reduceMul, Int.reduceNeg, Int.reducePow, Int.reduceLE, Int.reduceLT, Int.reduceToNat, Int.reduceEq, Int.neg_neg, Int.one_mul, decide_true, decide_false, w_rng, j1, j2, j3, j4]
    · have gw : WP (2 * wd + 1) (f + 1) (f + 1) := ⟨by omega, by omega, by omega, by omega, by omega, by omega⟩
      exact ⟨_, by simp only [xok, xbad, xexc, xbind, xst, xstbad, xstexc, xstbind, xgiv, xgivN, xnoE, xnx, xrt, xbk, xct, xex, xbs, xonx, xort, xoex, xjoin, xn0, xn1, xs0, xs1, e_cst, e_var, e_gl, e_bin, e_neg, e_nt, e_and, e_or, e_cmp, e_cmp2, e_ife, e_tup, e_lst, e_ix, e_sl, e_call, e_callk, e_bi, e_isi, e_lrng1, e_lrng2, t_cst, t_var, t_call, t_callk, t_ix, t_bi, t_bin, t_isi, t_lc, t_nil, t_nt, t_and, t_or, t_cmp, t_cmp2, t_ife, p_nil, p_cst, p_int, p_var, p_bin, p_call, p_neg, p_ix, p_bi, l_nil0, l_cons, i_seq, i_rng1, i_rng2, g_nm, g_tup, gs_nil, gs_cons, g_ix, s_nil, s_cons, s_asg, s_ex, s_ret, s_ret0, s_pass, s_brk, s_cont, s_ite, s_never, o_add, o_sub, o_mul, o_mulR, o_fdiv, o_mod, o_pow, o_shl, o_shr, o_addL, o_neg, o_not, o_and, o_or, c_lt, c_le, c_gt, c_ge, c_eq, c_ne, c_eqs, c_nes, c_eqb, c_neb, c_is, c_isnt, n_non, n_int, n_tup, n_ref, n_str, u_bl, u_int, u_non, u_tup, k_ii, k_bi, k_tt, b_int, b_abs, b_lent, b_lenl, b_max, b_min, b_divmod, b_all, w_rng, w_tup, w_lst, xbok, xbrt, xbnx, xbbl, xbst, xbb, xbseq, xbout, xcf, xct1, xpow, x64, xdv, x62, xble, xsz, xnew, xat_lst, xat_seq, xat_rng, xnil, e_lcR, startE, List.map_cons, List.map_nil, List.length_cons, List.length_nil, List.replicate, List.append_nil, List.cons_append, List.nil_append, Nat.sub_self, Nat.zero_add, Nat.reduceAdd, Nat.reduceSub, Nat.reduceMul, Nat.reducePow, Nat.reduceLeDiff, cond_true, cond_false, Bool.true_and, Bool.and_true, Bool.false_and, Bool.and_false, Bool.true_or, Bool.or_true, Bool.false_or, Bool.or_false, Bool.not_true, Bool.not_false, Bool.and_self, Int.reduceSub, Int.reduceAdd, Int.reduceMul, Int.reduceNeg, Int.reducePow, Int.reduceLE, Int.reduceLT, Int.reduceToNat, Int.reduceEq, Int.neg_neg, Int.one_mul, decide_true, decide_false, wipeE], .refl, fun _ => ⟨_, by simp only [xok, xbad, xexc, xbind, xst, xstbad, xstexc, xstbind, xgiv, xgivN, xnoE, xnx, xrt, xbk, xct, xex, xbs, xonx, xort, xoex, xjoin, xn0, xn1, xs0, xs1, e_cst, e_var, e_gl, e_bin, e_neg, e_nt, e_and, e_or, e_cmp, e_cmp2, e_ife, e_tup, e_lst, e_ix, e_sl, e_call, e_callk, e_bi, e_isi, e_lrng1, e_lrng2, t_cst, t_var, t_call, t_callk, t_ix, t_bi, t_bin, t_isi, t_lc, t_nil, t_nt, t_and, t_or, t_cmp, t_cmp2, t_ife, p_nil, p_cst, p_int, p_var, p_bin, p_call, p_neg, p_ix, p_bi, l_nil0, l_cons, i_seq, i_rng1, i_rng2, g_nm, g_tup, gs_nil, gs_cons, g_ix, s_nil, s_cons, s_asg, s_ex, s_ret, s_ret0, s_pass, s_brk, s_cont, s_ite, s_never, o_add, o_sub, o_mul, o_mulR, o_fdiv, o_mod, o_pow, o_shl, o_shr, o_addL, o_neg, o_not, o_and, o_or, c_lt, c_le, c_gt, c_ge, c_eq, c_ne, c_eqs, c_nes, c_eqb, c_neb, c_is, c_isnt, n_non, n_int, n_tup, n_ref, n_str, u_bl, u_int, u_non, u_tup, k_ii, k_bi, k_tt, b_int, b_abs, b_lent, b_lenl, b_max, b_min, b_divmod, b_all, w_rng, w_tup, w_lst, xbok, xbrt, xbnx, xbbl, xbst, xbb, xbseq, xbout, xcf, xct1, xpow, x64, xdv, x62, xble, xsz, xnew, xat_lst, xat_seq, xat_rng, xnil, e_lcR, startE, List.map_cons, List.map_nil, List.length_cons, List.length_nil, List.replicate, List.append_nil, List.cons_append, List.nil_append, Nat.sub_self, Nat.zero_add, Nat.reduceAdd, Nat.reduceSub, Nat.reduceMul, Nat.reducePow, Nat.reduceLeDiff, cond_true, cond_false, Bool.true_and, Bool.and_true, Bool.false_and, Bool.and_false, Bool.true_or, Bool.or_true, Bool.false_or, Bool.or_false, Bool.not_true, Bool.not_false, Bool.and_self, Int.reduceSub, Int.reduceAdd, Int.reduceMul, Int.reduceNeg, Int.reducePow, Int.reduceLE, Int.reduceLT, Int.reduceToNat, Int.reduceEq, Int.neg_neg, Int.one_mul, decide_true, decide_false, wipeE, in_kind_i, g, gw], .refl⟩⟩
  subst e3
  rw [rng_true] at q3
  have q4 : lstAt h3 P6.sz = some (((rngI (0 - K) (K - (0 - K)).toNat).map (fun w => holdsB f s (2 * w + 1) (f + 1))).map .bl) := by rw [List.map_map]; exact mut_lst q3
  rw [hO] at q4
  simp only [xok, xbad, xexc, xbind, xst, xstbad, xstexc, xstbind, xgiv, xgivN, xnoE, xnx, xrt, xbk, xct, xex, xbs, xonx, xort, xoex, xjoin, xn0, xn1, xs0, xs1, e_cst, e_var, e_gl, e_bin, e_neg, e_nt, e_and, e_or, e_cmp, e_cmp2, e_ife, e_tup, e_lst, e_ix, e_sl, e_call, e_callk, e_bi, e_isi, e_lrng1, e_lrng2, t_cst, t_var, t_call, t_callk, t_ix, t_bi, t_bin, t_isi, t_lc, t_nil, t_nt, t_and, t_or, t_cmp, t_cmp2, t_ife, p_nil, p_cst, p_int, p_var, p_bin, p_call, p_neg, p_ix, p_bi, l_nil0, l_cons, i_seq, i_rng1, i_rng2, g_nm, g_tup, gs_nil, gs_cons, g_ix, s_nil, s_cons, s_asg, s_ex, s_ret, s_ret0, s_pass, s_brk, s_cont, s_ite, s_never, o_add, o_sub, o_mul, o_mulR, o_fdiv, o_mod, o_pow, o_shl, o_shr, o_addL, o_neg, o_not, o_and, o_or, c_lt, c_le, c_gt, c_ge, c_eq, c_ne, c_eqs, c_nes, c_eqb, c_neb, c_is, c_isnt, n_non, n_int, n_tup, n_ref, n_str, u_bl, u_int, u_non, u_tup, k_ii, k_bi, k_tt, b_int, b_abs, b_lent, b_lenl, b_max, b_min, b_divmod, b_all, w_rng, w_tup, w_lst, xbok, xbrt, xbnx, xbbl, xbst, xbb, xbseq, xbout, xcf, xct1, xpow, x64, xdv, x62, xble, xsz, xnew, xat_lst, xat_seq, xat_rng, xnil, e_lcR, startE, List.map_cons, List.map_nil, List.length_cons, List.length_nil, List.replicate, List.append_nil, List.cons_append, List.nil_append, Nat.sub_self, Nat.zero_add, Nat.reduceAdd, Nat.reduceSub, Nat.reduceMul, Nat.reducePow, Nat.reduceLeDiff, cond_true, cond_false, Bool.true_and, Bool.and_true, Bool.false_and, Bool.and_false, Bool.true_or, Bool.or_true, Bool.false_or, Bool.or_false, Bool.not_true, Bool.not_false, Bool.and_self, Int.reduceSub, Int.reduceAdd, Int.reduceMul, Int.reduceNeg, Int.reducePow, Int.reduceLE, Int.reduceLT, Int.reduceToNat, Int.reduceEq, Int.neg_neg, Int.one_mul, decide_true, decide_false]
  -- even
  generalize hr4 : (ev _ (ME.lc _ _ _ _ _)).e _ _ = r4
  obtain ⟨h4, e4, x4, z4, q5⟩ : ∃ h4, r4 = .ok (.ref h3.sz) h4 ∧ Ext h3 h4 ∧ h3.sz < h4.sz ∧ mutAt h4 h3.sz = some (((rngI (0 - K) (K - (0 - K)).toNat).filter (fun _ => true)).map fun w => .bl (holdsB f s (4 * w) (f + 2))) := by
    rw [← hr4]
    refine e_lcR (lo := 0 - K) (hi := K) (h1 := h3) ?_ (by show _ < 100000; omega) (by omega) fun wd h' w1 w2 x' => ?_
    · have j1 : -4611686018427387904 ≤ 0 - K := by omega
      have j2 : 0 - K < 4611686018427387904 := by omega
      have j3 : -4611686018427387904 ≤ K := by omega
      have j4 : K < 4611686018427387904 := by omega
      simp only [xok, xbad, xexc, xbind, xst, xstbad, xstexc, xstbind, xgiv, xgivN, xnoE, xnx, xrt, xbk, xct, xex, xbs, xonx, xort, xoex, xjoin, xn0, xn1, xs0, xs1, e_cst, e_var, e_gl, e_bin, e_neg, e_nt, e_and, e_or, e_cmp, e_cmp2, e_ife, e_tup, e_lst, e_ix, e_sl, e_call, e_callk, e_bi, e_isi, e_lrng1, e_lrng2, t_cst, t_var, t_call, t_callk, t_ix, t_bi, t_bin, t_isi, t_lc, t_nil, t_nt, t_and, t_or, t_cmp, t_cmp2, t_ife, p_nil, p_cst, p_int, p_var, p_bin, p_call, p_neg, p_ix, p_bi, l_nil0, l_cons, i_seq, i_rng1, i_rng2, g_nm, g_tup, gs_nil, gs_cons, g_ix, s_nil, s_cons, s_asg, s_ex, s_ret, s_ret0, s_pass, s_brk, s_cont, s_ite, s_never, o_add, o_sub, o_mul, o_mulR, o_fdiv, o_mod, o_pow, o_shl, o_shr, o_addL, o_neg, o_not, o_and, o_or, c_lt, c_le, c_gt, c_ge, c_eq, c_ne, c_eqs, c_nes, c_eqb, c_neb, c_is, c_isnt, n_non, n_int, n_tup, n_ref, n_str, u_bl, u_int, u_non, u_tup, k_ii, k_bi, k_tt, b_int, b_abs, b_lent, b_lenl, b_max, b_min, b_divmod, b_all, w_rng, w_tup, w_lst, xbok, xbrt, xbnx, xbbl, xbst, xbb, xbseq, xbout, xcf, xct1, xpow, x64, xdv, x62, xble, xsz, xnew, xat_lst, xat_seq, xat_rng, xnil, e_lcR, startE, List.map_cons, List.map_nil, List.length_cons, List.length_nil, List.replicate, List.append_nil, List.cons_append, List.nil_append, Nat.sub_self, Nat.zero_add, Nat.reduceAdd, Nat.reduceSub, Nat.reduceMul, Nat.reducePow, Nat.reduceLeDiff, cond_true, cond_false, Bool.true_and, Bool.and_true, Bool.false_and, Bool.and_false, Bool.true_or, Bool.or_true, Bool.false_or, Bool.or_false, Bool.not_true, Bool.not_false, Bool.and_self, Int.reduceSub, Int.reduceAdd, Int.reduceMul, Int.reduceNeg, Int.reducePow, Int.reduceLE, Int.reduceLT, Int.reduceToNat, Int.reduceEq, Int.neg_neg, Int.one_mul, decide_true, decide_false, w_rng, j1, j2, j3, j4]
    · have gw : WP (4 * wd) (f + 2) (f + 2) := ⟨by omega, by omega, by omega, by omega, by omega, by omega⟩
      have ep2 : ∀ h, giv (Sm.permV [0, 1, 2] [MV.tup [.int f, .int s], .int (4 * wd), .int (f + 2)]) h = .ok [.tup [.int f, .int s], .int (4 * wd), .int (f + 2)] h := fun h => rfl
      exact ⟨_, by simp only [xok, xbad, xexc, xbind, xst, xstbad, xstexc, xstbind, xgiv, xgivN, xnoE, xnx, xrt, xbk, xct, xex, xbs, xonx, xort, xoex, xjoin, xn0, xn1, xs0, xs1, e_cst, e_var, e_gl, e_bin, e_neg, e_nt, e_and, e_or, e_cmp, e_cmp2, e_ife, e_tup, e_lst, e_ix, e_sl, e_call, e_callk, e_bi, e_isi, e_lrng1, e_lrng2, t_cst, t_var, t_call, t_callk, t_ix, t_bi, t_bin, t_isi, t_lc, t_nil, t_nt, t_and, t_or, t_cmp, t_cmp2, t_ife, p_nil, p_cst, p_int, p_var, p_bin, p_call, p_neg, p_ix, p_bi, l_nil0, l_cons, i_seq, i_rng1, i_rng2, g_nm, g_tup, gs_nil, gs_cons, g_ix, s_nil, s_cons, s_asg, s_ex, s_ret, s_ret0, s_pass, s_brk, s_cont, s_ite, s_never, o_add, o_sub, o_mul, o_mulR, o_fdiv, o_mod, o_pow, o_shl, o_shr, o_addL, o_neg, o_not, o_and, o_or, c_lt, c_le, c_gt, c_ge, c_eq, c_ne, c_eqs, c_nes, c_eqb, c_neb, c_is, c_isnt, n_non, n_int, n_tup, n_ref, n_str, u_bl, u_int, u_non, u_tup, k_ii, k_bi, k_tt, b_int, b_abs, b_lent, b_lenl, b_max, b_min, b_divmod, b_all, w_rng, w_tup, w_lst, xbok, xbrt, xbnx, xbbl, xbst, xbb, xbseq, xbout, xcf, xct1, xpow, x64, xdv, x62, xble, xsz, xnew, xat_lst, xat_seq, xat_rng, xnil, e_lcR, startE, List.map_cons, List.map_nil, List.length_cons, List.length_nil, List.replicate, List.append_nil, List.cons_append, List.nil_append, Nat.sub_self, Nat.zero_add, Nat.reduceAdd, Nat.reduceSub, Nat.reduceMul, Nat.reducePow, Nat.reduceLeDiff, cond_true, cond_false, Bool.true_and, Bool.and_true, Bool.false_and, Bool.and_false, Bool.true_or, Bool.or_true, Bool.false_or, Bool.or_false, Bool.not_true, Bool.not_false, Bool.and_self, Int.reduceSub, Int.reduceAdd, Int.reduceMul, Int.reduceNeg, Int.reducePow, Int.reduceLE, Int.reduceLT, Int.reduceToNat, Int.reduceEq, Int.neg_neg, Int.one_mul, decide_true, decide_false, wipeE], .refl, fun _ => ⟨_, by simp only [xok, xbad, xexc, xbind, xst, xstbad, xstexc, xstbind, xgiv, xgivN, xnoE, xnx, xrt, xbk, xct, xex, xbs, xonx, xort, xoex, xjoin, xn0, xn1, xs0, xs1, e_cst, e_var, e_gl, e_bin, e_neg, e_nt, e_and, e_or, e_cmp, e_cmp2, e_ife, e_tup, e_lst, e_ix, e_sl, e_call, e_callk, e_bi, e_isi, e_lrng1, e_lrng2, t_cst, t_var, t_call, t_callk, t_ix, t_bi, t_bin, t_isi, t_lc, t_nil, t_nt, t_and, t_or, t_cmp, t_cmp2, t_ife, p_nil, p_cst, p_int, p_var, p_bin, p_call, p_neg, p_ix, p_bi, l_nil0, l_cons, i_seq, i_rng1, i_rng2, g_nm, g_tup, gs_nil, gs_cons, g_ix, s_nil, s_cons, s_asg, s_ex, s_ret, s_ret0, s_pass, s_brk, s_cont, s_ite, s_never, o_add, o_sub, o_mul, o_mulR, o_fdiv, o_mod, o_pow, o_shl, o_shr, o_addL, o_neg, o_not, o_and, o_or, c_lt, c_le, c_gt, c_ge, c_eq, c_ne, c_eqs, c_nes, c_eqb, c_neb, c_is, c_isnt, n_non, n_int, n_tup, n_ref, n_str, u_bl, u_int, u_non, u_tup, k_ii, k_bi, k_tt, b_int, b_abs, b_lent, b_lenl, b_max, b_min, b_divmod, b_all, w_rng, w_tup, w_lst, xbok, xbrt, xbnx, xbbl, xbst, xbb, xbseq, xbout, xcf, xct1, xpow, x64, xdv, x62, xble, xsz, xnew, xat_lst, xat_seq, xat_rng, xnil, e_lcR, startE, List.map_cons, List.map_nil, List.length_cons, List.length_nil, List.replicate, List.append_nil, List.cons_append, List.nil_append, Nat.sub_self, Nat.zero_add, Nat.reduceAdd, Nat.reduceSub, Nat.reduceMul, Nat.reducePow, Nat.reduceLeDiff, cond_true, cond_false, Bool.true_and, Bool.and_true, Bool.false_and, Bool.and_false, Bool.true_or, Bool.or_true, Bool.false_or, Bool.or_false, Bool.not_true, Bool.not_false, Bool.and_self, Int.reduceSub, Int.reduceAdd, Int.reduceMul, Int.reduceNeg, Int.reducePow, Int.reduceLE, Int.reduceLT, Int.reduceToNat, Int.reduceEq, Int.neg_neg, Int.one_mul, decide_true, decide_false, wipeE, ep2, in_kind_i, g, gw], .refl⟩⟩
  subst e4
  rw [rng_true] at q5
  have q6 : lstAt h4 h3.sz = some (((rngI (0 - K) (K - (0 - K)).toNat).map (fun w => holdsB f s (4 * w) (f + 2))).map .bl) := by rw [List.map_map]; exact mut_lst q5
  rw [hE] at q6
  obtain ⟨R1, r1⟩ : ∃ P, P = h4.push (.lst false [.bl false]) := ⟨_, rfl⟩
  have B1 : evBin .Mult (.ref h4.sz) (.int (2 * K)) R1 = newL (List.replicate (2 * K).toNat (.bl false)) R1 := by
    rw [r1, o_mulL mut_push K0 (by show 1 * _ ≤ _; omega) (by omega), rep_one]
  obtain ⟨R2, r2⟩ : ∃ P, P = R1.push (.lst false (List.replicate (2 * K).toNat (.bl false))) := ⟨_, rfl⟩
  obtain ⟨R3, r3⟩ : ∃ P, P = R2.push (.lst false [.bl true]) := ⟨_, rfl⟩
  have B2 : evBin .Mult (.ref R2.sz) (.int (2 * K)) R3 = newL (List.replicate (2 * K).toNat (.bl true)) R3 := by
    rw [r3, o_mulL mut_push K0 (by show 1 * _ ≤ _; omega) (by omega), rep_one]
  obtain ⟨R4, r4⟩ : ∃ P, P = R3.push (.lst false (List.replicate (2 * K).toNat (.bl true))) := ⟨_, rfl⟩
  have v1 : Ext h4 R1 := by rw [r1]; exact .push _
  have v2 : Ext R1 R2 := by rw [r2]; exact .push _
  have v3 : Ext R2 R3 := by rw [r3]; exact .push _
  have v4 : Ext R3 R4 := by rw [r4]; exact .push _
  have C1 : evEq (.ref P6.sz) (.ref R1.sz) R2 = some true := by
    rw [eq_bools (((x4.trans v1).trans v2).lst z3 q4) (m := List.replicate (2 * K).toNat false) (by rw [r2, lst_push]; simp), decide_eq_true rfl]
  have C2 : evEq (.ref h3.sz) (.ref R3.sz) R4 = some true := by
    rw [eq_bools ((((v1.trans v2).trans v3).trans v4).lst z4 q6) (m := List.replicate (2 * K).toNat true) (by rw [r4, lst_push]; simp), decide_eq_true rfl]
  simp only [xok, xbad, xexc, xbind, xst, xstbad, xstexc, xstbind, xgiv, xgivN, xnoE, xnx, xrt, xbk, xct, xex, xbs, xonx, xort, xoex, xjoin, xn0, xn1, xs0, xs1, e_cst, e_var, e_gl, e_bin, e_neg, e_nt, e_and, e_or, e_cmp, e_cmp2, e_ife, e_tup, e_lst, e_ix, e_sl, e_call, e_callk, e_bi, e_isi, e_lrng1, e_lrng2, t_cst, t_var, t_call, t_callk, t_ix, t_bi, t_bin, t_isi, t_lc, t_nil, t_nt, t_and, t_or, t_cmp, t_cmp2, t_ife, p_nil, p_cst, p_int, p_var, p_bin, p_call, p_neg, p_ix, p_bi, l_nil0, l_cons, i_seq, i_rng1, i_rng2, g_nm, g_tup, gs_nil, gs_cons, g_ix, s_nil, s_cons, s_asg, s_ex, s_ret, s_ret0, s_pass, s_brk, s_cont, s_ite, s_never, o_add, o_sub, o_mul, o_mulR, o_fdiv, o_mod, o_pow, o_shl, o_shr, o_addL, o_neg, o_not, o_and, o_or, c_lt, c_le, c_gt, c_ge, c_eq, c_ne, c_eqs, c_nes, c_eqb, c_neb, c_is, c_isnt, n_non, n_int, n_tup, n_ref, n_str, u_bl, u_int, u_non, u_tup, k_ii, k_bi, k_tt, b_int, b_abs, b_lent, b_lenl, b_max, b_min, b_divmod, b_all, w_rng, w_tup, w_lst, xbok, xbrt, xbnx, xbbl, xbst, xbb, xbseq, xbout, xcf, xct1, xpow, x64, xdv, x62, xble, xsz, xnew, xat_lst, xat_seq, xat_rng, xnil, e_lcR, startE, List.map_cons, List.map_nil, List.length_cons, List.length_nil, List.replicate, List.append_nil, List.cons_append, List.nil_append, Nat.sub_self, Nat.zero_add, Nat.reduceAdd, Nat.reduceSub, Nat.reduceMul, Nat.reducePow, Nat.reduceLeDiff, cond_true, cond_false, Bool.true_and, Bool.and_true, Bool.false_and, Bool.and_false, Bool.true_or, Bool.or_true, Bool.false_or, Bool.or_false, Bool.not_true, Bool.not_false, Bool.and_self, Int.reduceSub, Int.reduceAdd, Int.reduceMul, Int.reduceNeg, Int.reducePow, Int.reduceLE, Int.reduceLT, Int.reduceToNat, Int.reduceEq, Int.neg_neg, Int.one_mul, decide_true, decide_false, ← r1, B1, ← r2, c_eqR C1, ← r3, B2, ← r4, c_eqR C2]
  exact ⟨_, rfl, (((((z6.trans x3).trans x4).trans v1).trans v2).trans v3).trans v4⟩
end Mp
namespace Mp
open PySem
theorem pail_mut {h : MH} {p : Nat} {xs : List MV} (x : mutAt h p = some xs) {h' : MH} (e : ExtD p h h') {a : Nat} {ys : List MV} (ha : a < h.sz) (ne : a ≠ p) (q : mutAt h a = some ys) : mutAt h' a = some ys := e.mut ha ne q
theorem number_right_i (d : Nat) (h : MH) (p : Nat) (g : Pail h p) : ∃ h', callD Q (d + 8) 347 [.ref p] h = .ok (.bl true) h' ∧ Pail h' p ∧ ExtD p h h' := by
  obtain ⟨v1, h1, e1, a1, b1, g1, x1⟩ := deal_i (d + 6) h p 21 g (by decide) (by decide)
  replace e1 : callD Q (d + 7) _ _ _ = _ := e1
  obtain ⟨v2, h2, e2, a2, b2, g2, x2⟩ := deal_i (d + 6) h1 p 30 g1 (by decide) (by decide)
  replace e2 : callD Q (d + 7) _ _ _ = _ := e2
  obtain ⟨v3, h3, e3, a3, b3, g3, x3⟩ := deal_i (d + 6) h2 p 64 g2 (by decide) (by decide)
  replace e3 : callD Q (d + 7) _ _ _ = _ := e3
  have xp := Ext.push (h := h3) (.lst false [.int 1, .int 2, .int 4, .int 32, .int 96])
  obtain ⟨y, h4, e4, m4, g4, x4⟩ := any_i (d + 5) (h3.push (.lst false [.int 1, .int 2, .int 4, .int 32, .int 96])) p h3.sz [.int 1, .int 2, .int 4, .int 32, .int 96] (g3.ext xp) mut_push (Nat.lt_succ_self _) (Nat.ne_of_gt g3.lt) (by decide) (by decide)
  replace e4 : callD Q (d + 7) _ _ _ = _ := e4
  obtain ⟨m, rfl, m1, m2⟩ : ∃ m : Int, y = .int m ∧ 1 ≤ m ∧ m ≤ 96 := by
    simp only [List.mem_cons, List.mem_nil_iff, or_false] at m4
    rcases m4 with rfl | rfl | rfl | rfl | rfl <;> exact ⟨_, rfl, by decide, by decide⟩
  have q1 : -18446744073709551616 < m := by omega
  have q2 : m < 18446744073709551616 := by omega
  have w1 : -3072 ≤ (v3 - 32) * m := by
    have : (-32) * m ≤ (v3 - 32) * m := Int.mul_le_mul_of_nonneg_right (by omega) (by omega)
    omega
  have w2 : (v3 - 32) * m ≤ 3072 := by
    have : (v3 - 32) * m ≤ 32 * m := Int.mul_le_mul_of_nonneg_right (by omega) (by omega)
    omega
  have xx : ExtD p h h4 := (((x1.trans x2).trans x3).trans xp.d).trans x4
  rw [call_en fn347 rfl]
  simp only [d347, xok, xbad, xexc, xbind, xst, xstbad, xstexc, xstbind, xgiv, xgivN, xnoE, xnx, xrt, xbk, xct, xex, xbs, xonx, xort, xoex, xjoin, xn0, xn1, xs0, xs1, e_cst, e_var, e_gl, e_bin, e_neg, e_nt, e_and, e_or, e_cmp, e_cmp2, e_ife, e_tup, e_lst, e_ix, e_sl, e_call, e_callk, e_bi, e_isi, e_lrng1, e_lrng2, t_cst, t_var, t_call, t_callk, t_ix, t_bi, t_bin, t_isi, t_lc, t_nil, t_nt, t_and, t_or, t_cmp, t_cmp2, t_ife, p_nil, p_cst, p_int, p_var, p_bin, p_call, p_neg, p_ix, p_bi, l_nil0, l_cons, i_seq, i_rng1, i_rng2, g_nm, g_tup, gs_nil, gs_cons, g_ix, s_nil, s_cons, s_asg, s_ex, s_ret, s_ret0, s_pass, s_brk, s_cont, s_ite, s_never, o_add, o_sub, o_mul, o_mulR, o_fdiv, o_mod, o_pow, o_shl, o_shr, o_addL, o_neg, o_not, o_and, o_or, c_lt, c_le, c_gt, c_ge, c_eq, c_ne, c_eqs, c_nes, c_eqb, c_neb, c_is, c_isnt, n_non, n_int, n_tup, n_ref, n_str, u_bl, u_int, u_non, u_tup, k_ii, k_bi, k_tt, b_int, b_abs, b_lent, b_lenl, b_max, b_min, b_divmod, b_all, w_rng, w_tup, w_lst, xbok, xbrt, xbnx, xbbl, xbst, xbb, xbseq, xbout, xcf, xct1, xpow, x64, xdv, x62, xble, xsz, xnew, xat_lst, xat_seq, xat_rng, xnil, e_lcR, startE, List.map_cons, List.map_nil, List.length_cons, List.length_nil, List.replicate, List.append_nil, List.cons_append, List.nil_append, Nat.sub_self, Nat.zero_add, Nat.reduceAdd, Nat.reduceSub, Nat.reduceMul, Nat.reducePow, Nat.reduceLeDiff, cond_true, cond_false, Bool.true_and, Bool.and_true, Bool.false_and, Bool.and_false, Bool.true_or, Bool.or_true, Bool.false_or, Bool.or_false, Bool.not_true, Bool.not_false, Bool.and_self, Int.reduceSub, Int.reduceAdd, Int.reduceMul, Int.reduceNeg, Int.reducePow, Int.reduceLE, Int.reduceLT, Int.reduceToNat, Int.reduceEq, Int.neg_neg, Int.one_mul, decide_true, decide_false, e1, e2, e3, e4, q1, q2]
  generalize (v3 - 32) * m = w at w1 w2
  generalize es : v1 - 10 = s
  generalize eb : 2 + v2 = b
  -- held
  generalize hr : (ev _ (ME.lc _ _ _ _ _)).e _ _ = r
  obtain ⟨h5, e5, x5, z5, q5⟩ : ∃ h5, r = .ok (.ref h4.sz) h5 ∧ Ext h4 h5 ∧ h4.sz < h5.sz ∧ mutAt h5 h4.sz = some (((rngI (-45) 91).filter (fun o => heldB w s o b)).map .int) := by
    rw [← hr]
    refine e_lcR (lo := -45) (hi := 46) (h1 := h4) (by simp only [xok, xbad, xexc, xbind, xst, xstbad, xstexc, xstbind, xgiv, xgivN, xnoE, xnx, xrt, xbk, xct, xex, xbs, xonx, xort, xoex, xjoin, xn0, xn1, xs0, xs1, e_cst, e_var, e_gl, e_bin, e_neg, e_nt, e_and, e_or, e_cmp, e_cmp2, e_ife, e_tup, e_lst, e_ix, e_sl, e_call, e_callk, e_bi, e_isi, e_lrng1, e_lrng2, t_cst, t_var, t_call, t_callk, t_ix, t_bi, t_bin, t_isi, t_lc, t_nil, t_nt, t_and, t_or, t_cmp, t_cmp2, t_ife, p_nil, p_cst, p_int, p_var, p_bin, p_call, p_neg, p_ix, p_bi, l_nil0, l_cons, i_seq, i_rng1, i_rng2, g_nm, g_tup, gs_nil, gs_cons, g_ix, s_nil, s_cons, s_asg, s_ex, s_ret, s_ret0, s_pass, s_brk, s_cont, s_ite, s_never, o_add, o_sub, o_mul, o_mulR, o_fdiv, o_mod, o_pow, o_shl, o_shr, o_addL, o_neg, o_not, o_and, o_or, c_lt, c_le, c_gt, c_ge, c_eq, c_ne, c_eqs, c_nes, c_eqb, c_neb, c_is, c_isnt, n_non, n_int, n_tup, n_ref, n_str, u_bl, u_int, u_non, u_tup, k_ii, k_bi, k_tt, b_int, b_abs, b_lent, b_lenl, b_max, b_min, b_divmod, b_all, w_rng, w_tup, w_lst, xbok, xbrt, xbnx, xbbl, xbst, xbb, xbseq, xbout, xcf, xct1, xpow, x64, xdv, x62, xble, xsz, xnew, xat_lst, xat_seq, xat_rng, xnil, e_lcR, startE, List.map_cons, List.map_nil, List.length_cons, List.length_nil, List.replicate, List.append_nil, List.cons_append, List.nil_append, Nat.sub_self, Nat.zero_add, Nat.reduceAdd, Nat.reduceSub, Nat.reduceMul, Nat.reducePow, Nat.reduceLeDiff, cond_true, cond_false, Bool.true_and, Bool.and_true, Bool.false_and, Bool.and_false, Bool.true_or, Bool.or_true, Bool.false_or, Bool.or_false, Bool.not_true, Bool.not_false, Bool.and_self, Int.reduceSub, Int.reduceAdd, Int.reduceMul, Int.reduceNeg, Int.reducePow, Int.reduceLE, Int.reduceLT, Int.reduceToNat, Int.reduceEq, Int.neg_neg, Int.one_mul, decide_true, decide_false, w_rng]) (by show 91 < 100000; decide) (by decide) fun o h' w1 w2 x' => ?_
    have gw : WP w s o := ⟨by omega, by omega, by omega, by omega, by omega, by omega⟩
    have c1 : 1 ≤ b := by omega
    have c2 : b ≤ 40 := by omega
    exact ⟨h'.push (.lst false (optL (atV w s o))), by simp only [xok, xbad, xexc, xbind, xst, xstbad, xstexc, xstbind, xgiv, xgivN, xnoE, xnx, xrt, xbk, xct, xex, xbs, xonx, xort, xoex, xjoin, xn0, xn1, xs0, xs1, e_cst, e_var, e_gl, e_bin, e_neg, e_nt, e_and, e_or, e_cmp, e_cmp2, e_ife, e_tup, e_lst, e_ix, e_sl, e_call, e_callk, e_bi, e_isi, e_lrng1, e_lrng2, t_cst, t_var, t_call, t_callk, t_ix, t_bi, t_bin, t_isi, t_lc, t_nil, t_nt, t_and, t_or, t_cmp, t_cmp2, t_ife, p_nil, p_cst, p_int, p_var, p_bin, p_call, p_neg, p_ix, p_bi, l_nil0, l_cons, i_seq, i_rng1, i_rng2, g_nm, g_tup, gs_nil, gs_cons, g_ix, s_nil, s_cons, s_asg, s_ex, s_ret, s_ret0, s_pass, s_brk, s_cont, s_ite, s_never, o_add, o_sub, o_mul, o_mulR, o_fdiv, o_mod, o_pow, o_shl, o_shr, o_addL, o_neg, o_not, o_and, o_or, c_lt, c_le, c_gt, c_ge, c_eq, c_ne, c_eqs, c_nes, c_eqb, c_neb, c_is, c_isnt, n_non, n_int, n_tup, n_ref, n_str, u_bl, u_int, u_non, u_tup, k_ii, k_bi, k_tt, b_int, b_abs, b_lent, b_lenl, b_max, b_min, b_divmod, b_all, w_rng, w_tup, w_lst, xbok, xbrt, xbnx, xbbl, xbst, xbb, xbseq, xbout, xcf, xct1, xpow, x64, xdv, x62, xble, xsz, xnew, xat_lst, xat_seq, xat_rng, xnil, e_lcR, startE, List.map_cons, List.map_nil, List.length_cons, List.length_nil, List.replicate, List.append_nil, List.cons_append, List.nil_append, Nat.sub_self, Nat.zero_add, Nat.reduceAdd, Nat.reduceSub, Nat.reduceMul, Nat.reducePow, Nat.reduceLeDiff, cond_true, cond_false, Bool.true_and, Bool.and_true, Bool.false_and, Bool.and_false, Bool.true_or, Bool.or_true, Bool.false_or, Bool.or_false, Bool.not_true, Bool.not_false, Bool.and_self, Int.reduceSub, Int.reduceAdd, Int.reduceMul, Int.reduceNeg, Int.reducePow, Int.reduceLE, Int.reduceLT, Int.reduceToNat, Int.reduceEq, Int.neg_neg, Int.one_mul, decide_true, decide_false, wipeE, held_i, gw, c1, c2], .push _, fun _ => ⟨_, by simp only [xok, xbad, xexc, xbind, xst, xstbad, xstexc, xstbind, xgiv, xgivN, xnoE, xnx, xrt, xbk, xct, xex, xbs, xonx, xort, xoex, xjoin, xn0, xn1, xs0, xs1, e_cst, e_var, e_gl, e_bin, e_neg, e_nt, e_and, e_or, e_cmp, e_cmp2, e_ife, e_tup, e_lst, e_ix, e_sl, e_call, e_callk, e_bi, e_isi, e_lrng1, e_lrng2, t_cst, t_var, t_call, t_callk, t_ix, t_bi, t_bin, t_isi, t_lc, t_nil, t_nt, t_and, t_or, t_cmp, t_cmp2, t_ife, p_nil, p_cst, p_int, p_var, p_bin, p_call, p_neg, p_ix, p_bi, l_nil0, l_cons, i_seq, i_rng1, i_rng2, g_nm, g_tup, gs_nil, gs_cons, g_ix, s_nil, s_cons, s_asg, s_ex, s_ret, s_ret0, s_pass, s_brk, s_cont, s_ite, s_never, o_add, o_sub, o_mul, o_mulR, o_fdiv, o_mod, o_pow, o_shl, o_shr, o_addL, o_neg, o_not, o_and, o_or, c_lt, c_le, c_gt, c_ge, c_eq, c_ne, c_eqs, c_nes, c_eqb, c_neb, c_is, c_isnt, n_non, n_int, n_tup, n_ref, n_str, u_bl, u_int, u_non, u_tup, k_ii, k_bi, k_tt, b_int, b_abs, b_lent, b_lenl, b_max, b_min, b_divmod, b_all, w_rng, w_tup, w_lst, xbok, xbrt, xbnx, xbbl, xbst, xbb, xbseq, xbout, xcf, xct1, xpow, x64, xdv, x62, xble, xsz, xnew, xat_lst, xat_seq, xat_rng, xnil, e_lcR, startE, List.map_cons, List.map_nil, List.length_cons, List.length_nil, List.replicate, List.append_nil, List.cons_append, List.nil_append, Nat.sub_self, Nat.zero_add, Nat.reduceAdd, Nat.reduceSub, Nat.reduceMul, Nat.reducePow, Nat.reduceLeDiff, cond_true, cond_false, Bool.true_and, Bool.and_true, Bool.false_and, Bool.and_false, Bool.true_or, Bool.or_true, Bool.false_or, Bool.or_false, Bool.not_true, Bool.not_false, Bool.and_self, Int.reduceSub, Int.reduceAdd, Int.reduceMul, Int.reduceNeg, Int.reducePow, Int.reduceLE, Int.reduceLT, Int.reduceToNat, Int.reduceEq, Int.neg_neg, Int.one_mul, decide_true, decide_false, wipeE], .refl⟩⟩
  subst e5
  have hb1 : 2 ≤ b := by omega
  have hb2 : b ≤ 31 := by omega
  have cv := rngI_convex (p := fun o => heldB w s o b) (fun x y z h1 h2 hx hz => held_convex x y z h1 h2 hx hz) (-45) 91
  generalize eH : (rngI (-45) 91).filter (fun o => heldB w s o b) = H at q5 cv
  have q6 := mut_lst q5
  have hH : ∀ o ∈ H, -45 ≤ o ∧ o < 46 ∧ heldB w s o b = true := fun o ho => by
    rw [← eH, List.mem_filter, mem_rngI] at ho
    exact ⟨ho.1.1, by omega, ho.2⟩
  have hB := pow_pos2 (b - 1).toNat
  have hB2 : (2 : Int) ^ (b - 1).toNat ≤ 2 ^ 30 := pow_le2 (by omega)
  have tail : ∀ P, Ext h5 P → ∃ h', (evS ⟨callD Q (d + 7), Q.con, Q.fuel⟩ (dropS 4 d347.body) [some (.ref p), some (.int s), some (.int b), some (.int w), some (.ref h4.sz), none] P).out = .ok (.bl true) h' ∧ Pail h' p ∧ ExtD p h h' := by
    intro P yP
    simp only [d347, dropS, xok, xbad, xexc, xbind, xst, xstbad, xstexc, xstbind, xgiv, xgivN, xnoE, xnx, xrt, xbk, xct, xex, xbs, xonx, xort, xoex, xjoin, xn0, xn1, xs0, xs1, e_cst, e_var, e_gl, e_bin, e_neg, e_nt, e_and, e_or, e_cmp, e_cmp2, e_ife, e_tup, e_lst, e_ix, e_sl, e_call, e_callk, e_bi, e_isi, e_lrng1, e_lrng2, t_cst, t_var, t_call, t_callk, t_ix, t_bi, t_bin, t_isi, t_lc, t_nil, t_nt, t_and, t_or, t_cmp, t_cmp2, t_ife, p_nil, p_cst, p_int, p_var, p_bin, p_call, p_neg, p_ix, p_bi, l_nil0, l_cons, i_seq, i_rng1, i_rng2, g_nm, g_tup, gs_nil, gs_cons, g_ix, s_nil, s_cons, s_asg, s_ex, s_ret, s_ret0, s_pass, s_brk, s_cont, s_ite, s_never, o_add, o_sub, o_mul, o_mulR, o_fdiv, o_mod, o_pow, o_shl, o_shr, o_addL, o_neg, o_not, o_and, o_or, c_lt, c_le, c_gt, c_ge, c_eq, c_ne, c_eqs, c_nes, c_eqb, c_neb, c_is, c_isnt, n_non, n_int, n_tup, n_ref, n_str, u_bl, u_int, u_non, u_tup, k_ii, k_bi, k_tt, b_int, b_abs, b_lent, b_lenl, b_max, b_min, b_divmod, b_all, w_rng, w_tup, w_lst, xbok, xbrt, xbnx, xbbl, xbst, xbb, xbseq, xbout, xcf, xct1, xpow, x64, xdv, x62, xble, xsz, xnew, xat_lst, xat_seq, xat_rng, xnil, e_lcR, startE, List.map_cons, List.map_nil, List.length_cons, List.length_nil, List.replicate, List.append_nil, List.cons_append, List.nil_append, Nat.sub_self, Nat.zero_add, Nat.reduceAdd, Nat.reduceSub, Nat.reduceMul, Nat.reducePow, Nat.reduceLeDiff, cond_true, cond_false, Bool.true_and, Bool.and_true, Bool.false_and, Bool.and_false, Bool.true_or, Bool.or_true, Bool.false_or, Bool.or_false, Bool.not_true, Bool.not_false, Bool.and_self, Int.reduceSub, Int.reduceAdd, Int.reduceMul, Int.reduceNeg, Int.reducePow, Int.reduceLE, Int.reduceLT, Int.reduceToNat, Int.reduceEq, Int.neg_neg, Int.one_mul, decide_true, decide_false]
    generalize hr : evS _ (MS.for_ _ _ _) _ _ = r
    obtain ⟨σ1, h6, e6, ⟨u, rfl⟩, x6⟩ : ∃ σ' h', r = .nx σ' h' ∧ (∃ u, σ' = [some (.ref p), some (.int s), some (.int b), some (.int w), some (.ref h4.sz), u]) ∧ Ext P h' := by
      rw [← hr]
      refine s_forL (xs := H.map .int) (a := h4.sz) (h1 := P) (fun _ σ' h' => (∃ u, σ' = [some (.ref p), some (.int s), some (.int b), some (.int w), some (.ref h4.sz), u]) ∧ Ext P h') ?_ ?_ ⟨⟨_, rfl⟩, .refl⟩ (fun _ σ' h' hI => (yP.trans hI.2).lst z5 q6) ?_
      · simp only [xok, xbad, xexc, xbind, xst, xstbad, xstexc, xstbind, xgiv, xgivN, xnoE, xnx, xrt, xbk, xct, xex, xbs, xonx, xort, xoex, xjoin, xn0, xn1, xs0, xs1, e_cst, e_var, e_gl, e_bin, e_neg, e_nt, e_and, e_or, e_cmp, e_cmp2, e_ife, e_tup, e_lst, e_ix, e_sl, e_call, e_callk, e_bi, e_isi, e_lrng1, e_lrng2, t_cst, t_var, t_call, t_callk, t_ix, t_bi, t_bin, t_isi, t_lc, t_nil, t_nt, t_and, t_or, t_cmp, t_cmp2, t_ife, p_nil, p_cst, p_int, p_var, p_bin, p_call, p_neg, p_ix, p_bi, l_nil0, l_cons, i_seq, i_rng1, i_rng2, g_nm, g_tup, gs_nil, gs_cons, g_ix, s_nil, s_cons, s_asg, s_ex, s_ret, s_ret0, s_pass, s_brk, s_cont, s_ite, s_never, o_add, o_sub, o_mul, o_mulR, o_fdiv, o_mod, o_pow, o_shl, o_shr, o_addL, o_neg, o_not, o_and, o_or, c_lt, c_le, c_gt, c_ge, c_eq, c_ne, c_eqs, c_nes, c_eqb, c_neb, c_is, c_isnt, n_non, n_int, n_tup, n_ref, n_str, u_bl, u_int, u_non, u_tup, k_ii, k_bi, k_tt, b_int, b_abs, b_lent, b_lenl, b_max, b_min, b_divmod, b_all, w_rng, w_tup, w_lst, xbok, xbrt, xbnx, xbbl, xbst, xbb, xbseq, xbout, xcf, xct1, xpow, x64, xdv, x62, xble, xsz, xnew, xat_lst, xat_seq, xat_rng, xnil, e_lcR, startE, List.map_cons, List.map_nil, List.length_cons, List.length_nil, List.replicate, List.append_nil, List.cons_append, List.nil_append, Nat.sub_self, Nat.zero_add, Nat.reduceAdd, Nat.reduceSub, Nat.reduceMul, Nat.reducePow, Nat.reduceLeDiff, cond_true, cond_false, Bool.true_and, Bool.and_true, Bool.false_and, Bool.and_false, Bool.true_or, Bool.or_true, Bool.false_or, Bool.or_false, Bool.not_true, Bool.not_false, Bool.and_self, Int.reduceSub, Int.reduceAdd, Int.reduceMul, Int.reduceNeg, Int.reducePow, Int.reduceLE, Int.reduceLT, Int.reduceToNat, Int.reduceEq, Int.neg_neg, Int.one_mul, decide_true, decide_false, w_lst (yP.lst z5 q6)]
      · rw [List.length_map, ← eH]
        refine Nat.lt_of_le_of_lt (List.length_filter_le _ _) ?_
        rw [rngI_len]
        show 91 < 100000
        decide
      · rintro i v σ' h' hv ⟨⟨u, rfl⟩, x'⟩
        obtain ⟨o, ho, rfl⟩ : ∃ o ∈ H, MV.int o = v := by
          rw [nth_eq] at hv
          exact List.mem_map.mp (List.mem_of_getElem? hv)
        obtain ⟨o1, o2, o3⟩ := hH o ho
        refine ⟨_, h', rfl, ?_⟩
        rw [heldB_iff] at o3
        obtain ⟨n, n1, n2, n3⟩ := o3
        have n4 := atV_back n1
        have gw : WP w s o := ⟨by omega, by omega, by omega, by omega, by omega, by omega⟩
        have gn : WP n o s := ⟨by omega, by omega, by omega, by omega, by omega, by omega⟩
        simp only [xok, xbad, xexc, xbind, xst, xstbad, xstexc, xstbind, xgiv, xgivN, xnoE, xnx, xrt, xbk, xct, xex, xbs, xonx, xort, xoex, xjoin, xn0, xn1, xs0, xs1, e_cst, e_var, e_gl, e_bin, e_neg, e_nt, e_and, e_or, e_cmp, e_cmp2, e_ife, e_tup, e_lst, e_ix, e_sl, e_call, e_callk, e_bi, e_isi, e_lrng1, e_lrng2, t_cst, t_var, t_call, t_callk, t_ix, t_bi, t_bin, t_isi, t_lc, t_nil, t_nt, t_and, t_or, t_cmp, t_cmp2, t_ife, p_nil, p_cst, p_int, p_var, p_bin, p_call, p_neg, p_ix, p_bi, l_nil0, l_cons, i_seq, i_rng1, i_rng2, g_nm, g_tup, gs_nil, gs_cons, g_ix, s_nil, s_cons, s_asg, s_ex, s_ret, s_ret0, s_pass, s_brk, s_cont, s_ite, s_never, o_add, o_sub, o_mul, o_mulR, o_fdiv, o_mod, o_pow, o_shl, o_shr, o_addL, o_neg, o_not, o_and, o_or, c_lt, c_le, c_gt, c_ge, c_eq, c_ne, c_eqs, c_nes, c_eqb, c_neb, c_is, c_isnt, n_non, n_int, n_tup, n_ref, n_str, u_bl, u_int, u_non, u_tup, k_ii, k_bi, k_tt, b_int, b_abs, b_lent, b_lenl, b_max, b_min, b_divmod, b_all, w_rng, w_tup, w_lst, xbok, xbrt, xbnx, xbbl, xbst, xbb, xbseq, xbout, xcf, xct1, xpow, x64, xdv, x62, xble, xsz, xnew, xat_lst, xat_seq, xat_rng, xnil, e_lcR, startE, List.map_cons, List.map_nil, List.length_cons, List.length_nil, List.replicate, List.append_nil, List.cons_append, List.nil_append, Nat.sub_self, Nat.zero_add, Nat.reduceAdd, Nat.reduceSub, Nat.reduceMul, Nat.reducePow, Nat.reduceLeDiff, cond_true, cond_false, Bool.true_and, Bool.and_true, Bool.false_and, Bool.and_false, Bool.true_or, Bool.or_true, Bool.false_or, Bool.or_false, Bool.not_true, Bool.not_false, Bool.and_self, Int.reduceSub, Int.reduceAdd, Int.reduceMul, Int.reduceNeg, Int.reducePow, Int.reduceLE, Int.reduceLT, Int.reduceToNat, Int.reduceEq, Int.neg_neg, Int.one_mul, decide_true, decide_false, at_point_i, gw, n1, optM, gn, n4]
        exact ⟨_, _, .inl rfl, ⟨_, rfl⟩, x'.trans ((Ext.push _).trans (.push _))⟩
    subst e6
    have xz : Ext h4 h6 := (x5.trans yP).trans x6
    have el : lstAt h6 h4.sz = some (H.map .int) := (yP.trans x6).lst z5 q6
    simp only [xok, xbad, xexc, xbind, xst, xstbad, xstexc, xstbind, xgiv, xgivN, xnoE, xnx, xrt, xbk, xct, xex, xbs, xonx, xort, xoex, xjoin, xn0, xn1, xs0, xs1, e_cst, e_var, e_gl, e_bin, e_neg, e_nt, e_and, e_or, e_cmp, e_cmp2, e_ife, e_tup, e_lst, e_ix, e_sl, e_call, e_callk, e_bi, e_isi, e_lrng1, e_lrng2, t_cst, t_var, t_call, t_callk, t_ix, t_bi, t_bin, t_isi, t_lc, t_nil, t_nt, t_and, t_or, t_cmp, t_cmp2, t_ife, p_nil, p_cst, p_int, p_var, p_bin, p_call, p_neg, p_ix, p_bi, l_nil0, l_cons, i_seq, i_rng1, i_rng2, g_nm, g_tup, gs_nil, gs_cons, g_ix, s_nil, s_cons, s_asg, s_ex, s_ret, s_ret0, s_pass, s_brk, s_cont, s_ite, s_never, o_add, o_sub, o_mul, o_mulR, o_fdiv, o_mod, o_pow, o_shl, o_shr, o_addL, o_neg, o_not, o_and, o_or, c_lt, c_le, c_gt, c_ge, c_eq, c_ne, c_eqs, c_nes, c_eqb, c_neb, c_is, c_isnt, n_non, n_int, n_tup, n_ref, n_str, u_bl, u_int, u_non, u_tup, k_ii, k_bi, k_tt, b_int, b_abs, b_lent, b_lenl, b_max, b_min, b_divmod, b_all, w_rng, w_tup, w_lst, xbok, xbrt, xbnx, xbbl, xbst, xbb, xbseq, xbout, xcf, xct1, xpow, x64, xdv, x62, xble, xsz, xnew, xat_lst, xat_seq, xat_rng, xnil, e_lcR, startE, List.map_cons, List.map_nil, List.length_cons, List.length_nil, List.replicate, List.append_nil, List.cons_append, List.nil_append, Nat.sub_self, Nat.zero_add, Nat.reduceAdd, Nat.reduceSub, Nat.reduceMul, Nat.reducePow, Nat.reduceLeDiff, cond_true, cond_false, Bool.true_and, Bool.and_true, Bool.false_and, Bool.and_false, Bool.true_or, Bool.or_true, Bool.false_or, Bool.or_false, Bool.not_true, Bool.not_false, Bool.and_self, Int.reduceSub, Int.reduceAdd, Int.reduceMul, Int.reduceNeg, Int.reducePow, Int.reduceLE, Int.reduceLT, Int.reduceToNat, Int.reduceEq, Int.neg_neg, Int.one_mul, decide_true, decide_false, b_lenl el]
    have fin : (!decide (w = 0) || decide (((H.map MV.int).length : Int) = 91)) = true := by
      by_cases hw : w = 0
      · subst hw
        have : H = rngI (-45) 91 := by
          rw [← eH]
          exact List.filter_eq_self.mpr fun o _ => held_zero s o b
        rw [this, List.length_map, rngI_len]
        rfl
      · rw [decide_eq_false hw]; rfl
    rw [fin]
    exact ⟨h6, rfl, g4.ext xz, xx.trans xz.d⟩
  -- the empty list
  obtain ⟨P1, p1⟩ : ∃ P, P = h5.push (.lst false []) := ⟨_, rfl⟩
  have y1 : Ext h5 P1 := by rw [p1]; exact .push _
  have C1 : evEq (.ref h4.sz) (.ref h5.sz) P1 = some (decide (H = [])) := eq_ints (y1.lst z5 q6) (m := []) (by rw [p1]; exact lst_push)
  simp only [xok, xbad, xexc, xbind, xst, xstbad, xstexc, xstbind, xgiv, xgivN, xnoE, xnx, xrt, xbk, xct, xex, xbs, xonx, xort, xoex, xjoin, xn0, xn1, xs0, xs1, e_cst, e_var, e_gl, e_bin, e_neg, e_nt, e_and, e_or, e_cmp, e_cmp2, e_ife, e_tup, e_lst, e_ix, e_sl, e_call, e_callk, e_bi, e_isi, e_lrng1, e_lrng2, t_cst, t_var, t_call, t_callk, t_ix, t_bi, t_bin, t_isi, t_lc, t_nil, t_nt, t_and, t_or, t_cmp, t_cmp2, t_ife, p_nil, p_cst, p_int, p_var, p_bin, p_call, p_neg, p_ix, p_bi, l_nil0, l_cons, i_seq, i_rng1, i_rng2, g_nm, g_tup, gs_nil, gs_cons, g_ix, s_nil, s_cons, s_asg, s_ex, s_ret, s_ret0, s_pass, s_brk, s_cont, s_ite, s_never, o_add, o_sub, o_mul, o_mulR, o_fdiv, o_mod, o_pow, o_shl, o_shr, o_addL, o_neg, o_not, o_and, o_or, c_lt, c_le, c_gt, c_ge, c_eq, c_ne, c_eqs, c_nes, c_eqb, c_neb, c_is, c_isnt, n_non, n_int, n_tup, n_ref, n_str, u_bl, u_int, u_non, u_tup, k_ii, k_bi, k_tt, b_int, b_abs, b_lent, b_lenl, b_max, b_min, b_divmod, b_all, w_rng, w_tup, w_lst, xbok, xbrt, xbnx, xbbl, xbst, xbb, xbseq, xbout, xcf, xct1, xpow, x64, xdv, x62, xble, xsz, xnew, xat_lst, xat_seq, xat_rng, xnil, e_lcR, startE, List.map_cons, List.map_nil, List.length_cons, List.length_nil, List.replicate, List.append_nil, List.cons_append, List.nil_append, Nat.sub_self, Nat.zero_add, Nat.reduceAdd, Nat.reduceSub, Nat.reduceMul, Nat.reducePow, Nat.reduceLeDiff, cond_true, cond_false, Bool.true_and, Bool.and_true, Bool.false_and, Bool.and_false, Bool.true_or, Bool.or_true, Bool.false_or, Bool.or_false, Bool.not_true, Bool.not_false, Bool.and_self, Int.reduceSub, Int.reduceAdd, Int.reduceMul, Int.reduceNeg, Int.reducePow, Int.reduceLE, Int.reduceLT, Int.reduceToNat, Int.reduceEq, Int.neg_neg, Int.one_mul, decide_true, decide_false, ← p1, c_neR C1]
  rcases cv with rfl | ⟨a, n, rfl⟩
  · simp only [xok, xbad, xexc, xbind, xst, xstbad, xstexc, xstbind, xgiv, xgivN, xnoE, xnx, xrt, xbk, xct, xex, xbs, xonx, xort, xoex, xjoin, xn0, xn1, xs0, xs1, e_cst, e_var, e_gl, e_bin, e_neg, e_nt, e_and, e_or, e_cmp, e_cmp2, e_ife, e_tup, e_lst, e_ix, e_sl, e_call, e_callk, e_bi, e_isi, e_lrng1, e_lrng2, t_cst, t_var, t_call, t_callk, t_ix, t_bi, t_bin, t_isi, t_lc, t_nil, t_nt, t_and, t_or, t_cmp, t_cmp2, t_ife, p_nil, p_cst, p_int, p_var, p_bin, p_call, p_neg, p_ix, p_bi, l_nil0, l_cons, i_seq, i_rng1, i_rng2, g_nm, g_tup, gs_nil, gs_cons, g_ix, s_nil, s_cons, s_asg, s_ex, s_ret, s_ret0, s_pass, s_brk, s_cont, s_ite, s_never, o_add, o_sub, o_mul, o_mulR, o_fdiv, o_mod, o_pow, o_shl, o_shr, o_addL, o_neg, o_not, o_and, o_or, c_lt, c_le, c_gt, c_ge, c_eq, c_ne, c_eqs, c_nes, c_eqb, c_neb, c_is, c_isnt, n_non, n_int, n_tup, n_ref, n_str, u_bl, u_int, u_non, u_tup, k_ii, k_bi, k_tt, b_int, b_abs, b_lent, b_lenl, b_max, b_min, b_divmod, b_all, w_rng, w_tup, w_lst, xbok, xbrt, xbnx, xbbl, xbst, xbb, xbseq, xbout, xcf, xct1, xpow, x64, xdv, x62, xble, xsz, xnew, xat_lst, xat_seq, xat_rng, xnil, e_lcR, startE, List.map_cons, List.map_nil, List.length_cons, List.length_nil, List.replicate, List.append_nil, List.cons_append, List.nil_append, Nat.sub_self, Nat.zero_add, Nat.reduceAdd, Nat.reduceSub, Nat.reduceMul, Nat.reducePow, Nat.reduceLeDiff, cond_true, cond_false, Bool.true_and, Bool.and_true, Bool.false_and, Bool.and_false, Bool.true_or, Bool.or_true, Bool.false_or, Bool.or_false, Bool.not_true, Bool.not_false, Bool.and_self, Int.reduceSub, Int.reduceAdd, Int.reduceMul, Int.reduceNeg, Int.reducePow, Int.reduceLE, Int.reduceLT, Int.reduceToNat, Int.reduceEq, Int.neg_neg, Int.one_mul, decide_true, decide_false]
    exact tail P1 y1
  · have ne : ¬ (rngI a (n + 1) = []) := fun z => by
      have := congrArg List.length z
      rw [rngI_len] at this
      simp at this
    have ll : ((rngI a (n + 1)).map MV.int).length = n + 1 := by rw [List.length_map, rngI_len]
    have m0 := hH a (mem_rngI.mpr ⟨by omega, by omega⟩)
    have mn := hH (a + n) (mem_rngI.mpr ⟨by omega, by omega⟩)
    have q7 := y1.lst z5 q6
    have I0 : evIx (.ref h4.sz) (.int 0) P1 = some (.int a) := by
      rw [ix_ref q7 (k := 0) (ixN_pos (by decide) (by rw [ll]; omega)), nth_eq, List.getElem?_map, rngI_get _ _ _ (by omega)]
      simp
    have I1 : evIx (.ref h4.sz) (.int (-1)) P1 = some (.int (a + n)) := by
      rw [ix_ref q7 (k := n) (by rw [ixN_neg (by decide) (by rw [ll]; omega), ll]; congr 1; omega), nth_eq, List.getElem?_map, rngI_get _ _ _ (by omega)]
      rfl
    obtain ⟨P2, p2⟩ : ∃ P, P = P1.push (.lst false ((rngI a (n + 1)).map .int)) := ⟨_, rfl⟩
    have en : (a + n + 1 - a).toNat = n + 1 := by omega
    have L1 : Sm.lrngV (.int a) (.int (a + n + 1)) P1 = .ok (.ref P1.sz) P2 := by
      rw [w_lrng (by rw [x62]; simp only [Bool.and_eq_true, decide_eq_true_eq]; omega) (by rw [x62]; simp only [Bool.and_eq_true, decide_eq_true_eq]; omega) (by omega), en, p2]
      rfl
    have y2 : Ext P1 P2 := by rw [p2]; exact .push _
    have C2 : evEq (.ref h4.sz) (.ref P1.sz) P2 = some true := by
      rw [eq_ints ((y1.trans y2).lst z5 q6) (m := rngI a (n + 1)) (by rw [p2]; exact lst_push), decide_eq_true rfl]
    simp only [xok, xbad, xexc, xbind, xst, xstbad, xstexc, xstbind, xgiv, xgivN, xnoE, xnx, xrt, xbk, xct, xex, xbs, xonx, xort, xoex, xjoin, xn0, xn1, xs0, xs1, e_cst, e_var, e_gl, e_bin, e_neg, e_nt, e_and, e_or, e_cmp, e_cmp2, e_ife, e_tup, e_lst, e_ix, e_sl, e_call, e_callk, e_bi, e_isi, e_lrng1, e_lrng2, t_cst, t_var, t_call, t_callk, t_ix, t_bi, t_bin, t_isi, t_lc, t_nil, t_nt, t_and, t_or, t_cmp, t_cmp2, t_ife, p_nil, p_cst, p_int, p_var, p_bin, p_call, p_neg, p_ix, p_bi, l_nil0, l_cons, i_seq, i_rng1, i_rng2, g_nm, g_tup, gs_nil, gs_cons, g_ix, s_nil, s_cons, s_asg, s_ex, s_ret, s_ret0, s_pass, s_brk, s_cont, s_ite, s_never, o_add, o_sub, o_mul, o_mulR, o_fdiv, o_mod, o_pow, o_shl, o_shr, o_addL, o_neg, o_not, o_and, o_or, c_lt, c_le, c_gt, c_ge, c_eq, c_ne, c_eqs, c_nes, c_eqb, c_neb, c_is, c_isnt, n_non, n_int, n_tup, n_ref, n_str, u_bl, u_int, u_non, u_tup, k_ii, k_bi, k_tt, b_int, b_abs, b_lent, b_lenl, b_max, b_min, b_divmod, b_all, w_rng, w_tup, w_lst, xbok, xbrt, xbnx, xbbl, xbst, xbb, xbseq, xbout, xcf, xct1, xpow, x64, xdv, x62, xble, xsz, xnew, xat_lst, xat_seq, xat_rng, xnil, e_lcR, startE, List.map_cons, List.map_nil, List.length_cons, List.length_nil, List.replicate, List.append_nil, List.cons_append, List.nil_append, Nat.sub_self, Nat.zero_add, Nat.reduceAdd, Nat.reduceSub, Nat.reduceMul, Nat.reducePow, Nat.reduceLeDiff, cond_true, cond_false, Bool.true_and, Bool.and_true, Bool.false_and, Bool.and_false, Bool.true_or, Bool.or_true, Bool.false_or, Bool.or_false, Bool.not_true, Bool.not_false, Bool.and_self, Int.reduceSub, Int.reduceAdd, Int.reduceMul, Int.reduceNeg, Int.reducePow, Int.reduceLE, Int.reduceLT, Int.reduceToNat, Int.reduceEq, Int.neg_neg, Int.one_mul, decide_true, decide_false, ne, I0, I1, L1, c_neR C2]
    exact tail P2 (y1.trans y2)
end Mp
namespace Mp
open PySem
theorem right_i (d : Nat) (h : MH) (p : Nat) (g : Pail h p) : ∃ h', callD Q (d + 10) 348 [.ref p] h = .ok (.bl true) h' ∧ ExtD p h h' := by
  rw [call_en fn348 rfl]
  simp only [d348, xok, xbad, xexc, xbind, xst, xstbad, xstexc, xstbind, xgiv, xgivN, xnoE, xnx, xrt, xbk, xct, xex, xbs, xonx, xort, xoex, xjoin, xn0, xn1, xs0, xs1, e_cst, e_var, e_gl, e_bin, e_neg, e_nt, e_and, e_or, e_cmp, e_cmp2, e_ife, e_tup, e_lst, e_ix, e_sl, e_call, e_callk, e_bi, e_isi, e_lrng1, e_lrng2, t_cst, t_var, t_call, t_callk, t_ix, t_bi, t_bin, t_isi, t_lc, t_nil, t_nt, t_and, t_or, t_cmp, t_cmp2, t_ife, p_nil, p_cst, p_int, p_var, p_bin, p_call, p_neg, p_ix, p_bi, l_nil0, l_cons, i_seq, i_rng1, i_rng2, g_nm, g_tup, gs_nil, gs_cons, g_ix, s_nil, s_cons, s_asg, s_ex, s_ret, s_ret0, s_pass, s_brk, s_cont, s_ite, s_never, o_add, o_sub, o_mul, o_mulR, o_fdiv, o_mod, o_pow, o_shl, o_shr, o_addL, o_neg, o_not, o_and, o_or, c_lt, c_le, c_gt, c_ge, c_eq, c_ne, c_eqs, c_nes, c_eqb, c_neb, c_is, c_isnt, n_non, n_int, n_tup, n_ref, n_str, u_bl, u_int, u_non, u_tup, k_ii, k_bi, k_tt, b_int, b_abs, b_lent, b_lenl, b_max, b_min, b_divmod, b_all, w_rng, w_tup, w_lst, xbok, xbrt, xbnx, xbbl, xbst, xbb, xbseq, xbout, xcf, xct1, xpow, x64, xdv, x62, xble, xsz, xnew, xat_lst, xat_seq, xat_rng, xnil, e_lcR, startE, List.map_cons, List.map_nil, List.length_cons, List.length_nil, List.replicate, List.append_nil, List.cons_append, List.nil_append, Nat.sub_self, Nat.zero_add, Nat.reduceAdd, Nat.reduceSub, Nat.reduceMul, Nat.reducePow, Nat.reduceLeDiff, cond_true, cond_false, Bool.true_and, Bool.and_true, Bool.false_and, Bool.and_false, Bool.true_or, Bool.or_true, Bool.false_or, Bool.or_false, Bool.not_true, Bool.not_false, Bool.and_self, Int.reduceSub, Int.reduceAdd, Int.reduceMul, Int.reduceNeg, Int.reducePow, Int.reduceLE, Int.reduceLT, Int.reduceToNat, Int.reduceEq, Int.neg_neg, Int.one_mul, decide_true, decide_false]
  generalize hr : evS _ (MS.for_ _ _ _) _ _ = r
  obtain ⟨σ1, h1, e1, _, _, x1⟩ : ∃ σ' h', r = .nx σ' h' ∧ (∃ a b c e f t, σ' = [some (.ref p), t, a, b, c, e, f]) ∧ Pail h' p ∧ ExtD p h h' := by
    rw [← hr]
    refine s_forR (lo := 0) (hi := 4) (h1 := h) (n := 4) (fun _ σ' h' => (∃ a b c e f t, σ' = [some (.ref p), t, a, b, c, e, f]) ∧ Pail h' p ∧ ExtD p h h') ?_ rfl (by show 4 < 100000; decide) ⟨⟨_, _, _, _, _, _, rfl⟩, g, .refl⟩ ?_
    · simp only [xok, xbad, xexc, xbind, xst, xstbad, xstexc, xstbind, xgiv, xgivN, xnoE, xnx, xrt, xbk, xct, xex, xbs, xonx, xort, xoex, xjoin, xn0, xn1, xs0, xs1, e_cst, e_var, e_gl, e_bin, e_neg, e_nt, e_and, e_or, e_cmp, e_cmp2, e_ife, e_tup, e_lst, e_ix, e_sl, e_call, e_callk, e_bi, e_isi, e_lrng1, e_lrng2, t_cst, t_var, t_call, t_callk, t_ix, t_bi, t_bin, t_isi, t_lc, t_nil, t_nt, t_and, t_or, t_cmp, t_cmp2, t_ife, p_nil, p_cst, p_int, p_var, p_bin, p_call, p_neg, p_ix, p_bi, l_nil0, l_cons, i_seq, i_rng1, i_rng2, g_nm, g_tup, gs_nil, gs_cons, g_ix, s_nil, s_cons, s_asg, s_ex, s_ret, s_ret0, s_pass, s_brk, s_cont, s_ite, s_never, o_add, o_sub, o_mul, o_mulR, o_fdiv, o_mod, o_pow, o_shl, o_shr, o_addL, o_neg, o_not, o_and, o_or, c_lt, c_le, c_gt, c_ge, c_eq, c_ne, c_eqs, c_nes, c_eqb, c_neb, c_is, c_isnt, n_non, n_int, n_tup, n_ref, n_str, u_bl, u_int, u_non, u_tup, k_ii, k_bi, k_tt, b_int, b_abs, b_lent, b_lenl, b_max, b_min, b_divmod, b_all, w_rng, w_tup, w_lst, xbok, xbrt, xbnx, xbbl, xbst, xbb, xbseq, xbout, xcf, xct1, xpow, x64, xdv, x62, xble, xsz, xnew, xat_lst, xat_seq, xat_rng, xnil, e_lcR, startE, List.map_cons, List.map_nil, List.length_cons, List.length_nil, List.replicate, List.append_nil, List.cons_append, List.nil_append, Nat.sub_self, Nat.zero_add, Nat.reduceAdd, Nat.reduceSub, Nat.reduceMul, Nat.reducePow, Nat.reduceLeDiff, cond_true, cond_false, Bool.true_and, Bool.and_true, Bool.false_and, Bool.and_false, Bool.true_or, Bool.or_true, Bool.false_or, Bool.or_false, Bool.not_true, Bool.not_false, Bool.and_self, Int.reduceSub, Int.reduceAdd, Int.reduceMul, Int.reduceNeg, Int.reducePow, Int.reduceLE, Int.reduceLT, Int.reduceToNat, Int.reduceEq, Int.neg_neg, Int.one_mul, decide_true, decide_false, w_rng]
    · rintro i σ h0 hi ⟨⟨a, b, c, e, f, t, rfl⟩, g0, x0⟩
      obtain ⟨k, h1, e1, k1, k2, g1, x1⟩ := deal_i (d + 8) h0 p 6 g0 (by decide) (by decide)
      replace e1 : callD Q (d + 9) _ _ _ = _ := e1
      obtain ⟨v2, h2, e2, a2, b2, g2, x2⟩ := deal_i (d + 8) h1 p 30 g1 (by decide) (by decide)
      replace e2 : callD Q (d + 9) _ _ _ = _ := e2
      have xp := Ext.push (h := h2) (.lst false [.int 0, .int 1, .int 3, .int (-2), .int 12, .int (-9), .int (v2 - 15)])
      obtain ⟨y, h4, e4, m4, g4, x4⟩ := any_i (d + 7) (h2.push (.lst false [.int 0, .int 1, .int 3, .int (-2), .int 12, .int (-9), .int (v2 - 15)])) p h2.sz _ (g2.ext xp) mut_push (Nat.lt_succ_self _) (Nat.ne_of_gt g2.lt) (by show 0 < 7; decide) (by show 7 < 1073741824; decide)
      replace e4 : callD Q (d + 9) _ _ _ = _ := e4
      obtain ⟨m, rfl, m1, m2⟩ : ∃ m : Int, y = .int m ∧ -15 ≤ m ∧ m ≤ 14 := by
        simp only [List.mem_cons, List.mem_nil_iff, or_false] at m4
        rcases m4 with rfl | rfl | rfl | rfl | rfl | rfl | rfl <;> exact ⟨_, rfl, by omega, by omega⟩
      obtain ⟨v5, h5, e5, a5, b5, g5, x5⟩ := deal_i (d + 8) h4 p 6 g4 (by decide) (by decide)
      replace e5 : callD Q (d + 9) _ _ _ = _ := e5
      simp only [xok, xbad, xexc, xbind, xst, xstbad, xstexc, xstbind, xgiv, xgivN, xnoE, xnx, xrt, xbk, xct, xex, xbs, xonx, xort, xoex, xjoin, xn0, xn1, xs0, xs1, e_cst, e_var, e_gl, e_bin, e_neg, e_nt, e_and, e_or, e_cmp, e_cmp2, e_ife, e_tup, e_lst, e_ix, e_sl, e_call, e_callk, e_bi, e_isi, e_lrng1, e_lrng2, t_cst, t_var, t_call, t_callk, t_ix, t_bi, t_bin, t_isi, t_lc, t_nil, t_nt, t_and, t_or, t_cmp, t_cmp2, t_ife, p_nil, p_cst, p_int, p_var, p_bin, p_call, p_neg, p_ix, p_bi, l_nil0, l_cons, i_seq, i_rng1, i_rng2, g_nm, g_tup, gs_nil, gs_cons, g_ix, s_nil, s_cons, s_asg, s_ex, s_ret, s_ret0, s_pass, s_brk, s_cont, s_ite, s_never, o_add, o_sub, o_mul, o_mulR, o_fdiv, o_mod, o_pow, o_shl, o_shr, o_addL, o_neg, o_not, o_and, o_or, c_lt, c_le, c_gt, c_ge, c_eq, c_ne, c_eqs, c_nes, c_eqb, c_neb, c_is, c_isnt, n_non, n_int, n_tup, n_ref, n_str, u_bl, u_int, u_non, u_tup, k_ii, k_bi, k_tt, b_int, b_abs, b_lent, b_lenl, b_max, b_min, b_divmod, b_all, w_rng, w_tup, w_lst, xbok, xbrt, xbnx, xbbl, xbst, xbb, xbseq, xbout, xcf, xct1, xpow, x64, xdv, x62, xble, xsz, xnew, xat_lst, xat_seq, xat_rng, xnil, e_lcR, startE, List.map_cons, List.map_nil, List.length_cons, List.length_nil, List.replicate, List.append_nil, List.cons_append, List.nil_append, Nat.sub_self, Nat.zero_add, Nat.reduceAdd, Nat.reduceSub, Nat.reduceMul, Nat.reducePow, Nat.reduceLeDiff, cond_true, cond_false, Bool.true_and, Bool.and_true, Bool.false_and, Bool.and_false, Bool.true_or, Bool.or_true, Bool.false_or, Bool.or_false, Bool.not_true, Bool.not_false, Bool.and_self, Int.reduceSub, Int.reduceAdd, Int.reduceMul, Int.reduceNeg, Int.reducePow, Int.reduceLE, Int.reduceLT, Int.reduceToNat, Int.reduceEq, Int.neg_neg, Int.one_mul, decide_true, decide_false, e1, e2, e4]
      have kd : KD m (k - m) := ⟨by omega, by omega, by omega, by omega, by omega⟩
      have ks : m + (k - m) ≤ 5 := by omega
      have xx : ExtD p h h5 := ((((x0.trans x1).trans x2).trans xp.d).trans x4).trans x5
      -- the bits
      generalize hr : evS _ (MS.for_ _ _ (MS.cons (MS.ite (ME.nt (ME.call 346 _)) _ _) _)) _ _ = r
      obtain ⟨σ6, h6, e6, ⟨u, rfl⟩, g6, x6⟩ : ∃ σ' h', r = .nx σ' h' ∧ (∃ u, σ' = [some (.ref p), some (.int (0 + (i : Int))), some (.int k), some (.int m), some (.tup [.int m, .int (k - m)]), u, f]) ∧ Pail h' p ∧ ExtD p h h' := by
        rw [← hr]
        refine s_forT (xs := [.int (if k > 2 then k else 2), .int (k + 2), .int (k + 1 + v5), .int 40]) (h1 := h5) (fun _ σ' h' => (∃ u, σ' = [some (.ref p), some (.int (0 + (i : Int))), some (.int k), some (.int m), some (.tup [.int m, .int (k - m)]), u, f]) ∧ Pail h' p ∧ ExtD p h h') ?_ (by show 4 < 100000; decide) ⟨⟨_, rfl⟩, g5, xx⟩ ?_
        · simp only [xok, xbad, xexc, xbind, xst, xstbad, xstexc, xstbind, xgiv, xgivN, xnoE, xnx, xrt, xbk, xct, xex, xbs, xonx, xort, xoex, xjoin, xn0, xn1, xs0, xs1, e_cst, e_var, e_gl, e_bin, e_neg, e_nt, e_and, e_or, e_cmp, e_cmp2, e_ife, e_tup, e_lst, e_ix, e_sl, e_call, e_callk, e_bi, e_isi, e_lrng1, e_lrng2, t_cst, t_var, t_call, t_callk, t_ix, t_bi, t_bin, t_isi, t_lc, t_nil, t_nt, t_and, t_or, t_cmp, t_cmp2, t_ife, p_nil, p_cst, p_int, p_var, p_bin, p_call, p_neg, p_ix, p_bi, l_nil0, l_cons, i_seq, i_rng1, i_rng2, g_nm, g_tup, gs_nil, gs_cons, g_ix, s_nil, s_cons, s_asg, s_ex, s_ret, s_ret0, s_pass, s_brk, s_cont, s_ite, s_never, o_add, o_sub, o_mul, o_mulR, o_fdiv, o_mod, o_pow, o_shl, o_shr, o_addL, o_neg, o_not, o_and, o_or, c_lt, c_le, c_gt, c_ge, c_eq, c_ne, c_eqs, c_nes, c_eqb, c_neb, c_is, c_isnt, n_non, n_int, n_tup, n_ref, n_str, u_bl, u_int, u_non, u_tup, k_ii, k_bi, k_tt, b_int, b_abs, b_lent, b_lenl, b_max, b_min, b_divmod, b_all, w_rng, w_tup, w_lst, xbok, xbrt, xbnx, xbbl, xbst, xbb, xbseq, xbout, xcf, xct1, xpow, x64, xdv, x62, xble, xsz, xnew, xat_lst, xat_seq, xat_rng, xnil, e_lcR, startE, List.map_cons, List.map_nil, List.length_cons, List.length_nil, List.replicate, List.append_nil, List.cons_append, List.nil_append, Nat.sub_self, Nat.zero_add, Nat.reduceAdd, Nat.reduceSub, Nat.reduceMul, Nat.reducePow, Nat.reduceLeDiff, cond_true, cond_false, Bool.true_and, Bool.and_true, Bool.false_and, Bool.and_false, Bool.true_or, Bool.or_true, Bool.false_or, Bool.or_false, Bool.not_true, Bool.not_false, Bool.and_self, Int.reduceSub, Int.reduceAdd, Int.reduceMul, Int.reduceNeg, Int.reducePow, Int.reduceLE, Int.reduceLT, Int.reduceToNat, Int.reduceEq, Int.neg_neg, Int.one_mul, decide_true, decide_false, e5]
        · rintro j v σ' h' hv ⟨⟨u, rfl⟩, g', x'⟩
          obtain ⟨n, rfl⟩ : ∃ n : Int, v = .int n := by
            rw [nth_eq] at hv
            have := List.mem_of_getElem? hv
            simp only [List.mem_cons, List.mem_nil_iff, or_false] at this
            rcases this with rfl | rfl | rfl | rfl <;> exact ⟨_, rfl⟩
          refine ⟨_, h', rfl, ?_⟩
          have n1 : 2 ≤ (if (if n > 2 then n else 2) < 40 then (if n > 2 then n else 2) else 40) := by split <;> (try split) <;> omega
          have n2 : (if (if n > 2 then n else 2) < 40 then (if n > 2 then n else 2) else 40) ≤ 40 := by split <;> (try split) <;> omega
          obtain ⟨h7, e7, x7⟩ := kind_right_i (d + 1) m (k - m) _ h' kd ks m1 m2 n1 n2
          replace e7 : callD Q (d + 9) _ _ _ = _ := e7
          simp only [xok, xbad, xexc, xbind, xst, xstbad, xstexc, xstbind, xgiv, xgivN, xnoE, xnx, xrt, xbk, xct, xex, xbs, xonx, xort, xoex, xjoin, xn0, xn1, xs0, xs1, e_cst, e_var, e_gl, e_bin, e_neg, e_nt, e_and, e_or, e_cmp, e_cmp2, e_ife, e_tup, e_lst, e_ix, e_sl, e_call, e_callk, e_bi, e_isi, e_lrng1, e_lrng2, t_cst, t_var, t_call, t_callk, t_ix, t_bi, t_bin, t_isi, t_lc, t_nil, t_nt, t_and, t_or, t_cmp, t_cmp2, t_ife, p_nil, p_cst, p_int, p_var, p_bin, p_call, p_neg, p_ix, p_bi, l_nil0, l_cons, i_seq, i_rng1, i_rng2, g_nm, g_tup, gs_nil, gs_cons, g_ix, s_nil, s_cons, s_asg, s_ex, s_ret, s_ret0, s_pass, s_brk, s_cont, s_ite, s_never, o_add, o_sub, o_mul, o_mulR, o_fdiv, o_mod, o_pow, o_shl, o_shr, o_addL, o_neg, o_not, o_and, o_or, c_lt, c_le, c_gt, c_ge, c_eq, c_ne, c_eqs, c_nes, c_eqb, c_neb, c_is, c_isnt, n_non, n_int, n_tup, n_ref, n_str, u_bl, u_int, u_non, u_tup, k_ii, k_bi, k_tt, b_int, b_abs, b_lent, b_lenl, b_max, b_min, b_divmod, b_all, w_rng, w_tup, w_lst, xbok, xbrt, xbnx, xbbl, xbst, xbb, xbseq, xbout, xcf, xct1, xpow, x64, xdv, x62, xble, xsz, xnew, xat_lst, xat_seq, xat_rng, xnil, e_lcR, startE, List.map_cons, List.map_nil, List.length_cons, List.length_nil, List.replicate, List.append_nil, List.cons_append, List.nil_append, Nat.sub_self, Nat.zero_add, Nat.reduceAdd, Nat.reduceSub, Nat.reduceMul, Nat.reducePow, Nat.reduceLeDiff, cond_true, cond_false, Bool.true_and, Bool.and_true, Bool.false_and, Bool.and_false, Bool.true_or, Bool.or_true, Bool.false_or, Bool.or_false, Bool.not_true, Bool.not_false, Bool.and_self, Int.reduceSub, Int.reduceAdd, Int.reduceMul, Int.reduceNeg, Int.reducePow, Int.reduceLE, Int.reduceLT, Int.reduceToNat, Int.reduceEq, Int.neg_neg, Int.one_mul, decide_true, decide_false, e7]
          exact ⟨_, _, .inl rfl, ⟨_, rfl⟩, g'.ext x7, x'.trans x7.d⟩
      subst e6
      simp only [xok, xbad, xexc, xbind, xst, xstbad, xstexc, xstbind, xgiv, xgivN, xnoE, xnx, xrt, xbk, xct, xex, xbs, xonx, xort, xoex, xjoin, xn0, xn1, xs0, xs1, e_cst, e_var, e_gl, e_bin, e_neg, e_nt, e_and, e_or, e_cmp, e_cmp2, e_ife, e_tup, e_lst, e_ix, e_sl, e_call, e_callk, e_bi, e_isi, e_lrng1, e_lrng2, t_cst, t_var, t_call, t_callk, t_ix, t_bi, t_bin, t_isi, t_lc, t_nil, t_nt, t_and, t_or, t_cmp, t_cmp2, t_ife, p_nil, p_cst, p_int, p_var, p_bin, p_call, p_neg, p_ix, p_bi, l_nil0, l_cons, i_seq, i_rng1, i_rng2, g_nm, g_tup, gs_nil, gs_cons, g_ix, s_nil, s_cons, s_asg, s_ex, s_ret, s_ret0, s_pass, s_brk, s_cont, s_ite, s_never, o_add, o_sub, o_mul, o_mulR, o_fdiv, o_mod, o_pow, o_shl, o_shr, o_addL, o_neg, o_not, o_and, o_or, c_lt, c_le, c_gt, c_ge, c_eq, c_ne, c_eqs, c_nes, c_eqb, c_neb, c_is, c_isnt, n_non, n_int, n_tup, n_ref, n_str, u_bl, u_int, u_non, u_tup, k_ii, k_bi, k_tt, b_int, b_abs, b_lent, b_lenl, b_max, b_min, b_divmod, b_all, w_rng, w_tup, w_lst, xbok, xbrt, xbnx, xbbl, xbst, xbb, xbseq, xbout, xcf, xct1, xpow, x64, xdv, x62, xble, xsz, xnew, xat_lst, xat_seq, xat_rng, xnil, e_lcR, startE, List.map_cons, List.map_nil, List.length_cons, List.length_nil, List.replicate, List.append_nil, List.cons_append, List.nil_append, Nat.sub_self, Nat.zero_add, Nat.reduceAdd, Nat.reduceSub, Nat.reduceMul, Nat.reducePow, Nat.reduceLeDiff, cond_true, cond_false, Bool.true_and, Bool.and_true, Bool.false_and, Bool.and_false, Bool.true_or, Bool.or_true, Bool.false_or, Bool.or_false, Bool.not_true, Bool.not_false, Bool.and_self, Int.reduceSub, Int.reduceAdd, Int.reduceMul, Int.reduceNeg, Int.reducePow, Int.reduceLE, Int.reduceLT, Int.reduceToNat, Int.reduceEq, Int.neg_neg, Int.one_mul, decide_true, decide_false]
      generalize hr3 : evS _ (MS.for_ _ _ _) _ _ = r3
      obtain ⟨σ7, h7, e7, ⟨u, rfl⟩, g7, x7⟩ : ∃ σ' h', r3 = .nx σ' h' ∧ (∃ z, σ' = [some (.ref p), some (.int (0 + (i : Int))), some (.int k), some (.int m), some (.tup [.int m, .int (k - m)]), u, z]) ∧ Pail h' p ∧ ExtD p h h' := by
        rw [← hr3]
        refine s_forR (lo := 0) (hi := 4) (h1 := h6) (n := 4) (fun _ σ' h' => (∃ z, σ' = [some (.ref p), some (.int (0 + (i : Int))), some (.int k), some (.int m), some (.tup [.int m, .int (k - m)]), u, z]) ∧ Pail h' p ∧ ExtD p h h') ?_ rfl (by show 4 < 100000; decide) ⟨⟨_, rfl⟩, g6, x6⟩ ?_
        · simp only [xok, xbad, xexc, xbind, xst, xstbad, xstexc, xstbind, xgiv, xgivN, xnoE, xnx, xrt, xbk, xct, xex, xbs, xonx, xort, xoex, xjoin, xn0, xn1, xs0, xs1, e_cst, e_var, e_gl, e_bin, e_neg, e_nt, e_and, e_or, e_cmp, e_cmp2, e_ife, e_tup, e_lst, e_ix, e_sl, e_call, e_callk, e_bi, e_isi, e_lrng1, e_lrng2, t_cst, t_var, t_call, t_callk, t_ix, t_bi, t_bin, t_isi, t_lc, t_nil, t_nt, t_and, t_or, t_cmp, t_cmp2, t_ife, p_nil, p_cst, p_int, p_var, p_bin, p_call, p_neg, p_ix, p_bi, l_nil0, l_cons, i_seq, i_rng1, i_rng2, g_nm, g_tup, gs_nil, gs_cons, g_ix, s_nil, s_cons, s_asg, s_ex, s_ret, s_ret0, s_pass, s_brk, s_cont, s_ite, s_never, o_add, o_sub, o_mul, o_mulR, o_fdiv, o_mod, o_pow, o_shl, o_shr, o_addL, o_neg, o_not, o_and, o_or, c_lt, c_le, c_gt, c_ge, c_eq, c_ne, c_eqs, c_nes, c_eqb, c_neb, c_is, c_isnt, n_non, n_int, n_tup, n_ref, n_str, u_bl, u_int, u_non, u_tup, k_ii, k_bi, k_tt, b_int, b_abs, b_lent, b_lenl, b_max, b_min, b_divmod, b_all, w_rng, w_tup, w_lst, xbok, xbrt, xbnx, xbbl, xbst, xbb, xbseq, xbout, xcf, xct1, xpow, x64, xdv, x62, xble, xsz, xnew, xat_lst, xat_seq, xat_rng, xnil, e_lcR, startE, List.map_cons, List.map_nil, List.length_cons, List.length_nil, List.replicate, List.append_nil, List.cons_append, List.nil_append, Nat.sub_self, Nat.zero_add, Nat.reduceAdd, Nat.reduceSub, Nat.reduceMul, Nat.reducePow, Nat.reduceLeDiff, cond_true, cond_false, Bool.true_and, Bool.and_true, Bool.false_and, Bool.and_false, Bool.true_or, Bool.or_true, Bool.false_or, Bool.or_false, Bool.not_true, Bool.not_false, Bool.and_self, Int.reduceSub, Int.reduceAdd, Int.reduceMul, Int.reduceNeg, Int.reducePow, Int.reduceLE, Int.reduceLT, Int.reduceToNat, Int.reduceEq, Int.neg_neg, Int.one_mul, decide_true, decide_false, w_rng]
        · rintro j σ h' hj ⟨⟨z, rfl⟩, g', x'⟩
          obtain ⟨h8, e8, g8, x8⟩ := number_right_i (d + 1) h' p g'
          replace e8 : callD Q (d + 9) _ _ _ = _ := e8
          simp only [xok, xbad, xexc, xbind, xst, xstbad, xstexc, xstbind, xgiv, xgivN, xnoE, xnx, xrt, xbk, xct, xex, xbs, xonx, xort, xoex, xjoin, xn0, xn1, xs0, xs1, e_cst, e_var, e_gl, e_bin, e_neg, e_nt, e_and, e_or, e_cmp, e_cmp2, e_ife, e_tup, e_lst, e_ix, e_sl, e_call, e_callk, e_bi, e_isi, e_lrng1, e_lrng2, t_cst, t_var, t_call, t_callk, t_ix, t_bi, t_bin, t_isi, t_lc, t_nil, t_nt, t_and, t_or, t_cmp, t_cmp2, t_ife, p_nil, p_cst, p_int, p_var, p_bin, p_call, p_neg, p_ix, p_bi, l_nil0, l_cons, i_seq, i_rng1, i_rng2, g_nm, g_tup, gs_nil, gs_cons, g_ix, s_nil, s_cons, s_asg, s_ex, s_ret, s_ret0, s_pass, s_brk, s_cont, s_ite, s_never, o_add, o_sub, o_mul, o_mulR, o_fdiv, o_mod, o_pow, o_shl, o_shr, o_addL, o_neg, o_not, o_and, o_or, c_lt, c_le, c_gt, c_ge, c_eq, c_ne, c_eqs, c_nes, c_eqb, c_neb, c_is, c_isnt, n_non, n_int, n_tup, n_ref, n_str, u_bl, u_int, u_non, u_tup, k_ii, k_bi, k_tt, b_int, b_abs, b_lent, b_lenl, b_max, b_min, b_divmod, b_all, w_rng, w_tup, w_lst, xbok, xbrt, xbnx, xbbl, xbst, xbb, xbseq, xbout, xcf, xct1, xpow, x64, xdv, x62, xble, xsz, xnew, xat_lst, xat_seq, xat_rng, xnil, e_lcR, startE, List.map_cons, List.map_nil, List.length_cons, List.length_nil, List.replicate, List.append_nil, List.cons_append, List.nil_append, Nat.sub_self, Nat.zero_add, Nat.reduceAdd, Nat.reduceSub, Nat.reduceMul, Nat.reducePow, Nat.reduceLeDiff, cond_true, cond_false, Bool.true_and, Bool.and_true, Bool.false_and, Bool.and_false, Bool.true_or, Bool.or_true, Bool.false_or, Bool.or_false, Bool.not_true, Bool.not_false, Bool.and_self, Int.reduceSub, Int.reduceAdd, Int.reduceMul, Int.reduceNeg, Int.reducePow, Int.reduceLE, Int.reduceLT, Int.reduceToNat, Int.reduceEq, Int.neg_neg, Int.one_mul, decide_true, decide_false, e8]
          exact ⟨_, _, .inl rfl, ⟨_, rfl⟩, g8, x'.trans x8⟩
      subst e7
      simp only [xok, xbad, xexc, xbind, xst, xstbad, xstexc, xstbind, xgiv, xgivN, xnoE, xnx, xrt, xbk, xct, xex, xbs, xonx, xort, xoex, xjoin, xn0, xn1, xs0, xs1, e_cst, e_var, e_gl, e_bin, e_neg, e_nt, e_and, e_or, e_cmp, e_cmp2, e_ife, e_tup, e_lst, e_ix, e_sl, e_call, e_callk, e_bi, e_isi, e_lrng1, e_lrng2, t_cst, t_var, t_call, t_callk, t_ix, t_bi, t_bin, t_isi, t_lc, t_nil, t_nt, t_and, t_or, t_cmp, t_cmp2, t_ife, p_nil, p_cst, p_int, p_var, p_bin, p_call, p_neg, p_ix, p_bi, l_nil0, l_cons, i_seq, i_rng1, i_rng2, g_nm, g_tup, gs_nil, gs_cons, g_ix, s_nil, s_cons, s_asg, s_ex, s_ret, s_ret0, s_pass, s_brk, s_cont, s_ite, s_never, o_add, o_sub, o_mul, o_mulR, o_fdiv, o_mod, o_pow, o_shl, o_shr, o_addL, o_neg, o_not, o_and, o_or, c_lt, c_le, c_gt, c_ge, c_eq, c_ne, c_eqs, c_nes, c_eqb, c_neb, c_is, c_isnt, n_non, n_int, n_tup, n_ref, n_str, u_bl, u_int, u_non, u_tup, k_ii, k_bi, k_tt, b_int, b_abs, b_lent, b_lenl, b_max, b_min, b_divmod, b_all, w_rng, w_tup, w_lst, xbok, xbrt, xbnx, xbbl, xbst, xbb, xbseq, xbout, xcf, xct1, xpow, x64, xdv, x62, xble, xsz, xnew, xat_lst, xat_seq, xat_rng, xnil, e_lcR, startE, List.map_cons, List.map_nil, List.length_cons, List.length_nil, List.replicate, List.append_nil, List.cons_append, List.nil_append, Nat.sub_self, Nat.zero_add, Nat.reduceAdd, Nat.reduceSub, Nat.reduceMul, Nat.reducePow, Nat.reduceLeDiff, cond_true, cond_false, Bool.true_and, Bool.and_true, Bool.false_and, Bool.and_false, Bool.true_or, Bool.or_true, Bool.false_or, Bool.or_false, Bool.not_true, Bool.not_false, Bool.and_self, Int.reduceSub, Int.reduceAdd, Int.reduceMul, Int.reduceNeg, Int.reducePow, Int.reduceLE, Int.reduceLT, Int.reduceToNat, Int.reduceEq, Int.neg_neg, Int.one_mul, decide_true, decide_false]
      exact ⟨_, _, .inl rfl, ⟨_, _, _, _, _, _, rfl⟩, g7, x7⟩
  subst e1
  rename_i s1 _
  obtain ⟨a, b, c, e, f, t, rfl⟩ := s1
  simp only [xok, xbad, xexc, xbind, xst, xstbad, xstexc, xstbind, xgiv, xgivN, xnoE, xnx, xrt, xbk, xct, xex, xbs, xonx, xort, xoex, xjoin, xn0, xn1, xs0, xs1, e_cst, e_var, e_gl, e_bin, e_neg, e_nt, e_and, e_or, e_cmp, e_cmp2, e_ife, e_tup, e_lst, e_ix, e_sl, e_call, e_callk, e_bi, e_isi, e_lrng1, e_lrng2, t_cst, t_var, t_call, t_callk, t_ix, t_bi, t_bin, t_isi, t_lc, t_nil, t_nt, t_and, t_or, t_cmp, t_cmp2, t_ife, p_nil, p_cst, p_int, p_var, p_bin, p_call, p_neg, p_ix, p_bi, l_nil0, l_cons, i_seq, i_rng1, i_rng2, g_nm, g_tup, gs_nil, gs_cons, g_ix, s_nil, s_cons, s_asg, s_ex, s_ret, s_ret0, s_pass, s_brk, s_cont, s_ite, s_never, o_add, o_sub, o_mul, o_mulR, o_fdiv, o_mod, o_pow, o_shl, o_shr, o_addL, o_neg, o_not, o_and, o_or, c_lt, c_le, c_gt, c_ge, c_eq, c_ne, c_eqs, c_nes, c_eqb, c_neb, c_is, c_isnt, n_non, n_int, n_tup, n_ref, n_str, u_bl, u_int, u_non, u_tup, k_ii, k_bi, k_tt, b_int, b_abs, b_lent, b_lenl, b_max, b_min, b_divmod, b_all, w_rng, w_tup, w_lst, xbok, xbrt, xbnx, xbbl, xbst, xbb, xbseq, xbout, xcf, xct1, xpow, x64, xdv, x62, xble, xsz, xnew, xat_lst, xat_seq, xat_rng, xnil, e_lcR, startE, List.map_cons, List.map_nil, List.length_cons, List.length_nil, List.replicate, List.append_nil, List.cons_append, List.nil_append, Nat.sub_self, Nat.zero_add, Nat.reduceAdd, Nat.reduceSub, Nat.reduceMul, Nat.reducePow, Nat.reduceLeDiff, cond_true, cond_false, Bool.true_and, Bool.and_true, Bool.false_and, Bool.and_false, Bool.true_or, Bool.or_true, Bool.false_or, Bool.or_false, Bool.not_true, Bool.not_false, Bool.and_self, Int.reduceSub, Int.reduceAdd, Int.reduceMul, Int.reduceNeg, Int.reducePow, Int.reduceLE, Int.reduceLT, Int.reduceToNat, Int.reduceEq, Int.neg_neg, Int.one_mul, decide_true, decide_false]
  exact ⟨_, rfl, x1⟩
/-! the pail of a script -/
theorem int_eq {i j : Int} (h : i = j) : (MV.int i) = .int j := by rw [h]
theorem pail_i (d : Nat) (h : MH) (s : Nat) (ns : List Int) (t : Int) (hs : lstAt h s = some (ns.map .int)) (s1 : s < h.sz) (t0 : 0 ≤ t) : ∃ q h', callD Q (d + 1) 304 [.ref s, .int t] h = .ok (.ref q) h' ∧ h.sz ≤ q ∧ Ext h h' ∧ Pail h' q := by
  rw [call_en fn304 rfl]
  simp only [d304, xok, xbad, xexc, xbind, xst, xstbad, xstexc, xstbind, xgiv, xgivN, xnoE, xnx, xrt, xbk, xct, xex, xbs, xonx, xort, xoex, xjoin, xn0, xn1, xs0, xs1, e_cst, e_var, e_gl, e_bin, e_neg, e_nt, e_and, e_or, e_cmp, e_cmp2, e_ife, e_tup, e_lst, e_ix, e_sl, e_call, e_callk, e_bi, e_isi, e_lrng1, e_lrng2, t_cst, t_var, t_call, t_callk, t_ix, t_bi, t_bin, t_isi, t_lc, t_nil, t_nt, t_and, t_or, t_cmp, t_cmp2, t_ife, p_nil, p_cst, p_int, p_var, p_bin, p_call, p_neg, p_ix, p_bi, l_nil0, l_cons, i_seq, i_rng1, i_rng2, g_nm, g_tup, gs_nil, gs_cons, g_ix, s_nil, s_cons, s_asg, s_ex, s_ret, s_ret0, s_pass, s_brk, s_cont, s_ite, s_never, o_add, o_sub, o_mul, o_mulR, o_fdiv, o_mod, o_pow, o_shl, o_shr, o_addL, o_neg, o_not, o_and, o_or, c_lt, c_le, c_gt, c_ge, c_eq, c_ne, c_eqs, c_nes, c_eqb, c_neb, c_is, c_isnt, n_non, n_int, n_tup, n_ref, n_str, u_bl, u_int, u_non, u_tup, k_ii, k_bi, k_tt, b_int, b_abs, b_lent, b_lenl, b_max, b_min, b_divmod, b_all, w_rng, w_tup, w_lst, xbok, xbrt, xbnx, xbbl, xbst, xbb, xbseq, xbout, xcf, xct1, xpow, x64, xdv, x62, xble, xsz, xnew, xat_lst, xat_seq, xat_rng, xnil, e_lcR, startE, List.map_cons, List.map_nil, List.length_cons, List.length_nil, List.replicate, List.append_nil, List.cons_append, List.nil_append, Nat.sub_self, Nat.zero_add, Nat.reduceAdd, Nat.reduceSub, Nat.reduceMul, Nat.reducePow, Nat.reduceLeDiff, cond_true, cond_false, Bool.true_and, Bool.and_true, Bool.false_and, Bool.and_false, Bool.true_or, Bool.or_true, Bool.false_or, Bool.or_false, Bool.not_true, Bool.not_false, Bool.and_self, Int.reduceSub, Int.reduceAdd, Int.reduceMul, Int.reduceNeg, Int.reducePow, Int.reduceLE, Int.reduceLT, Int.reduceToNat, Int.reduceEq, Int.neg_neg, Int.one_mul, decide_true, decide_false]
  generalize hr : evS _ (MS.for_ _ _ _) _ _ = r
  obtain ⟨σ1, h1, e1, ⟨a, u, rfl⟩, x1⟩ : ∃ σ' h', r = .nx σ' h' ∧ (∃ (a : Int) (u : Option MV), σ' = [some (.ref s), some (.int t), some (.int a), u, none]) ∧ Ext h h' := by
    rw [← hr]
    have xp := Ext.push (h := h) (.lst false (Sm.cutM (ns.map .int) none (some 12)))
    refine s_forL (xs := Sm.cutM (ns.map .int) none (some 12)) (a := h.sz) (h1 := h.push (.lst false (Sm.cutM (ns.map .int) none (some 12)))) (fun _ σ' h' => (∃ (a : Int) (u : Option MV), σ' = [some (.ref s), some (.int t), some (.int a), u, none]) ∧ h' = h.push (.lst false (Sm.cutM (ns.map .int) none (some 12)))) ?_ ?_ ⟨⟨_, _, rfl⟩, rfl⟩ (fun _ σ' h' hI => by rw [hI.2]; exact lst_push) ?_ |> fun ⟨σ', h', e, hI⟩ => ⟨σ', h', e, hI.1, by rw [hI.2]; exact xp⟩
    · have es : Sm.slV (.ref s) none (some 12) h = .ok (.ref h.sz) (h.push (.lst false (Sm.cutM (ns.map .int) none (some 12)))) := by
        show (match lstAt h s with
          | some xs => newL (Sm.cutM xs none (some 12)) h
          | none => .bad) = _
        rw [hs]
        rfl
      simp only [xok, xbad, xexc, xbind, xst, xstbad, xstexc, xstbind, xgiv, xgivN, xnoE, xnx, xrt, xbk, xct, xex, xbs, xonx, xort, xoex, xjoin, xn0, xn1, xs0, xs1, e_cst, e_var, e_gl, e_bin, e_neg, e_nt, e_and, e_or, e_cmp, e_cmp2, e_ife, e_tup, e_lst, e_ix, e_sl, e_call, e_callk, e_bi, e_isi, e_lrng1, e_lrng2, t_cst, t_var, t_call, t_callk, t_ix, t_bi, t_bin, t_isi, t_lc, t_nil, t_nt, t_and, t_or, t_cmp, t_cmp2, t_ife, p_nil, p_cst, p_int, p_var, p_bin, p_call, p_neg, p_ix, p_bi, l_nil0, l_cons, i_seq, i_rng1, i_rng2, g_nm, g_tup, gs_nil, gs_cons, g_ix, s_nil, s_cons, s_asg, s_ex, s_ret, s_ret0, s_pass, s_brk, s_cont, s_ite, s_never, o_add, o_sub, o_mul, o_mulR, o_fdiv, o_mod, o_pow, o_shl, o_shr, o_addL, o_neg, o_not, o_and, o_or, c_lt, c_le, c_gt, c_ge, c_eq, c_ne, c_eqs, c_nes, c_eqb, c_neb, c_is, c_isnt, n_non, n_int, n_tup, n_ref, n_str, u_bl, u_int, u_non, u_tup, k_ii, k_bi, k_tt, b_int, b_abs, b_lent, b_lenl, b_max, b_min, b_divmod, b_all, w_rng, w_tup, w_lst, xbok, xbrt, xbnx, xbbl, xbst, xbb, xbseq, xbout, xcf, xct1, xpow, x64, xdv, x62, xble, xsz, xnew, xat_lst, xat_seq, xat_rng, xnil, e_lcR, startE, List.map_cons, List.map_nil, List.length_cons, List.length_nil, List.replicate, List.append_nil, List.cons_append, List.nil_append, Nat.sub_self, Nat.zero_add, Nat.reduceAdd, Nat.reduceSub, Nat.reduceMul, Nat.reducePow, Nat.reduceLeDiff, cond_true, cond_false, Bool.true_and, Bool.and_true, Bool.false_and, Bool.and_false, Bool.true_or, Bool.or_true, Bool.false_or, Bool.or_false, Bool.not_true, Bool.not_false, Bool.and_self, Int.reduceSub, Int.reduceAdd, Int.reduceMul, Int.reduceNeg, Int.reducePow, Int.reduceLE, Int.reduceLT, Int.reduceToNat, Int.reduceEq, Int.neg_neg, Int.one_mul, decide_true, decide_false, es, w_lst (lst_push (h := h) (xs := Sm.cutM (ns.map .int) none (some 12)))]
    · show (Sm.cutM (ns.map MV.int) none (some 12)).length < 100000
      unfold Sm.cutM
      rw [List.length_take]
      have : HT.sIx (ns.map MV.int).length (ns.map MV.int).length (some 12) ≤ 12 := by
        unfold HT.sIx
        simp
        try omega
      omega
    · rintro j v σ' h' hv ⟨⟨a, u, rfl⟩, rfl⟩
      obtain ⟨n, rfl⟩ : ∃ n : Int, v = .int n := by
        rw [nth_eq] at hv
        have := List.mem_of_getElem? hv
        unfold Sm.cutM at this
        have := List.mem_of_mem_drop (List.mem_of_mem_take this)
        obtain ⟨n, _, e⟩ := List.mem_map.mp this
        exact ⟨n, e.symm⟩
      refine ⟨_, _, rfl, ?_⟩
      simp only [xok, xbad, xexc, xbind, xst, xstbad, xstexc, xstbind, xgiv, xgivN, xnoE, xnx, xrt, xbk, xct, xex, xbs, xonx, xort, xoex, xjoin, xn0, xn1, xs0, xs1, e_cst, e_var, e_gl, e_bin, e_neg, e_nt, e_and, e_or, e_cmp, e_cmp2, e_ife, e_tup, e_lst, e_ix, e_sl, e_call, e_callk, e_bi, e_isi, e_lrng1, e_lrng2, t_cst, t_var, t_call, t_callk, t_ix, t_bi, t_bin, t_isi, t_lc, t_nil, t_nt, t_and, t_or, t_cmp, t_cmp2, t_ife, p_nil, p_cst, p_int, p_var, p_bin, p_call, p_neg, p_ix, p_bi, l_nil0, l_cons, i_seq, i_rng1, i_rng2, g_nm, g_tup, gs_nil, gs_cons, g_ix, s_nil, s_cons, s_asg, s_ex, s_ret, s_ret0, s_pass, s_brk, s_cont, s_ite, s_never, o_add, o_sub, o_mul, o_mulR, o_fdiv, o_mod, o_pow, o_shl, o_shr, o_addL, o_neg, o_not, o_and, o_or, c_lt, c_le, c_gt, c_ge, c_eq, c_ne, c_eqs, c_nes, c_eqb, c_neb, c_is, c_isnt, n_non, n_int, n_tup, n_ref, n_str, u_bl, u_int, u_non, u_tup, k_ii, k_bi, k_tt, b_int, b_abs, b_lent, b_lenl, b_max, b_min, b_divmod, b_all, w_rng, w_tup, w_lst, xbok, xbrt, xbnx, xbbl, xbst, xbb, xbseq, xbout, xcf, xct1, xpow, x64, xdv, x62, xble, xsz, xnew, xat_lst, xat_seq, xat_rng, xnil, e_lcR, startE, List.map_cons, List.map_nil, List.length_cons, List.length_nil, List.replicate, List.append_nil, List.cons_append, List.nil_append, Nat.sub_self, Nat.zero_add, Nat.reduceAdd, Nat.reduceSub, Nat.reduceMul, Nat.reducePow, Nat.reduceLeDiff, cond_true, cond_false, Bool.true_and, Bool.and_true, Bool.false_and, Bool.and_false, Bool.true_or, Bool.or_true, Bool.false_or, Bool.or_false, Bool.not_true, Bool.not_false, Bool.and_self, Int.reduceSub, Int.reduceAdd, Int.reduceMul, Int.reduceNeg, Int.reducePow, Int.reduceLE, Int.reduceLT, Int.reduceToNat, Int.reduceEq, Int.neg_neg, Int.one_mul, decide_true, decide_false]
      exact ⟨_, _, .inl rfl, ⟨_, _, rfl⟩, rfl⟩
  subst e1
  have hs1 := x1.lst s1 hs
  have key : ∀ A B : Int, ∃ q h', Out.ok (MV.ref h1.sz) (h1.push (.lst false [.int A, .int B, .int 0])) = Out.ok (MV.ref q) h' ∧ h.sz ≤ q ∧ Ext h h' ∧ Pail h' q := fun A B =>
    ⟨_, _, rfl, x1.le, x1.trans (.push _), ⟨Nat.lt_succ_self _, _, _, _, mut_push⟩⟩
  by_cases ht : t < ((ns.map MV.int).length : Int)
  · obtain ⟨n, hn⟩ : ∃ n : Int, evIx (.ref s) (.int t) h1 = some (.int n) := by
      have ht' : t.toNat < ns.length := by rw [List.length_map] at ht; omega
      refine ⟨ns[t.toNat], ?_⟩
      rw [ix_ref hs1 (ixN_pos t0 ht), nth_eq, List.getElem?_map, List.getElem?_eq_getElem ht']
      rfl
    simp only [xok, xbad, xexc, xbind, xst, xstbad, xstexc, xstbind, xgiv, xgivN, xnoE, xnx, xrt, xbk, xct, xex, xbs, xonx, xort, xoex, xjoin, xn0, xn1, xs0, xs1, e_cst, e_var, e_gl, e_bin, e_neg, e_nt, e_and, e_or, e_cmp, e_cmp2, e_ife, e_tup, e_lst, e_ix, e_sl, e_call, e_callk, e_bi, e_isi, e_lrng1, e_lrng2, t_cst, t_var, t_call, t_callk, t_ix, t_bi, t_bin, t_isi, t_lc, t_nil, t_nt, t_and, t_or, t_cmp, t_cmp2, t_ife, p_nil, p_cst, p_int, p_var, p_bin, p_call, p_neg, p_ix, p_bi, l_nil0, l_cons, i_seq, i_rng1, i_rng2, g_nm, g_tup, gs_nil, gs_cons, g_ix, s_nil, s_cons, s_asg, s_ex, s_ret, s_ret0, s_pass, s_brk, s_cont, s_ite, s_never, o_add, o_sub, o_mul, o_mulR, o_fdiv, o_mod, o_pow, o_shl, o_shr, o_addL, o_neg, o_not, o_and, o_or, c_lt, c_le, c_gt, c_ge, c_eq, c_ne, c_eqs, c_nes, c_eqb, c_neb, c_is, c_isnt, n_non, n_int, n_tup, n_ref, n_str, u_bl, u_int, u_non, u_tup, k_ii, k_bi, k_tt, b_int, b_abs, b_lent, b_lenl, b_max, b_min, b_divmod, b_all, w_rng, w_tup, w_lst, xbok, xbrt, xbnx, xbbl, xbst, xbb, xbseq, xbout, xcf, xct1, xpow, x64, xdv, x62, xble, xsz, xnew, xat_lst, xat_seq, xat_rng, xnil, e_lcR, startE, List.map_cons, List.map_nil, List.length_cons, List.length_nil, List.replicate, List.append_nil, List.cons_append, List.nil_append, Nat.sub_self, Nat.zero_add, Nat.reduceAdd, Nat.reduceSub, Nat.reduceMul, Nat.reducePow, Nat.reduceLeDiff, cond_true, cond_false, Bool.true_and, Bool.and_true, Bool.false_and, Bool.and_false, Bool.true_or, Bool.or_true, Bool.false_or, Bool.or_false, Bool.not_true, Bool.not_false, Bool.and_self, Int.reduceSub, Int.reduceAdd, Int.reduceMul, Int.reduceNeg, Int.reducePow, Int.reduceLE, Int.reduceLT, Int.reduceToNat, Int.reduceEq, Int.neg_neg, Int.one_mul, decide_true, decide_false, b_lenl hs1, ht, hn]
    cases decide (n < 0) || decide (1000000000000000 ≤ n) <;> exact key _ _
  · simp only [xok, xbad, xexc, xbind, xst, xstbad, xstexc, xstbind, xgiv, xgivN, xnoE, xnx, xrt, xbk, xct, xex, xbs, xonx, xort, xoex, xjoin, xn0, xn1, xs0, xs1, e_cst, e_var, e_gl, e_bin, e_neg, e_nt, e_and, e_or, e_cmp, e_cmp2, e_ife, e_tup, e_lst, e_ix, e_sl, e_call, e_callk, e_bi, e_isi, e_lrng1, e_lrng2, t_cst, t_var, t_call, t_callk, t_ix, t_bi, t_bin, t_isi, t_lc, t_nil, t_nt, t_and, t_or, t_cmp, t_cmp2, t_ife, p_nil, p_cst, p_int, p_var, p_bin, p_call, p_neg, p_ix, p_bi, l_nil0, l_cons, i_seq, i_rng1, i_rng2, g_nm, g_tup, gs_nil, gs_cons, g_ix, s_nil, s_cons, s_asg, s_ex, s_ret, s_ret0, s_pass, s_brk, s_cont, s_ite, s_never, o_add, o_sub, o_mul, o_mulR, o_fdiv, o_mod, o_pow, o_shl, o_shr, o_addL, o_neg, o_not, o_and, o_or, c_lt, c_le, c_gt, c_ge, c_eq, c_ne, c_eqs, c_nes, c_eqb, c_neb, c_is, c_isnt, n_non, n_int, n_tup, n_ref, n_str, u_bl, u_int, u_non, u_tup, k_ii, k_bi, k_tt, b_int, b_abs, b_lent, b_lenl, b_max, b_min, b_divmod, b_all, w_rng, w_tup, w_lst, xbok, xbrt, xbnx, xbbl, xbst, xbb, xbseq, xbout, xcf, xct1, xpow, x64, xdv, x62, xble, xsz, xnew, xat_lst, xat_seq, xat_rng, xnil, e_lcR, startE, List.map_cons, List.map_nil, List.length_cons, List.length_nil, List.replicate, List.append_nil, List.cons_append, List.nil_append, Nat.sub_self, Nat.zero_add, Nat.reduceAdd, Nat.reduceSub, Nat.reduceMul, Nat.reducePow, Nat.reduceLeDiff, cond_true, cond_false, Bool.true_and, Bool.and_true, Bool.false_and, Bool.and_false, Bool.true_or, Bool.or_true, Bool.false_or, Bool.or_false, Bool.not_true, Bool.not_false, Bool.and_self, Int.reduceSub, Int.reduceAdd, Int.reduceMul, Int.reduceNeg, Int.reducePow, Int.reduceLE, Int.reduceLT, Int.reduceToNat, Int.reduceEq, Int.neg_neg, Int.one_mul, decide_true, decide_false, b_lenl hs1, ht]
    exact key _ _
theorem allB_true : ∀ l : List Int, allB (l.map fun _ => MV.bl true) = some (l.map fun _ => true)
  | [] => rfl
  | x :: r => by
    show (allB (r.map fun _ => MV.bl true)).map (true :: ·) = _
    rw [allB_true r]
    rfl
theorem law_i (d : Nat) (ns : List Int) (hl : ns.length ≤ 63) : ∃ h', callD Q (d + 11) 349 [.ref 0] (scr ns) = .ok (.bl true) h' := by
  have hs : lstAt (scr ns) 0 = some (ns.map .int) := by unfold lstAt; rw [scr_get]
  rw [call_en fn349 rfl]
  simp only [d349, xok, xbad, xexc, xbind, xst, xstbad, xstexc, xstbind, xgiv, xgivN, xnoE, xnx, xrt, xbk, xct, xex, xbs, xonx, xort, xoex, xjoin, xn0, xn1, xs0, xs1, e_cst, e_var, e_gl, e_bin, e_neg, e_nt, e_and, e_or, e_cmp, e_cmp2, e_ife, e_tup, e_lst, e_ix, e_sl, e_call, e_callk, e_bi, e_isi, e_lrng1, e_lrng2, t_cst, t_var, t_call, t_callk, t_ix, t_bi, t_bin, t_isi, t_lc, t_nil, t_nt, t_and, t_or, t_cmp, t_cmp2, t_ife, p_nil, p_cst, p_int, p_var, p_bin, p_call, p_neg, p_ix, p_bi, l_nil0, l_cons, i_seq, i_rng1, i_rng2, g_nm, g_tup, gs_nil, gs_cons, g_ix, s_nil, s_cons, s_asg, s_ex, s_ret, s_ret0, s_pass, s_brk, s_cont, s_ite, s_never, o_add, o_sub, o_mul, o_mulR, o_fdiv, o_mod, o_pow, o_shl, o_shr, o_addL, o_neg, o_not, o_and, o_or, c_lt, c_le, c_gt, c_ge, c_eq, c_ne, c_eqs, c_nes, c_eqb, c_neb, c_is, c_isnt, n_non, n_int, n_tup, n_ref, n_str, u_bl, u_int, u_non, u_tup, k_ii, k_bi, k_tt, b_int, b_abs, b_lent, b_lenl, b_max, b_min, b_divmod, b_all, w_rng, w_tup, w_lst, xbok, xbrt, xbnx, xbbl, xbst, xbb, xbseq, xbout, xcf, xct1, xpow, x64, xdv, x62, xble, xsz, xnew, xat_lst, xat_seq, xat_rng, xnil, e_lcR, startE, List.map_cons, List.map_nil, List.length_cons, List.length_nil, List.replicate, List.append_nil, List.cons_append, List.nil_append, Nat.sub_self, Nat.zero_add, Nat.reduceAdd, Nat.reduceSub, Nat.reduceMul, Nat.reducePow, Nat.reduceLeDiff, cond_true, cond_false, Bool.true_and, Bool.and_true, Bool.false_and, Bool.and_false, Bool.true_or, Bool.or_true, Bool.false_or, Bool.or_false, Bool.not_true, Bool.not_false, Bool.and_self, Int.reduceSub, Int.reduceAdd, Int.reduceMul, Int.reduceNeg, Int.reducePow, Int.reduceLE, Int.reduceLT, Int.reduceToNat, Int.reduceEq, Int.neg_neg, Int.one_mul, decide_true, decide_false, b_lenl hs]
  generalize hr : (ev _ (ME.lc _ _ _ _ _)).e _ _ = r
  generalize en : (if (if (3 : Int) < ((ns.map MV.int).length : Int) then 3 else ((ns.map MV.int).length : Int)) > 1 then (if (3 : Int) < ((ns.map MV.int).length : Int) then 3 else ((ns.map MV.int).length : Int)) else 1) = N
  have n1 : 1 ≤ N := by rw [← en]; split <;> (try split) <;> omega
  have n2 : N ≤ 3 := by rw [← en]; split <;> (try split) <;> omega
  obtain ⟨h2, e2, x2, z2, q2⟩ : ∃ h2, r = .ok (.ref (scr ns).sz) h2 ∧ Ext (scr ns) h2 ∧ (scr ns).sz < h2.sz ∧ mutAt h2 (scr ns).sz = some (((rngI 0 (N - 0).toNat).filter (fun _ => true)).map fun _ => .bl true) := by
    rw [← hr]
    refine e_lcR (lo := 0) (hi := N) (h1 := scr ns) ?_ (by show _ < 100000; omega) (by omega) fun t h' w1 w2 x' => ?_
    · have j1 : -4611686018427387904 ≤ N := by omega
      have j2 : N < 4611686018427387904 := by omega
      simp only [xok, xbad, xexc, xbind, xst, xstbad, xstexc, xstbind, xgiv, xgivN, xnoE, xnx, xrt, xbk, xct, xex, xbs, xonx, xort, xoex, xjoin, xn0, xn1, xs0, xs1, e_cst, e_var, e_gl, e_bin, e_neg, e_nt, e_and, e_or, e_cmp, e_cmp2, e_ife, e_tup, e_lst, e_ix, e_sl, e_call, e_callk, e_bi, e_isi, e_lrng1, e_lrng2, t_cst, t_var, t_call, t_callk, t_ix, t_bi, t_bin, t_isi, t_lc, t_nil, t_nt, t_and, t_or, t_cmp, t_cmp2, t_ife, p_nil, p_cst, p_int, p_var, p_bin, p_call, p_neg, p_ix, p_bi, l_nil0, l_cons, i_seq, i_rng1, i_rng2, g_nm, g_tup, gs_nil, gs_cons, g_ix, s_nil, s_cons, s_asg, s_ex, s_ret, s_ret0, s_pass, s_brk, s_cont, s_ite, s_never, o_add, o_sub, o_mul, o_mulR, o_fdiv, o_mod, o_pow, o_shl, o_shr, o_addL, o_neg, o_not, o_and, o_or, c_lt, c_le, c_gt, c_ge, c_eq, c_ne, c_eqs, c_nes, c_eqb, c_neb, c_is, c_isnt, n_non, n_int, n_tup, n_ref, n_str, u_bl, u_int, u_non, u_tup, k_ii, k_bi, k_tt, b_int, b_abs, b_lent, b_lenl, b_max, b_min, b_divmod, b_all, w_rng, w_tup, w_lst, xbok, xbrt, xbnx, xbbl, xbst, xbb, xbseq, xbout, xcf, xct1, xpow, x64, xdv, x62, xble, xsz, xnew, xat_lst, xat_seq, xat_rng, xnil, e_lcR, startE, List.map_cons, List.map_nil, List.length_cons, List.length_nil, List.replicate, List.append_nil, List.cons_append, List.nil_append, Nat.sub_self, Nat.zero_add, Nat.reduceAdd, Nat.reduceSub, Nat.reduceMul, Nat.reducePow, Nat.reduceLeDiff, cond_true, cond_false, Bool.true_and, Bool.and_true, Bool.false_and, Bool.and_false, Bool.true_or, Bool.or_true, Bool.false_or, Bool.or_false, Bool.not_true, Bool.not_false, Bool.and_self, Int.reduceSub, Int.reduceAdd, Int.reduceMul, Int.reduceNeg, Int.reducePow, Int.reduceLE, Int.reduceLT, Int.reduceToNat, Int.reduceEq, Int.neg_neg, Int.one_mul, decide_true, decide_false, b_lenl hs, en, w_rng, j1, j2]
    · have hs' := x'.lst (show 0 < (scr ns).sz from Nat.lt_succ_self 0) hs
      obtain ⟨q, h3, e3, q3, x3, g3⟩ := pail_i (d + 9) h' 0 ns t hs' (Nat.lt_of_lt_of_le (show 0 < (scr ns).sz from Nat.lt_succ_self 0) x'.le) w1
      replace e3 : callD Q (d + 10) _ _ _ = _ := e3
      obtain ⟨h4, e4, x4⟩ := right_i d h3 q g3
      refine ⟨_, by simp only [xok, xbad, xexc, xbind, xst, xstbad, xstexc, xstbind, xgiv, xgivN, xnoE, xnx, xrt, xbk, xct, xex, xbs, xonx, xort, xoex, xjoin, xn0, xn1, xs0, xs1, e_cst, e_var, e_gl, e_bin, e_neg, e_nt, e_and, e_or, e_cmp, e_cmp2, e_ife, e_tup, e_lst, e_ix, e_sl, e_call, e_callk, e_bi, e_isi, e_lrng1, e_lrng2, t_cst, t_var, t_call, t_callk, t_ix, t_bi, t_bin, t_isi, t_lc, t_nil, t_nt, t_and, t_or, t_cmp, t_cmp2, t_ife, p_nil, p_cst, p_int, p_var, p_bin, p_call, p_neg, p_ix, p_bi, l_nil0, l_cons, i_seq, i_rng1, i_rng2, g_nm, g_tup, gs_nil, gs_cons, g_ix, s_nil, s_cons, s_asg, s_ex, s_ret, s_ret0, s_pass, s_brk, s_cont, s_ite, s_never, o_add, o_sub, o_mul, o_mulR, o_fdiv, o_mod, o_pow, o_shl, o_shr, o_addL, o_neg, o_not, o_and, o_or, c_lt, c_le, c_gt, c_ge, c_eq, c_ne, c_eqs, c_nes, c_eqb, c_neb, c_is, c_isnt, n_non, n_int, n_tup, n_ref, n_str, u_bl, u_int, u_non, u_tup, k_ii, k_bi, k_tt, b_int, b_abs, b_lent, b_lenl, b_max, b_min, b_divmod, b_all, w_rng, w_tup, w_lst, xbok, xbrt, xbnx, xbbl, xbst, xbb, xbseq, xbout, xcf, xct1, xpow, x64, xdv, x62, xble, xsz, xnew, xat_lst, xat_seq, xat_rng, xnil, e_lcR, startE, List.map_cons, List.map_nil, List.length_cons, List.length_nil, List.replicate, List.append_nil, List.cons_append, List.nil_append, Nat.sub_self, Nat.zero_add, Nat.reduceAdd, Nat.reduceSub, Nat.reduceMul, Nat.reducePow, Nat.reduceLeDiff, cond_true, cond_false, Bool.true_and, Bool.and_true, Bool.false_and, Bool.and_false, Bool.true_or, Bool.or_true, Bool.false_or, Bool.or_false, Bool.not_true, Bool.not_false, Bool.and_self, Int.reduceSub, Int.reduceAdd, Int.reduceMul, Int.reduceNeg, Int.reducePow, Int.reduceLE, Int.reduceLT, Int.reduceToNat, Int.reduceEq, Int.neg_neg, Int.one_mul, decide_true, decide_false, wipeE], .refl, fun _ => ⟨h4, by simp only [xok, xbad, xexc, xbind, xst, xstbad, xstexc, xstbind, xgiv, xgivN, xnoE, xnx, xrt, xbk, xct, xex, xbs, xonx, xort, xoex, xjoin, xn0, xn1, xs0, xs1, e_cst, e_var, e_gl, e_bin, e_neg, e_nt, e_and, e_or, e_cmp, e_cmp2, e_ife, e_tup, e_lst, e_ix, e_sl, e_call, e_callk, e_bi, e_isi, e_lrng1, e_lrng2, t_cst, t_var, t_call, t_callk, t_ix, t_bi, t_bin, t_isi, t_lc, t_nil, t_nt, t_and, t_or, t_cmp, t_cmp2, t_ife, p_nil, p_cst, p_int, p_var, p_bin, p_call, p_neg, p_ix, p_bi, l_nil0, l_cons, i_seq, i_rng1, i_rng2, g_nm, g_tup, gs_nil, gs_cons, g_ix, s_nil, s_cons, s_asg, s_ex, s_ret, s_ret0, s_pass, s_brk, s_cont, s_ite, s_never, o_add, o_sub, o_mul, o_mulR, o_fdiv, o_mod, o_pow, o_shl, o_shr, o_addL, o_neg, o_not, o_and, o_or, c_lt, c_le, c_gt, c_ge, c_eq, c_ne, c_eqs, c_nes, c_eqb, c_neb, c_is, c_isnt, n_non, n_int, n_tup, n_ref, n_str, u_bl, u_int, u_non, u_tup, k_ii, k_bi, k_tt, b_int, b_abs, b_lent, b_lenl, b_max, b_min, b_divmod, b_all, w_rng, w_tup, w_lst, xbok, xbrt, xbnx, xbbl, xbst, xbb, xbseq, xbout, xcf, xct1, xpow, x64, xdv, x62, xble, xsz, xnew, xat_lst, xat_seq, xat_rng, xnil, e_lcR, startE, List.map_cons, List.map_nil, List.length_cons, List.length_nil, List.replicate, List.append_nil, List.cons_append, List.nil_append, Nat.sub_self, Nat.zero_add, Nat.reduceAdd, Nat.reduceSub, Nat.reduceMul, Nat.reducePow, Nat.reduceLeDiff, cond_true, cond_false, Bool.true_and, Bool.and_true, Bool.false_and, Bool.and_false, Bool.true_or, Bool.or_true, Bool.false_or, Bool.or_false, Bool.not_true, Bool.not_false, Bool.and_self, Int.reduceSub, Int.reduceAdd, Int.reduceMul, Int.reduceNeg, Int.reducePow, Int.reduceLE, Int.reduceLT, Int.reduceToNat, Int.reduceEq, Int.neg_neg, Int.one_mul, decide_true, decide_false, wipeE, e3, e4], ExtD.ext x3 x4 q3⟩⟩
  subst e2
  have q3 := mut_lst q2
  rw [rng_true] at q3
  simp only [xok, xbad, xexc, xbind, xst, xstbad, xstexc, xstbind, xgiv, xgivN, xnoE, xnx, xrt, xbk, xct, xex, xbs, xonx, xort, xoex, xjoin, xn0, xn1, xs0, xs1, e_cst, e_var, e_gl, e_bin, e_neg, e_nt, e_and, e_or, e_cmp, e_cmp2, e_ife, e_tup, e_lst, e_ix, e_sl, e_call, e_callk, e_bi, e_isi, e_lrng1, e_lrng2, t_cst, t_var, t_call, t_callk, t_ix, t_bi, t_bin, t_isi, t_lc, t_nil, t_nt, t_and, t_or, t_cmp, t_cmp2, t_ife, p_nil, p_cst, p_int, p_var, p_bin, p_call, p_neg, p_ix, p_bi, l_nil0, l_cons, i_seq, i_rng1, i_rng2, g_nm, g_tup, gs_nil, gs_cons, g_ix, s_nil, s_cons, s_asg, s_ex, s_ret, s_ret0, s_pass, s_brk, s_cont, s_ite, s_never, o_add, o_sub, o_mul, o_mulR, o_fdiv, o_mod, o_pow, o_shl, o_shr, o_addL, o_neg, o_not, o_and, o_or, c_lt, c_le, c_gt, c_ge, c_eq, c_ne, c_eqs, c_nes, c_eqb, c_neb, c_is, c_isnt, n_non, n_int, n_tup, n_ref, n_str, u_bl, u_int, u_non, u_tup, k_ii, k_bi, k_tt, b_int, b_abs, b_lent, b_lenl, b_max, b_min, b_divmod, b_all, w_rng, w_tup, w_lst, xbok, xbrt, xbnx, xbbl, xbst, xbb, xbseq, xbout, xcf, xct1, xpow, x64, xdv, x62, xble, xsz, xnew, xat_lst, xat_seq, xat_rng, xnil, e_lcR, startE, List.map_cons, List.map_nil, List.length_cons, List.length_nil, List.replicate, List.append_nil, List.cons_append, List.nil_append, Nat.sub_self, Nat.zero_add, Nat.reduceAdd, Nat.reduceSub, Nat.reduceMul, Nat.reducePow, Nat.reduceLeDiff, cond_true, cond_false, Bool.true_and, Bool.and_true, Bool.false_and, Bool.and_false, Bool.true_or, Bool.or_true, Bool.false_or, Bool.or_false, Bool.not_true, Bool.not_false, Bool.and_self, Int.reduceSub, Int.reduceAdd, Int.reduceMul, Int.reduceNeg, Int.reducePow, Int.reduceLE, Int.reduceLT, Int.reduceToNat, Int.reduceEq, Int.neg_neg, Int.one_mul, decide_true, decide_false, b_all q3 (allB_true _)]
  refine ⟨h2, ?_⟩
  congr 2
  simp
end Mp
namespace Mp
open PySem
def prg : Prg where
  es := [⟨0, "is_whole", ["value"], ["value"]⟩,
    ⟨2, "is_tuple_of", ["value", "many"], ["value", "many"]⟩,
    ⟨15, "window_of", ["kind", "bits"], ["kind", "bits", "fine", "size"]⟩,
    ⟨16, "fits", ["number", "limit"], ["number", "limit"]⟩,
    ⟨17, "is_parted_by", ["number", "halvings"], ["number", "halvings"]⟩,
    ⟨18, "holds", ["kind", "word", "point"], ["kind", "word", "point", "fine", "size"]⟩,
    ⟨19, "moved", ["word", "point", "other_point"], ["word", "point", "other_point"]⟩,
    ⟨231, "_law_deal", ["pail", "top"], ["pail", "top", "figure", "mixed"]⟩,
    ⟨232, "_law_any", ["pail", "some"], ["pail", "some"]⟩,
    ⟨280, "is_number", ["value", "low", "high"], ["value", "low", "high"]⟩,
    ⟨285, "is_bits", ["value"], ["value"]⟩,
    ⟨286, "is_place", ["value"], ["value"]⟩,
    ⟨287, "is_kind_form", ["value"], ["value"]⟩,
    ⟨304, "_law_pail", ["script", "turn"], ["script", "turn", "mixed", "cell", "own"]⟩,
    ⟨319, "is_far_point", ["value"], ["value"]⟩,
    ⟨320, "is_word_of", ["value", "bits"], ["value", "bits"]⟩,
    ⟨321, "check_kind", ["value"], ["value"]⟩,
    ⟨322, "check_word", ["value"], ["value"]⟩,
    ⟨323, "check_far_point", ["value"], ["value"]⟩,
    ⟨325, "window", ["kind", "bits"], ["kind", "bits", "low", "high"]⟩,
    ⟨326, "in_kind", ["kind", "word", "point"], ["kind", "word", "point"]⟩,
    ⟨327, "at_point", ["word", "point", "other_point"], ["word", "point", "other_point", "number"]⟩,
    ⟨345, "_law_held", ["word", "spot", "other", "bits"], ["word", "spot", "other", "bits", "new", "bound"]⟩,
    ⟨346, "_law_kind_right", ["sort", "bits"], ["sort", "bits", "left", "many", "had", "low", "high", "spot", "is_all", "word", "told", "odd", "even"]⟩,
    ⟨347, "_law_number_right", ["pail"], ["pail", "spot", "bits", "word", "held", "other"]⟩,
    ⟨348, "_law_right", ["pail"], ["pail", "turn", "size", "left", "sort", "bits", "k"]⟩,
    ⟨349, "law", ["script"], ["script", "turn"]⟩]
  cs := [(185, "LEAST_BITS"), (186, "MOST_BITS"), (12, "MOST_FINE"), (202, "MOST_POINT")]
  bs := ["abs", "all", "bool", "divmod", "int", "isinstance", "len", "list", "max", "min", "range", "tuple"]
  pg := Q
def nLaw : Nat := 349
def eLaw : Ent := ⟨349, "law", ["script"], ["script", "turn"]⟩
end Mp
open PySem PySem.W PyProof.Rows in
set_option maxHeartbeats 0 in
theorem PySem.Challenge.cw_fewshifts_k03_whole_all_numbers_of_a_kin_holds : PySem.Challenge.rw_fewshifts_k03_whole_all_numbers_of_a_kin.Holds := by
  w_on; o_law; k_head; (case hw => w_witness2)
  k_fill
  refine Mp.mp_walk (l := PySem.Challenge.rw_fewshifts_k03_whole_all_numbers_of_a_kin) (n := 63) (x := "script") Mp.prg Mp.nLaw 40 Mp.eLaw rfl (by decide) rfl ⟨rfl, by decide, by decide⟩ rfl rfl rfl (fun w h Y => PySem.W.kIn_of Y) ?ok ?law
  case ok =>
    intro w
    exact Eq.refl true
  case law => exact fun ns hl hb => Mp.law_i 29 ns hl
#print axioms PySem.Challenge.cw_fewshifts_k03_whole_all_numbers_of_a_kin_holds
