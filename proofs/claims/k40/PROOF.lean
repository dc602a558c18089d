import PyProof.Rows.All
import Wide.All
import OpenK.AllK
import Wide.FinOn
import HandS.ForMost
import HandS.Wide
import HandS.WideBits
import HandS.TupAny
import HandS.TupLe
import HandS.TupMul
import HandS.TupSets
import HandS.Deep
import HandS.Flow
import HandS.IsInst
import HandS.Zip
import HandS.Words
import HandS.ForExc
import HandS.WordsExc
import HandS.Defaults
import HandS.ExcOwn
import HandS.SetFor
import HandS.Conv
import KE.KDictKeyed
import KE.KeyNested
import KE.KDictWalk
import HandS.SortInts
import HandS.SortKw
import KE.KSortTup
import HandS.ReCall
import HandS.Strs
import KE.KStateDown
import HandS.Ends
import HandS.Head0
import HandS.Head1
import HandS.Head2
import HandS.HeadEnd
import HandS.HeadHook1
import HandS.HeadHook2
import HandS.ExcIs
import KE.GoesMore
import HandS.Style
import KE.KDictSum
import KE.KDictCopyH
import KE.KRevSl
import HandS.Walk
import PyProof.ListRange
import PyProof.LongRange
import PySem.Challenge.RW_doffyard_k40_whole_calls_grown_and_moved
set_option Elab.async false
set_option linter.all false
set_option maxRecDepth 100000
noncomputable section
namespace Z
open PySem L2

/-- a value: tuples by value, objects that change by their number -/
inductive D where
  | non | bl (b : Bool) | int (i : Int) | str (x : Str) | tup (xs : List D) | lst (xs : List D) | ref (n : Nat) | exc (n : Nat) | emp
/-- an object that changes -/
inductive O where
  | lst (xs : List D) | ins (c : Nat) (fs : List (Str × D)) | dct (kvs : List (List Int × D)) | dck (kvs : List (Key × D))

abbrev Sl := List (Option D)
abbrev Hh := List O
structure Exn where
  c : Nat

inductive R (α : Type) where
  | ok (a : α) (A : Hh)
  | ex (x : Exn) (A : Hh)
abbrev M (α : Type) := Hh → Option (R α)
abbrev Ev (α : Type) := Sl → Hh → Option (R α)

/-- then: the state goes along, an exception ends it -/
def R.andThen {α β : Type} : Option (R α) → (α → Hh → Option (R β)) → Option (R β)
  | some (.ok a A), f => f a A
  | some (.ex x A), _ => some (.ex x A)
  | none, _ => none
def ok {α : Type} (a : α) : M α := fun A => some (.ok a A)
def mb {α β : Type} (m : M α) (f : α → M β) : M β := fun A => R.andThen (m A) f
def mo {α : Type} : Option α → M α
  | some a => ok a
  | none => fun _ => none

inductive RS where
  | nx (σ : Sl) (A : Hh)
  | bk (σ : Sl) (A : Hh)
  | ct (σ : Sl) (A : Hh)
  | rt (d : D) (A : Hh)
  | ex (x : Exn) (σ : Sl) (A : Hh)
abbrev Sv := Sl → Hh → Option RS
abbrev Gv := D → Sl → Hh → Option (R Sl)
abbrev Gsv := List D → Sl → Hh → Option (R Sl)

def SZ : Nat := 16000000
set_option exponentiation.threshold 4000 in
def BIGB : Nat := 2 ^ 3900
/-- kept shut: what it is tells small_def alone -/
theorem small_is : ∃ f : Int → Bool, ∀ i, f i = decide (i.natAbs < BIGB) := ⟨_, fun _ => rfl⟩
noncomputable def small : Int → Bool := Classical.choose small_is
theorem small_def (i : Int) : small i = decide (i.natAbs < BIGB) := Classical.choose_spec small_is i

mutual
def D.deq : D → D → Bool
  | .non, .non => true
  | .bl a, .bl b => a == b
  | .int a, .int b => decide (a = b)
  | .str a, .str b => decide (a = b)
  | .tup xs, .tup ys => D.deqs xs ys
  | .lst xs, .lst ys => D.deqs xs ys
  | .ref a, .ref b => decide (a = b)
  | .exc a, .exc b => decide (a = b)
  | .emp, .emp => true
  | _, _ => false
def D.deqs : List D → List D → Bool
  | [], [] => true
  | x :: xs, y :: ys => D.deq x y && D.deqs xs ys
  | _, _ => false
end
mutual
theorem D.deq_iff : ∀ (x y : D), D.deq x y = true ↔ x = y
  | .non, y => by cases y <;> simp [D.deq]
  | .bl a, y => by cases y <;> simp [D.deq]
  | .int a, y => by cases y <;> simp [D.deq]
  | .str a, y => by cases y <;> simp [D.deq]
  | .tup xs, y => by cases y <;> simp [D.deq, D.deqs_iff]
  | .lst xs, y => by cases y <;> simp [D.deq, D.deqs_iff]
  | .ref a, y => by cases y <;> simp [D.deq]
  | .exc a, y => by cases y <;> simp [D.deq]
  | .emp, y => by cases y <;> simp [D.deq]
theorem D.deqs_iff : ∀ (xs ys : List D), D.deqs xs ys = true ↔ xs = ys
  | [], ys => by cases ys <;> simp [D.deqs]
  | x :: xs, ys => by cases ys <;> simp [D.deqs, D.deq_iff, D.deqs_iff]
end
instance : DecidableEq D := fun x y => decidable_of_iff _ (D.deq_iff x y)

mutual
/-- all that it names stands below n -/
def D.lo (n : Nat) : D → Bool
  | .tup xs => D.los n xs
  | .lst xs => D.los n xs
  | .ref m => decide (m < n)
  | _ => true
def D.los (n : Nat) : List D → Bool
  | [] => true
  | x :: xs => D.lo n x && D.los n xs
end
instance : DecidableEq O := fun a b => match a, b with
  | .lst xs, .lst ys => if h : xs = ys then isTrue (by rw [h]) else isFalse fun e => h (by injection e)
  | .ins c fs, .ins d gs => if h : c = d ∧ fs = gs then isTrue (by rw [h.1, h.2]) else isFalse fun e => h (by injection e with e1 e2; exact ⟨e1, e2⟩)
  | .dct xs, .dct ys => if h : xs = ys then isTrue (by rw [h]) else isFalse fun e => h (by injection e)
  | .dck xs, .dck ys => if h : xs = ys then isTrue (by rw [h]) else isFalse fun e => h (by injection e)
  | .lst _, .ins _ _ => isFalse fun e => nomatch e
  | .ins _ _, .lst _ => isFalse fun e => nomatch e
  | .lst _, .dct _ => isFalse fun e => nomatch e
  | .dct _, .lst _ => isFalse fun e => nomatch e
  | .lst _, .dck _ => isFalse fun e => nomatch e
  | .dck _, .lst _ => isFalse fun e => nomatch e
  | .ins _ _, .dct _ => isFalse fun e => nomatch e
  | .dct _, .ins _ _ => isFalse fun e => nomatch e
  | .ins _ _, .dck _ => isFalse fun e => nomatch e
  | .dck _, .ins _ _ => isFalse fun e => nomatch e
  | .dct _, .dck _ => isFalse fun e => nomatch e
  | .dck _, .dct _ => isFalse fun e => nomatch e
def O.lo (n : Nat) : O → Bool
  | .lst xs => D.los n xs
  | .ins _ fs => D.los n (fs.map (·.2))
  | .dct kvs => D.los n (kvs.map fun p => .tup (p.1.map .int)) && D.los n (kvs.map (·.2))
  | .dck kvs => D.los n (kvs.map (·.2))

mutual
def D.py : D → Option PyData
  | .non => some .none
  | .bl b => some (.bool b)
  | .int i => some (.int i)
  | .str x => some (.str x)
  | .tup xs => (D.pys xs).map .tuple
  | .lst xs => (D.pys xs).map .list
  | .ref _ => none
  | .exc _ => none
  | .emp => none
def D.pys : List D → Option (List PyData)
  | [] => some []
  | x :: xs => match D.py x, D.pys xs with
    | some p, some ps => some (p :: ps)
    | _, _ => none
end
/-- data, a list that changes seen as it is -/
def pyA (A : Hh) : D → Option PyData
  | .ref n => match A[n]? with
    | some (.lst xs) => (D.pys xs).map .list
    | _ => none
  | d => d.py
def eqP (x y : Option PyData) : Option Bool := match x, y with
  | some p, some q => if SeqAt.shaped p && SeqAt.shaped q then some (PyData.eqv p q) else none
  | _, _ => none
def eqD (A : Hh) (x y : D) : Option Bool := match x, y with
  | .int i, .int j => some (decide (i = j))
  | .str a, .str b => some (decide (a = b))
  | .bl a, .bl b => some (decide (a = b))
  | x, y => eqP (pyA A x) (pyA A y)

/-- ints of a row -/
def intsOf : List D → Option (List Int)
  | [] => some []
  | .int i :: xs => (intsOf xs).map (i :: ·)
  | _ => none
/-- the order of tuples of ints -/
def ltI (x y : D) : Option Bool := match x, y with
  | .int i, .int j => some (decide (i < j))
  | .tup xs, .tup ys => match intsOf xs, intsOf ys with
    | some ns, some ms => some (HT.lexLt ns ms)
    | _, _ => none
  | _, _ => none
/-- what a list or a tuple has, and the lists that must stay while it is walked -/
abbrev Wt := List (Nat × List D)
def seqD (A : Hh) : D → Option (List D × Wt)
  | .tup xs => some (xs, [])
  | .lst xs => some (xs, [])
  | .ref n => match A[n]? with
    | some (.lst xs) => some (xs, [(n, xs)])
    | _ => none
  | _ => none
def wOk (w : Wt) (A : Hh) : Bool := w.all fun p => match A[p.1]? with
  | some (.lst xs) => D.deqs xs p.2
  | _ => false

inductive Bop where | add | sub | mul | fdiv | mod | pow
  deriving DecidableEq
def bopD : Bop → D → D → M D
  | .add, .int i, .int j => ok (.int (i + j))
  | .sub, .int i, .int j => ok (.int (i - j))
  | .mul, .int i, .int j => fun A => if small i && small j then some (.ok (.int (i * j)) A) else none
  | .fdiv, .int i, .int j => fun A => if decide (0 < j) && small j then some (.ok (.int (i / j)) A) else none
  | .mod, .int i, .int j => fun A => if decide (0 < j) then some (.ok (.int (i % j)) A) else none
  | .pow, .int i, .int j => fun A => if decide (0 ≤ j) && decide (j ≤ 1000000) && decide (i.natAbs < 2 ^ 64) then some (.ok (.int (i ^ j.toNat)) A) else none
  | .mul, .tup xs, .int k => fun A => if k = 1 then some (.ok (.tup xs) A) else if 2 ≤ k ∧ k ≤ 1000 ∧ xs.length ≤ 1000 ∧ xs ≠ [] then some (.ok (.tup (List.replicate k.toNat xs).flatten) A) else none
  | .add, .tup xs, .tup ys => fun A => if xs.length + ys.length ≤ SZ then some (.ok (.tup (xs ++ ys)) A) else none
  | _, _, _ => fun _ => none
inductive Cop where | lt | le | gt | ge | eq | ne | isN | notN | in_ | notIn | isB | notB | eqE
  deriving DecidableEq
def leI (x y : D) : Option Bool := match x, y with
  | .int i, .int j => some (decide (i ≤ j))
  | .tup xs, .tup ys => match intsOf xs, intsOf ys with
    | some ns, some ms => some (!HT.lexLt ms ns)
    | _, _ => none
  | _, _ => none
def inA (A : Hh) (x y : D) : Option Bool := match y with
  | .tup ys => match D.py x, D.pys ys with
    | some p, some ps => if SeqAt.shaped p && SeqAt.shaped (.tuple ps) then some (ps.any fun z => PyData.eqv z p) else none
    | _, _ => none
  | y => match pyA A y, D.py x with
    | some (.list ps), some p => if SeqAt.shaped p && SeqAt.shaped (.list ps) then some (ps.any fun z => PyData.eqv z p) else none
    | _, _ => none
def copD : Cop → D → D → Hh → Option Bool
  | .lt, x, y, _ => ltI x y
  | .gt, x, y, _ => match x, y with
    | .int i, .int j => some (decide (j < i))
    | _, _ => none
  | .le, x, y, _ => leI x y
  | .ge, x, y, _ => match x, y with
    | .int i, .int j => some (decide (j ≤ i))
    | _, _ => none
  | .eq, x, y, A => eqD A x y
  | .ne, x, y, A => (eqD A x y).map (!·)
  | .isN, x, .non, _ => some (D.deq x .non)
  | .notN, x, .non, _ => some (!D.deq x .non)
  | .isN, _, _, _ => none
  | .notN, _, _, _ => none
  | .in_, x, y, A => inA A x y
  | .notIn, x, y, A => (inA A x y).map (!·)
  | .isB, .bl a, .bl b, _ => some (decide (a = b))
  | .notB, .bl a, .bl b, _ => some (!decide (a = b))
  | .eqE, .tup xs, .tup [], _ => some xs.isEmpty
  | .isB, _, _, _ => none
  | .notB, _, _, _ => none
  | .eqE, _, _, _ => none

def truD (A : Hh) : D → Option Bool
  | .non => some false
  | .bl b => some b
  | .int i => some (decide (i ≠ 0))
  | .str x => if x.length ≤ SZ then some (decide (x.length ≠ 0)) else none
  | .tup xs => some (!xs.isEmpty)
  | .lst xs => some (!xs.isEmpty)
  | .ref n => match A[n]? with
    | some (.lst xs) => some (!xs.isEmpty)
    | _ => none
  | .exc _ => none
  | .emp => none

def zvar (i : Nat) : Ev D := fun σ A => match σ[i]? with
  | some (some d) => some (.ok d A)
  | _ => none
def zc (d : D) : Ev D := fun _ A => some (.ok d A)
def zbin (op : Bop) (a b : Ev D) : Ev D := fun σ => mb (a σ) fun x => mb (b σ) fun y => bopD op x y
def zneg (a : Ev D) : Ev D := fun σ => mb (a σ) fun x => match x with
  | .int i => ok (.int (-i))
  | _ => fun _ => none
def copM (op : Cop) (x y : D) : M Bool := fun A => (copD op x y A).map fun b => .ok b A
def zcmp (op : Cop) (a b : Ev D) : Ev Bool := fun σ => mb (a σ) fun x => mb (b σ) fun y => copM op x y
def zchn (o p : Cop) (a b c : Ev D) : Ev Bool := fun σ => mb (a σ) fun x => mb (b σ) fun y => mb (copM o x y) fun k => if k = true then mb (c σ) fun z => copM p y z else ok false
def zbl (t : Ev Bool) : Ev D := fun σ => mb (t σ) fun b => ok (.bl b)
def ztru (a : Ev D) : Ev Bool := fun σ => mb (a σ) fun x => fun A => (truD A x).map fun b => .ok b A
def zand (a b : Ev Bool) : Ev Bool := fun σ => mb (a σ) fun k => if k = true then b σ else ok false
def zor (a b : Ev Bool) : Ev Bool := fun σ => mb (a σ) fun k => if k = true then ok true else b σ
def znot (a : Ev Bool) : Ev Bool := fun σ => mb (a σ) fun k => ok (!k)
/-- and, or as values -/
def zandv (a b : Ev D) : Ev D := fun σ => mb (a σ) fun x => fun A => match truD A x with
  | some true => b σ A
  | some false => some (.ok x A)
  | none => none
def zorv (a b : Ev D) : Ev D := fun σ => mb (a σ) fun x => fun A => match truD A x with
  | some true => some (.ok x A)
  | some false => b σ A
  | none => none
def zite (c : Ev Bool) (a b : Ev D) : Ev D := fun σ => mb (c σ) fun k => if k = true then a σ else b σ
def znil : Ev (List D) := fun _ => ok []
def zcons (e : Ev D) (es : Ev (List D)) : Ev (List D) := fun σ => mb (e σ) fun x => mb (es σ) fun xs => ok (x :: xs)
def ztup (es : Ev (List D)) : Ev D := fun σ => mb (es σ) fun xs A => if xs.length ≤ SZ then some (.ok (.tup xs) A) else none
def alloc (o : O) : M D := fun A => some (.ok (.ref A.length) (A ++ [o]))
/-- a list that stays as it is -/
def zfz (q : Ev (List D)) : Ev D := fun σ => mb (q σ) fun xs => ok (.lst xs)
/-- a new list, an object from now on -/
def znew (q : Ev (List D)) : Ev D := fun σ => mb (q σ) fun xs => alloc (.lst xs)

def ixD (A : Hh) (x y : D) : Option D := match y with
  | .int i => match seqD A x with
    | some (xs, _) => atI xs i
    | none => none
  | _ => none
def zix (a b : Ev D) : Ev D := fun σ => mb (a σ) fun x => mb (b σ) fun y A => (ixD A x y).map fun d => .ok d A
def cutD (xs : List D) (lo hi : Option Int) : List D := (xs.drop (HT.sIx xs.length 0 lo)).take (HT.sIx xs.length xs.length hi - HT.sIx xs.length 0 lo)
def znone : Ev (Option Int) := fun _ => ok none
def zsome (a : Ev D) : Ev (Option Int) := fun σ => mb (a σ) fun x => match x with
  | .int i => ok (some i)
  | _ => fun _ => none
/-- a slice of a tuple -/
def zslT (a : Ev D) (lo hi : Ev (Option Int)) : Ev D := fun σ => mb (a σ) fun x => mb (lo σ) fun l => mb (hi σ) fun h => match x with
  | .tup xs => ok (.tup (cutD xs l h))
  | _ => fun _ => none
/-- a slice of a list -/
def zslL (a : Ev D) (lo hi : Ev (Option Int)) : Ev (List D) := fun σ => mb (a σ) fun x => mb (lo σ) fun l => mb (hi σ) fun h A => match x with
  | .tup _ => none
  | x => match seqD A x with
    | some (xs, _) => some (.ok (cutD xs l h) A)
    | none => none

/-- what a list or tuple has, for a moment -/
def zof (a : Ev D) : Ev (List D × Wt) := fun σ => mb (a σ) fun x A => (seqD A x).map fun p => .ok p A
def lstD (A : Hh) : D → Option (List D)
  | .lst xs => some xs
  | .ref n => match A[n]? with
    | some (.lst xs) => some xs
    | _ => none
  | _ => none
/-- what a list has -/
def zofL (a : Ev D) : Ev (List D) := fun σ => mb (a σ) fun x A => (lstD A x).map fun p => .ok p A
def zst (q : Ev (List D)) : Ev (List D × Wt) := fun σ => mb (q σ) fun xs => ok (xs, [])
def zrow (q : Ev (List D × Wt)) : Ev (List D) := fun σ => mb (q σ) fun p => ok p.1
def lstM (xs : List D) : M (List D) := fun A => if xs.length ≤ SZ then some (.ok xs A) else none
def zlst (es : Ev (List D)) : Ev (List D) := fun σ => mb (es σ) lstM
def zcat (a b : Ev (List D)) : Ev (List D) := fun σ => mb (a σ) fun xs => mb (b σ) fun ys => lstM (xs ++ ys)
def zrep (a : Ev (List D)) (n : Ev D) : Ev (List D) := fun σ => mb (a σ) fun xs => mb (n σ) fun k => match k with
  | .int k => fun A => if decide (-(2 ^ 62) ≤ k) && decide (k ≤ 2 ^ 62) && decide (xs.length * k.toNat ≤ SZ) then some (.ok (List.replicate k.toNat xs).flatten A) else none
  | _ => fun _ => none
def rngI (i j : Int) : List D := (List.range (j - i).toNat).map fun (k : Nat) => D.int (i + (k : Int))
def rngM (x y : D) : M (List D) := match x, y with
  | .int i, .int j => fun A => if decide (-(2 ^ 60) ≤ i) && decide (i ≤ 2 ^ 60) && decide (-(2 ^ 60) ≤ j) && decide (j ≤ 2 ^ 60) then some (.ok (rngI i j) A) else none
  | _, _ => fun _ => none
def zrng (a b : Ev D) : Ev (List D) := fun σ => mb (a σ) fun x => mb (b σ) fun y => rngM x y
def wtD : D → List D → Wt
  | .ref n, xs => [(n, xs)]
  | _, _ => []
def zipD (xs ys : List D) : List D := (xs.zip ys).map fun z => D.tup [z.1, z.2]
/-- two tuples or two lists, side by side -/
def zzip (a b : Ev D) : Ev (List D × Wt) := fun σ => mb (a σ) fun x => mb (b σ) fun y => match x, y with
  | .tup xs, .tup ys => ok (zipD xs ys, [])
  | x, y => fun A => match lstD A x, lstD A y with
    | some xs, some ys => some (.ok (zipD xs ys, wtD x xs ++ wtD y ys) A)
    | _, _ => none
def enumD (xs : List D) : List D := xs.zipIdx.map fun z => D.tup [.int (z.2 : Nat), z.1]
def zenum (a : Ev (List D × Wt)) : Ev (List D × Wt) := fun σ => mb (a σ) fun p => ok (enumD p.1, p.2)
def tupsOf : List D → Option (List (List Int))
  | [] => some []
  | .tup ys :: xs => match intsOf ys, tupsOf xs with
    | some n, some ns => some (n :: ns)
    | _, _ => none
  | _ => none
def leL (a b : List Int) : Bool := !HT.lexLt b a
def leZ (a b : Int) : Bool := decide (a ≤ b)
def tupD (t : List Int) : D := .tup (t.map .int)
def strsOf : List D → Option (List Str)
  | [] => some []
  | .str x :: xs => (strsOf xs).map (x :: ·)
  | _ => none
def leS (a b : Str) : Bool := !decide (b.cps.toList < a.cps.toList)
def sortD (xs : List D) : Option (List D) := match intsOf xs with
  | some ns => some ((ns.mergeSort leZ).map .int)
  | none => match tupsOf xs with
    | some ts => if ts.all (fun t => !t.isEmpty) then some ((ts.mergeSort leL).map tupD) else none
    | none => match strsOf xs with
      | some ss => some ((ss.mergeSort leS).map .str)
      | none => none
/-- sorted(.., reverse=True) of texts -/
def sortRD (xs : List D) : Option (List D) := match strsOf xs with
  | some ss => some ((ss.reverse.mergeSort leS).reverse.map .str)
  | none => none
def zsort (q : Ev (List D)) : Ev (List D) := fun σ => mb (q σ) fun xs => mo (sortD xs)
def zsortR (q : Ev (List D)) : Ev (List D) := fun σ => mb (q σ) fun xs => mo (sortRD xs)
/-- each once -/
def dd : List Int → List Int
  | [] => []
  | n :: ns => if n ∈ ns then dd ns else n :: dd ns
theorem mem_dd {k : Int} : ∀ ns : List Int, k ∈ dd ns ↔ k ∈ ns
  | [] => Iff.rfl
  | n :: ns => by
    unfold dd
    split
    · rename_i h
      rw [mem_dd ns, List.mem_cons]
      exact ⟨.inr, fun h2 => h2.elim (fun e => e ▸ h) id⟩
    · rw [List.mem_cons, List.mem_cons, mem_dd ns]
theorem nodup_dd : ∀ ns : List Int, (dd ns).Nodup
  | [] => .nil
  | n :: ns => by
    unfold dd
    split
    · exact nodup_dd ns
    · rename_i h
      exact List.nodup_cons.mpr ⟨fun m => h ((mem_dd ns).mp m), nodup_dd ns⟩
/-- sorted(set(..)) of ints -/
def zsortset (q : Ev (List D)) : Ev (List D) := fun σ => mb (q σ) fun xs A => match intsOf xs with
  | some ns => if ns.length < 64 then some (.ok (((dd ns).mergeSort leZ).map .int) A) else none
  | none => none
def ztupq (q : Ev (List D × Wt)) : Ev D := fun σ => mb (q σ) fun p => ok (.tup p.1)
def blsOf : List D → Option (List Bool)
  | [] => some []
  | .bl b :: xs => (blsOf xs).map (b :: ·)
  | _ => none
def zallq (q : Ev (List D)) : Ev D := fun σ => mb (q σ) fun xs => mo ((blsOf xs).map fun bs => .bl (bs.all id))
def zanyq (q : Ev (List D)) : Ev D := fun σ => mb (q σ) fun xs => mo ((blsOf xs).map fun bs => .bl (bs.any id))
def zsumq (q : Ev (List D)) : Ev D := fun σ => mb (q σ) fun xs => mo ((intsOf xs).map fun ns => .int ns.sum)
def minI : List Int → Option Int
  | [] => none
  | n :: ns => some (ns.foldl min n)
def maxI : List Int → Option Int
  | [] => none
  | n :: ns => some (ns.foldl max n)
def zminq (q : Ev (List D)) : Ev D := fun σ => mb (q σ) fun xs => mo (((intsOf xs).bind minI).map .int)
def zmaxq (q : Ev (List D)) : Ev D := fun σ => mb (q σ) fun xs => mo (((intsOf xs).bind maxI).map .int)
def zlenq (q : Ev (List D × Wt)) : Ev D := fun σ => mb (q σ) fun p => ok (.int p.1.length)

inductive B where | len | isInt | isBool | isTuple | isStr | isList | abs | divmod | max2 | min2 | int
  deriving DecidableEq
def biD : B → List D → Hh → Option D
  | .len, [.str x], _ => if x.length ≤ SZ then some (.int x.length) else none
  | .len, [x], A => (seqD A x).map fun p => .int p.1.length
  | .isInt, [.int _], _ => some (.bl true)
  | .isInt, [.bl _], _ => some (.bl true)
  | .isInt, [.ref _], _ => none
  | .isInt, [_], _ => some (.bl false)
  | .isBool, [.bl _], _ => some (.bl true)
  | .isBool, [.ref _], _ => none
  | .isBool, [_], _ => some (.bl false)
  | .isTuple, [.tup _], _ => some (.bl true)
  | .isTuple, [.ref n], A => match A[n]? with
    | some (.lst _) => some (.bl false)
    | _ => none
  | .isTuple, [_], _ => some (.bl false)
  | .isStr, [.str _], _ => some (.bl true)
  | .isStr, [.ref _], _ => none
  | .isStr, [_], _ => some (.bl false)
  | .isList, _, _ => none
  | .abs, [.int i], _ => some (.int (if i < 0 then -i else i))
  | .divmod, [.int i, .int j], _ => if decide (0 < j) && small i then some (.tup [.int (i / j), .int (i % j)]) else none
  | .max2, [.int i, .int j], _ => some (.int (if j > i then j else i))
  | .min2, [.int i, .int j], _ => some (.int (if j < i then j else i))
  | .int, [.int i], _ => some (.int i)
  | .int, [.bl b], _ => some (.int (if b then 1 else 0))
  | _, _, _ => none
def zbi (b : B) (es : Ev (List D)) : Ev D := fun σ => mb (es σ) fun xs A => (biD b xs A).map fun d => .ok d A

inductive Bm where | append | remove | pop | count
  deriving DecidableEq
def bmD : Bm → D → List D → Hh → Option (R D)
  | .append, .ref n, [y], A => match A[n]? with
    | some (.lst xs) => if xs.length < SZ then some (.ok .non (A.set n (.lst (xs ++ [y])))) else none
    | _ => none
  | .remove, .ref n, [.int k], A => match A[n]? with
    | some (.lst xs) => match intsOf xs with
      | some ns => match ns.findIdx? (fun m => decide (m = k)) with
        | some j => some (.ok .non (A.set n (.lst (xs.eraseIdx j))))
        | none => none
      | none => none
    | _ => none
  | .pop, .ref n, [], A => match A[n]? with
    | some (.lst xs) => match xs[xs.length - 1]? with
      | some y => some (.ok y (A.set n (.lst xs.dropLast)))
      | none => none
    | _ => none
  | .count, .tup xs, [.int k], A => match intsOf xs with
    | some ns => some (.ok (.int (ns.count k : Nat)) A)
    | none => none
  | _, _, _, _ => none
def zbm (m : Bm) (o : Ev D) (es : Ev (List D)) : Ev D := fun σ => mb (o σ) fun x => mb (es σ) fun xs => bmD m x xs

def wipeD (σ : Sl) : List Nat → Sl
  | [] => σ
  | v :: vs => (wipeD σ vs).set v none
def ztt : Ev Bool := fun _ => ok true
def compL (σ : Sl) (w : Wt) (g : Gv) (c : Ev Bool) (e : Ev D) : List D → List D → Hh → Option (R (List D))
  | [], acc, A => if wOk w A then some (.ok acc A) else none
  | x :: xs, acc, A => if wOk w A then
      match g x σ A with
      | some (.ok σ2 A2) => match c σ2 A2 with
        | some (.ok true A3) => match e σ2 A3 with
          | some (.ok y A4) => if acc.length < SZ then compL σ w g c e xs (acc ++ [y]) A4 else none
          | _ => none
        | some (.ok false A3) => compL σ w g c e xs acc A3
        | _ => none
      | _ => none
    else none
def zcomp (vs : List Nat) (g : Gv) (it : Ev (List D × Wt)) (c : Ev Bool) (e : Ev D) : Ev (List D) := fun σ => mb (it σ) fun p => compL (wipeD σ vs) p.2 g c e p.1 []

def gnm (i : Nat) : Gv := fun d σ A => some (.ok (σ.set i (some d)) A)
def gnil : Gsv := fun ds σ A => match ds with
  | [] => some (.ok σ A)
  | _ => none
def gcons (g : Gv) (gs : Gsv) : Gsv := fun ds σ A => match ds with
  | d :: r => R.andThen (g d σ A) fun σ' A' => gs r σ' A'
  | [] => none
def gtup (n : Nat) (gs : Gsv) : Gv := fun d σ A => match d with
  | .tup xs => if xs.length = n then gs xs σ A else none
  | _ => none
def setD (A : Hh) (o i v : D) : Option Hh := match o, i with
  | .ref n, .int k => match A[n]? with
    | some (.lst xs) => match ixN xs.length k with
      | some j => some (A.set n (.lst (xs.set j v)))
      | none => none
    | _ => none
  | _, _ => none
def gsub (o i : Ev D) : Gv := fun d σ => mb (o σ) fun x => mb (i σ) fun y A => (setD A x y d).map fun A' => .ok σ A'

def RS.andThen : Option RS → Sv → Option RS
  | some (.nx σ A), t => t σ A
  | r, _ => r
def RS.of {α : Type} (σ : Sl) : Option (R α) → (α → Hh → Option RS) → Option RS
  | some (.ok a A), f => f a A
  | some (.ex x A), _ => some (.ex x σ A)
  | none, _ => none
def snil : Sv := fun σ A => some (.nx σ A)
def sseq (s t : Sv) : Sv := fun σ A => RS.andThen (s σ A) t
def sexp (e : Ev D) : Sv := fun σ A => RS.of σ (e σ A) fun _ A' => some (.nx σ A')
def sasg (g : Gv) (e : Ev D) : Sv := fun σ A => RS.of σ (e σ A) fun d A1 => match g d σ A1 with
  | some (.ok σ' A2) => some (.nx σ' A2)
  | _ => none
def spar (i j : Nat) (es : Ev (List D)) : Sv := fun σ A => RS.of σ (es σ A) fun ds A1 => match ds with
  | [d, e] => some (.nx ((σ.set i (some d)).set j (some e)) A1)
  | _ => none
def sret (e : Ev D) : Sv := fun σ A => RS.of σ (e σ A) fun d A1 => some (.rt d A1)
def sif (c : Ev Bool) (a b : Sv) : Sv := fun σ A => RS.of σ (c σ A) fun k A1 => if k = true then a σ A1 else b σ A1
def spass : Sv := fun σ A => some (.nx σ A)
def sbrk : Sv := fun σ A => some (.bk σ A)
def scnt : Sv := fun σ A => some (.ct σ A)
def sbad : Sv := fun _ _ => none
def forL (w : Wt) (g : Gv) (b : Sv) : List D → Sl → Hh → Option RS
  | [], σ, A => if wOk w A then some (.nx σ A) else none
  | x :: xs, σ, A => if wOk w A then match g x σ A with
      | some (.ok σ2 A2) => match b σ2 A2 with
        | some (.nx σ3 A3) => forL w g b xs σ3 A3
        | some (.ct σ3 A3) => forL w g b xs σ3 A3
        | some (.bk σ3 A3) => some (.nx σ3 A3)
        | r => r
      | _ => none
    else none
def sfor (g : Gv) (it : Ev (List D × Wt)) (b : Sv) : Sv := fun σ A => RS.of σ (it σ A) fun p A1 => forL p.2 g b p.1 σ A1
/-- a loop, some turns of it -/
def whileN (c : Ev Bool) (b : Sv) : Nat → Sv
  | 0, _, _ => none
  | n + 1, σ, A => RS.of σ (c σ A) fun k A1 => if k = true then
      match b σ A1 with
      | some (.nx σ2 A2) => whileN c b n σ2 A2
      | some (.ct σ2 A2) => whileN c b n σ2 A2
      | some (.bk σ2 A2) => some (.nx σ2 A2)
      | r => r
    else some (.nx σ A1)
open Classical in
noncomputable def swhile (c : Ev Bool) (b : Sv) : Sv := fun σ A => if h : ∃ n, (whileN c b n σ A).isSome = true then whileN c b h.choose σ A else none

structure Orc where
  call : Nat → List D → M D
structure Fn where
  np : Nat
  n : Nat
  body : Orc → Sv
def zcall (o : Orc) (f : Nat) (es : Ev (List D)) : Ev D := fun σ => mb (es σ) fun xs => o.call f xs
def startD (n : Nat) (ds : List D) : Sl := ds.map some ++ List.replicate (n - ds.length) none
/-- what was made in a call and is named by nothing is dropped -/
def gcOk (A A' : Hh) (d : D) : Bool := D.lo A.length d && decide (A.length ≤ A'.length) &&
  (List.range A.length).all fun i => match A[i]?, A'[i]? with
    | some o, some o' => decide (o = o') || O.lo A.length o'
    | _, _ => false
def gc (A A' : Hh) (d : D) : Hh := if gcOk A A' d then A'.take A.length else A'
def endD (A : Hh) : Option RS → Option (R D)
  | some (.nx _ A') => some (.ok .non (gc A A' .non))
  | some (.rt d A') => some (.ok d (gc A A' d))
  | some (.ex x _ A') => some (.ex x (gc A A' .non))
  | _ => none
def callN (P : List Fn) : Nat → Nat → List D → M D
  | 0, _, _ => fun _ => none
  | k + 1, f, ds => fun A => match P[f]? with
    | some F => if ds.length = F.np then endD A (F.body ⟨callN P k⟩ (startD F.n ds) A) else none
    | none => none
end Z

noncomputable section
set_option maxHeartbeats 2000000
namespace Z
open PySem PySem.Spec PyProof.Rows L2

/-- the object of a new tuple -/
def tpO (us : List Value) : Obj := { cls := .type "tuple", data := .seq us.toArray }
/-- a known tuple without a dict of its own -/
def TpN (o : Obj) : Prop := o.dict = none ∧ o.cls = .type "tuple"
def FzT (K : PySem.W.Frag) (H : Hp) (a : Addr) (vs : List V) : Prop :=
  (∃ o, H a = some (.frz o (.tup vs)) ∧ o.dict = none) ∨
    ∃ (o : Obj) (its : Array Value) (n : Nat), K.lookup a = some o ∧ o.cls = .type "tuple" ∧ o.dict = none ∧ o.data = .seq its n ∧ its.size ≤ sizeLine ∧ Vals vs its.toList
theorem FzT.sq {K : PySem.W.Frag} {H : Hp} {a : Addr} {vs : List V} (h : FzT K H a vs) : SqT K H a vs := by
  rcases h with ⟨o, h, _⟩ | ⟨o, its, n, h1, h2, _, h3⟩
  · exact .inl (.inr ⟨o, h⟩)
  · exact .inr ⟨o, its, n, h1, h2, h3⟩

section
variable {X : Cx} {pins : List (Addr × Obj)} {σ : L2.St} {H : Hp} {s : Shared}
theorem tp_at {h1 : Heap} (us : List Value) : (h1.push (tpO us)).get? h1.objs.size = some (tpO us) := Heap.get?_push_size _ rfl
/-- a tuple was pushed -/
theorem tp_laid {h1 : Heap} {tk : Nat} {xs : List V} {us : List Value} (I : Inv X pins σ H { s with heap := h1, toks := tk }) (r : Vals xs us) (hz : xs.length ≤ sizeLine) :
    Inv X pins σ (upd H h1.objs.size (.frz (tpO us) (.tup xs))) { s with heap := h1.push (tpO us), toks := tk } := by
  have new : ObjOk X.prog X.w (upd H h1.objs.size (.frz (tpO us) (.tup xs))) (h1.push (tpO us)) h1.objs.size (.frz (tpO us) (.tup xs)) :=
    ⟨tp_at us, hz, us, r, _, tp_at us, rfl, _, rfl⟩
  exact Inv.laid (s := { s with heap := h1, toks := tk }) I (fun _ _ e => Heap.get?_push_of_some _ e) (Nat.le_refl _) new
theorem tp_fin {h1 : Heap} {tk : Nat} {xs : List V} {us : List Value} {Q : VK} (I : Inv X pins σ H { s with heap := h1, toks := tk }) (r : Vals xs us) (hz : xs.length ≤ sizeLine)
    (q : ∀ p o, H p = none → o.dict = none → Q (.ref p) (upd H p (.frz o (.tup xs)))) : EP X pins σ Q (.ref h1.objs.size) { s with heap := h1.push (tpO us), toks := tk } :=
  ⟨.ref h1.objs.size, _, tp_laid I r hz, rfl, q _ _ (HOk.fresh (h := h1) I.hok (Nat.le_refl _)) rfl⟩
end

section
variable {X : Cx} {es : List Expr} {t : TA} {pos p : Pos} {e : Expr}
def tTupF (t : TA) : TE := fun σ H Q => t σ H fun xs H1 => xs.length ≤ sizeLine ∧ ∀ p o, H1 p = none → o.dict = none → Q (.ref p) (upd H1 p (.frz o (.tup xs)))
theorem pe_tupF {k : Nat} (h : PA X es t) : PE X (.Tuple es k pos) (tTupF t) := by
  refine ⟨fun pins s σ H Q I hq => wpAny_Tuple_spliced (thn (h.run pos pins s σ H _ I hq) fun us s1 g => ?_)⟩
  obtain ⟨xs, H1, I1, r, z, q⟩ := g
  exact ⟨r.length ▸ z, tp_fin (s := s1) (h1 := s1.heap) (tk := s1.toks) I1 r z q⟩
/-- t + u -/
def rCatF (K : PySem.W.Frag) : R2 := fun x y H Q => ∃ a b xs ys, x = .ref a ∧ y = .ref b ∧ SqT K H a xs ∧ SqT K H b ys ∧ xs.length + ys.length ≤ sizeLine ∧
  (xs = [] → Q (.ref b) H) ∧ (xs ≠ [] → ys = [] → Q (.ref a) H) ∧ (xs ≠ [] → ys ≠ [] → ∀ p o, H p = none → o.dict = none → Q (.ref p) (upd H p (.frz o (.tup (xs ++ ys)))))
theorem op_catF : OpR X (binaryOp .Add) (rCatF X.K) := by
  intro pins s σ H x y v u Q I rx ry ⟨a, b, xs, ys, e1, e2, ha, hb, hz, q0, q1, q2⟩
  subst e1 e2
  cases rx; cases ry
  obtain ⟨its, r1, p1, _⟩ := I.tuple ha
  obtain ⟨jts, r2, p2, _⟩ := I.tuple hb
  by_cases hx : xs = []
  · subst hx
    cases r1
    exact cat_tup0 p1 p2 ⟨.ref _, H, I, rfl, q0 rfl⟩
  · refine HT.cat_tup p1 p2 (fun z => hx (r1.nil_iff.mp z)) (fun z => ⟨.ref _, H, I, rfl, q1 hx (r2.nil_iff.mp z)⟩) (fun z => ?_) (by rw [← r1.length, ← r2.length]; exact hz)
    exact tp_fin (s := s) (h1 := s.heap) (tk := s.toks) I (r1.append r2) (by rw [List.length_append]; exact hz) (q2 hx fun w => z (r2.nil_iff.mpr w))
/-- t[i:j] -/
def rSlF (K : PySem.W.Frag) : V → Option Int → Option Int → Hp → VK → Prop := fun x lo hi H Q => ∃ a xs, x = .ref a ∧ SqT K H a xs ∧
  (HT.sIx xs.length 0 lo = 0 ∧ HT.sIx xs.length xs.length hi = xs.length → Q (.ref a) H) ∧
  (¬ (HT.sIx xs.length 0 lo = 0 ∧ HT.sIx xs.length xs.length hi = xs.length) → ∀ p o, H p = none → o.dict = none → Q (.ref p) (upd H p (.frz o (.tup (cutV xs lo hi)))))
theorem sl_tupF : SlR X (rSlF X.K) := by
  intro pins s σ H x v vl vu lo hi sl Q I rx hs pl pu ⟨a, xs, e1, hx, q1, q2⟩
  subst e1
  cases rx
  obtain ⟨its, r, ht, hz⟩ := I.tuple hx
  have hlen : its.toArray.size = xs.length := by rw [List.size_toArray, r.length]
  refine ⟨"tuple", _, PyProof.Rows.slot_tuple_getitem.lookup, ht.typeIs, ?_⟩
  by_cases hw : HT.sIx xs.length 0 lo = 0 ∧ HT.sIx xs.length xs.length hi = xs.length
  · exact getItem_tuple_whole ht hs pl pu (by rw [hlen]; exact hw) ⟨.ref _, H, I, rfl, q1 hw⟩
  · refine HT.getItem_tuple_cut ht hs pl pu (by rw [hlen]; exact hw) ?_ (by rw [hlen]; exact hz)
    rw [hlen]
    exact tp_fin (s := s) (h1 := s.heap) (tk := s.toks) I ((r.drop _).take _) (Nat.le_trans (cutV_length xs lo hi) hz) (q2 hw)
/-- tuple(x) -/
def rTupF (K : PySem.W.Frag) : List V → Hp → VK → Prop := fun xs H Q => ∃ a ys, xs = [.ref a] ∧ ((SqL K H a ys ∧ ∀ p o, H p = none → o.dict = none → Q (.ref p) (upd H p (.frz o (.tup ys)))) ∨ (SqT K H a ys ∧ Q (.ref a) H))
theorem call_tupF : CallR X (.type "tuple") (rTupF X.K) := by
  intro pins s σ H xs us Q I r ⟨a, ys, e1, h⟩
  subst e1
  obtain ⟨u, rfl, rx⟩ := vals1 r
  cases rx
  rcases h with ⟨hq, q⟩ | ⟨hq, q⟩
  · obtain ⟨its, r', pl, hz⟩ := I.list hq
    have hl := r'.length
    refine call_tuple_list pl.isList (fun h' kp => ?_) (by rw [List.size_toArray]; omega)
    exact tp_fin (s := s) (h1 := h') (tk := s.toks) (I.kept (t' := s.toks) kp) r' hz q
  · obtain ⟨its, r', pl, _⟩ := I.tuple hq
    exact call_tuple_same pl ⟨.ref _, H, I, rfl, q⟩
/-- tuple(range(..)) -/
def tTupRgF (te : L2.St → Hp → (Int → Int → Hp → Prop) → Prop) : TE := fun σ H Q => te σ H fun a b H1 => RgOk a b ∧ ∀ p o, H1 p = none → o.dict = none → Q (.ref p) (upd H1 p (.frz o (.tup (rgV a b))))
theorem pe_tupRgF {te : L2.St → Hp → (Int → Int → Hp → Prop) → Prop} (hc : X.calm = true) (hg : Gl X "tuple") (hm : X.mg "tuple" = none) (he : PRg X e te)
    (na : starEach [e] X.env = (false, eval e X.env) :: starEach [] X.env := by rfl) : PE X (.Call (.Name "tuple" p) [e] [] pos) (tTupRgF te) := by
  refine ⟨fun pins s σ H Q I h => Call_ (ld_blt I hg hm PyProof.Rows.boot_tuple (PyProof.Rows.callWith_type1 (args_cons (thn (he pins s σ H _ I h) fun x s1 g => args_nil ?_) na) na))⟩
  obtain ⟨r, a, b, t, u, v, H1, ex, hr, I1, ⟨b1, b2, b3, b4, b5⟩, q⟩ := g
  subst ex
  refine call_tuple_range (n := (b - a).toNat) (I1.ok.hd hc) hr (small_one b1 b2 b3 b4) (rangeSize_nat a b) b5 fun h' tk acc hk hi => ?_
  have hv := vals_rg hi
  have e1 : acc = acc.toList.toArray := by simp
  have fin := tp_fin (s := s1) (h1 := h') (tk := tk) (Q := Q) (I1.kept hk) hv (by rw [rgV_length, sizeLine_eq]; omega) q
  unfold tpO at fin
  rw [← e1] at fin
  exact fin
/-- divmod(x, y) -/
def rDivF : List V → Hp → VK → Prop := fun xs H Q => ∃ i j : Int, xs = [.int i, .int j] ∧ CDivP i j ∧ ∀ p o, H p = none → o.dict = none → Q (.ref p) (upd H p (.frz o (.tup [.int (i / j), .int (i % j)])))
theorem call_divF : CallR X (.builtin "divmod") rDivF := by
  intro pins s σ H xs us Q I r ⟨i, j, e1, ⟨h1, h2⟩, q⟩
  subst e1
  obtain ⟨u, w', rfl, ⟨t, rfl⟩, ⟨t', rfl⟩⟩ := vals2 r
  refine divmod_int (by omega) ?_ (.inl h2)
  rw [Int.fdiv_eq_ediv_of_nonneg i (by omega), Int.fmod_eq_emod_of_nonneg i (by omega)]
  exact tp_fin (s := s) (h1 := s.heap) (xs := [.int (i / j), .int (i % j)]) (us := [.int (i / j) s.toks, .int (i % j) (s.toks + 1)]) (I.tok _) (.cons ⟨_, rfl⟩ (.cons ⟨_, rfl⟩ .nil)) (by rw [sizeLine_eq, List.length_cons, List.length_cons, List.length_nil]; decide) q
/-- a tuple's method -/
def tyT (K : PySem.W.Frag) (x : V) (H : Hp) : Prop := ∃ a vs, x = .ref a ∧ FzT K H a vs
theorem tyT_ok : ∀ {pins : List (Addr × Obj)} {σ : L2.St} {H : Hp} {s : Shared} {x : V} {v : Value}, Inv X pins σ H s → RelV x v → tyT X.K x H → s.TypeIs v "tuple" ∧ ∀ a, v = .ref a → ∃ ob, s.heap.get? a = some ob ∧ ob.dict = none := by
  intro pins σ H s x v I r ⟨a, vs, e1, h⟩
  subst e1
  cases r
  rcases h with ⟨o, h, hd⟩ | ⟨o, its, n, h1, h2, h3, _⟩
  · obtain ⟨e, _, its, rv, o2, e2, c2, _⟩ := I.hok a _ h
    rw [e] at e2; cases e2
    exact ⟨⟨_, e, c2⟩, fun b z => by cases z; exact ⟨_, e, hd⟩⟩
  · exact ⟨⟨o, I.kIn a o h1, h2⟩, fun b z => by cases z; exact ⟨o, I.kIn _ o h1, h3⟩⟩
/-- t * k -/
theorem tuple_mul1 (l : Addr) (items : Array Value) (n : Nat) (dd : Option Addr) (sl : Array (Option Value)) (u : Tok) :
    Meets (Builtin.«tuple.__mul__» ⟨[.ref l, .int 1 u], []⟩) (fun _ R s => s.heap.get? l = some { cls := .type "tuple", dict := dd, data := .seq items n, slots := sl } ∧ R (.ok (.ret (Value.ref l))) s) :=
  .of_wp fun prog w A R s h => by
    obtain ⟨hp, g, d, tk, os⟩ := s
    obtain ⟨hl, h⟩ := h
    have f1 := AutoSeq1.idx_int
    have c0 : (decide ((1 : Int) < -(2 ^ 63)) || decide ((1 : Int) ≥ 2 ^ 63)) = false := by decide
    have c1 : (items.isEmpty || (1 : Int) == 1) = true := by simp
    wp_walk using AutoSeq1.wpAny_loadPart' hl
    repeat (first
      | (refine wpAny_ite_false (decide_eq_false (by rw [c0]; exact Bool.false_ne_true)) ?_; wp_walk using AutoSeq1.wpAny_loadPart' hl)
      | (refine wpAny_ite_true (decide_eq_true c1) ?_; wp_walk using AutoSeq1.wpAny_loadPart' hl))
    exact ⟨_, rfl, h⟩
def rRepF (K : PySem.W.Frag) : R2 := fun x y H Q => ∃ l k xs, x = .ref l ∧ y = .int k ∧ SqT K H l xs ∧ ((k = 1 ∧ Q (.ref l) H) ∨ (xs ≠ [] ∧ 2 ≤ k ∧ k ≤ 1000 ∧ xs.length ≤ 1000 ∧ ∀ p o, H p = none → o.dict = none → Q (.ref p) (upd H p (.frz o (.tup (List.replicate k.toNat xs).flatten)))))
theorem op_repF : OpR X (binaryOp .Mult) (rRepF X.K) := by
  intro pins s σ H x y v u Q I rx ry h
  obtain ⟨l, k, xs, rfl, rfl, hT, h⟩ := h
  cases rx
  obtain ⟨t, rfl⟩ := ry
  obtain ⟨its, r, ⟨⟨cls, dd, data, sl⟩, ho, hc, n, hd⟩, hs⟩ := I.tuple hT
  simp only at hc hd
  subst hc hd
  rcases h with ⟨rfl, q⟩ | ⟨hne, h1, h2, hz, q⟩
  · exact wpAny_binaryOp_repeat_ref (T := "tuple") (U := "int") (by decide) ⟨_, ho, rfl⟩ (fun s' => typeIs_int s' 1 t) noFill_tuple_mul F.fills_int_mul F.slot_int_rmul repeat_tuple F.slot_int_index.lookup
      (call_meets F.slot_int_rmul (typeIs_int s 1 t) F.entry_int_rmul (F.args_int_rmul_2 _ _) (int_rmul_tuple 1 t l its.toArray n dd sl)
        ⟨ho, rfl, ⟨_, ho, rfl⟩, call_meets F.slot_tuple_mul ⟨_, ho, rfl⟩ F.entry_tuple_mul (F.args_tuple_mul_2 _ _) (tuple_mul1 l its.toArray n dd sl t) ⟨ho, ⟨.ref l, H, I, rfl, q⟩⟩⟩)
  have hle : its.length = xs.length := r.length.symm
  have hn : its ≠ [] := fun e => hne (by
    rw [e] at hle
    exact List.eq_nil_of_length_eq_zero hle.symm)
  have hi : its.toArray.isEmpty = false := by
    cases its with
    | nil => exact absurd rfl hn
    | cons a b => rfl
  have hsz0 : its.toArray.size = xs.length := by rw [List.size_toArray, hle]
  have hm : ((its.toArray.size : Nat) : Int) * k ≤ 1000000 := by
    rw [hsz0]
    have a1 : ((xs.length : Nat) : Int) * k ≤ 1000 * k := Int.mul_le_mul_of_nonneg_right (by omega) (by omega)
    omega
  have flen : (List.replicate k.toNat its).flatten.length ≤ sizeLine := by
    rw [PyProof.Rows.lm_len_rep_flat, hle, sizeLine_eq]
    have a1 : k.toNat * xs.length ≤ 1000 * 1000 := Nat.mul_le_mul (by omega) hz
    omega
  have c0 : (decide (k < -(2 ^ 63)) || decide (k ≥ 2 ^ 63)) = false := by
    rw [decide_eq_false (by omega), decide_eq_false (by omega)] <;> rfl
  have c1 : (its.toArray.isEmpty || k == 1) = false := by
    rw [hi, Bool.false_or]
    exact beq_eq_false_iff_ne.mpr (by omega)
  have c2 : (decide (k ≤ 0) || its.toArray.isEmpty) = false := by
    rw [hi, Bool.or_false]
    exact decide_eq_false (by omega)
  have c4 : Builtin.Tuple.tupleTooMany (((its.toArray.size : Nat) : Int) * k) = false := by
    unfold Builtin.Tuple.tupleTooMany
    rw [sizeLine_eq]
    exact decide_eq_false (by omega)
  refine wpAny_binaryOp_repeat_ref (T := "tuple") (U := "int") (by decide) ⟨_, ho, rfl⟩ (fun s' => typeIs_int s' k t) noFill_tuple_mul F.fills_int_mul F.slot_int_rmul repeat_tuple F.slot_int_index.lookup
    (call_meets F.slot_int_rmul (typeIs_int s k t) F.entry_int_rmul (F.args_int_rmul_2 _ _) (int_rmul_tuple k t l its.toArray n dd sl)
      ⟨ho, rfl, ⟨_, ho, rfl⟩, call_meets F.slot_tuple_mul ⟨_, ho, rfl⟩ F.entry_tuple_mul (F.args_tuple_mul_2 _ _) (tuple_mulW l its.toArray n dd sl k t c0 c1 c2 (by omega) c4 (by rw [size_rep, List.size_toArray]; exact flen)) ⟨ho, ?_⟩⟩)
  rw [size_rep]
  exact tp_fin (s := s) (h1 := s.heap) (tk := s.toks) I (r.rep k.toNat) (by rw [PyProof.Rows.lm_len_rep_flat, sizeLine_eq]; have a1 : k.toNat * xs.length ≤ 1000 * 1000 := Nat.mul_le_mul (by omega) hz; omega) q
end
end Z

noncomputable section
namespace Z
open PySem PySem.Spec PyProof.Rows L2

/-- what is fixed: the written part, the own classes, the exceptions -/
structure Cn where
  K : PySem.W.Frag
  cA : Nat → Addr
  eA : Nat → Addr
  P : Program
  w : World

/-- a list that never changes -/
def FzL (K : PySem.W.Frag) (H : Hp) (a : Addr) (vs : List V) : Prop :=
  (∃ o, H a = some (.frz o (.lst vs))) ∨
    ∃ (o : Obj) (its : Array Value) (n : Nat), K.lookup a = some o ∧ o.cls = .type "list" ∧ o.dict = none ∧ o.data = .seq its n ∧ its.size ≤ sizeLine ∧ Vals vs its.toList
theorem FzL.sq {K : PySem.W.Frag} {H : Hp} {a : Addr} {vs : List V} (h : FzL K H a vs) : SqL K H a vs := by
  rcases h with ⟨o, h⟩ | h
  · exact .inl (.inr ⟨o, h⟩)
  · exact .inr h

mutual
inductive Rv (c : Cn) (ρ : List Addr) (H : Hp) : D → V → Prop where
  | non : Rv c ρ H .non .non
  | bl (b : Bool) : Rv c ρ H (.bl b) (.bl b)
  | int (i : Int) : Rv c ρ H (.int i) (.int i)
  | str (x : Str) : Rv c ρ H (.str x) (.str x)
  | tup {a : Addr} {xs : List D} {vs : List V} : FzT c.K H a vs → Rvs c ρ H xs vs → Rv c ρ H (.tup xs) (.ref a)
  | lst {a : Addr} {xs : List D} {vs : List V} : FzL c.K H a vs → Rvs c ρ H xs vs → Rv c ρ H (.lst xs) (.ref a)
  | ref {n : Nat} {a : Addr} : ρ[n]? = some a → Rv c ρ H (.ref n) (.ref a)
  | exc {n : Nat} {a : Addr} {o : Obj} {u : HO} : H a = some (.frz o u) → (o.cls = .ref (c.eA n) ∧ o.dict = none ∧ ∃ vs, o.data = .fields vs) → Rv c ρ H (.exc n) (.ref a)
  | emp {a : Addr} {o : Obj} : H a = some (.frz o (.dK [])) → o.dict = none → Rv c ρ H .emp (.ref a)
inductive Rvs (c : Cn) (ρ : List Addr) (H : Hp) : List D → List V → Prop where
  | nil : Rvs c ρ H [] []
  | cons {d : D} {ds : List D} {v : V} {vs : List V} : Rv c ρ H d v → Rvs c ρ H ds vs → Rvs c ρ H (d :: ds) (v :: vs)
end

section
variable {c : Cn} {ρ ρ' : List Addr} {H H' : Hp}
theorem Rvs.length : ∀ {ds : List D} {vs : List V}, Rvs c ρ H ds vs → ds.length = vs.length
  | _, _, .nil => rfl
  | _, _, .cons _ t => by rw [List.length_cons, List.length_cons, Rvs.length t]
theorem Rvs.get : ∀ {ds : List D} {vs : List V} {i : Nat} {d : D}, Rvs c ρ H ds vs → ds[i]? = some d → ∃ v, vs[i]? = some v ∧ Rv c ρ H d v
  | _, _, i, _, .nil, e => by simp at e
  | _, _, 0, d, .cons r _, e => by simp at e; subst e; exact ⟨_, rfl, r⟩
  | _, _, i + 1, d, .cons _ t, e => by
    obtain ⟨v, h1, h2⟩ := Rvs.get (i := i) (d := d) t (by simpa using e)
    exact ⟨v, by simpa using h1, h2⟩
theorem Rvs.at' {ds : List D} {vs : List V} {i : Nat} {v : V} (r : Rvs c ρ H ds vs) (e : vs[i]? = some v) : ∃ d, ds[i]? = some d ∧ Rv c ρ H d v := by
  have hl := r.length
  have hi : i < ds.length := by
    have := (List.getElem?_eq_some_iff.mp e).1
    omega
  obtain ⟨u, h1, h2⟩ := r.get (List.getElem?_eq_getElem hi)
  rw [e] at h1; cases h1
  exact ⟨_, List.getElem?_eq_getElem hi, h2⟩
theorem Rvs.append : ∀ {ds es : List D} {vs ws : List V}, Rvs c ρ H ds vs → Rvs c ρ H es ws → Rvs c ρ H (ds ++ es) (vs ++ ws)
  | _, _, _, _, .nil, s => s
  | _, _, _, _, .cons r t, s => .cons r (Rvs.append t s)
theorem Rvs.take : ∀ {ds : List D} {vs : List V} (n : Nat), Rvs c ρ H ds vs → Rvs c ρ H (ds.take n) (vs.take n)
  | _, _, 0, _ => by rw [List.take_zero, List.take_zero]; exact .nil
  | _, _, _ + 1, .nil => by rw [List.take_nil, List.take_nil]; exact .nil
  | _, _, n + 1, .cons r t => by rw [List.take_succ_cons, List.take_succ_cons]; exact .cons r (Rvs.take n t)
theorem Rvs.drop : ∀ {ds : List D} {vs : List V} (n : Nat), Rvs c ρ H ds vs → Rvs c ρ H (ds.drop n) (vs.drop n)
  | _, _, 0, r => r
  | _, _, _ + 1, .nil => .nil
  | _, _, n + 1, .cons _ t => Rvs.drop n t
theorem Rvs.set {d : D} {v : V} (r : Rv c ρ H d v) : ∀ {ds : List D} {vs : List V} (i : Nat), Rvs c ρ H ds vs → Rvs c ρ H (ds.set i d) (vs.set i v)
  | _, _, _, .nil => .nil
  | _, _, 0, .cons _ t => .cons r t
  | _, _, i + 1, .cons q t => .cons q (Rvs.set r i t)
theorem Rvs.eraseIdx : ∀ {ds : List D} {vs : List V} (i : Nat), Rvs c ρ H ds vs → Rvs c ρ H (ds.eraseIdx i) (vs.eraseIdx i)
  | _, _, _, .nil => .nil
  | _, _, 0, .cons _ t => t
  | _, _, i + 1, .cons q t => .cons q (Rvs.eraseIdx i t)
theorem Rvs.dropLast {ds : List D} {vs : List V} (r : Rvs c ρ H ds vs) : Rvs c ρ H ds.dropLast vs.dropLast := by
  rw [List.dropLast_eq_take, List.dropLast_eq_take, r.length]
  exact r.take _
theorem Rvs.rep {ds : List D} {vs : List V} (r : Rvs c ρ H ds vs) : ∀ k : Nat, Rvs c ρ H (List.replicate k ds).flatten (List.replicate k vs).flatten
  | 0 => .nil
  | k + 1 => by
    rw [List.replicate_succ, List.replicate_succ, List.flatten_cons, List.flatten_cons]
    exact r.append (Rvs.rep r k)
theorem Rvs.bls : ∀ {ds : List D} {vs : List V} {bs : List Bool}, Rvs c ρ H ds vs → blsOf ds = some bs → vs = bs.map V.bl
  | [], _, bs, .nil, e => by simp [blsOf] at e; subst e; rfl
  | d :: ds, _, bs, .cons r t, e => by
    cases d with
    | bl b =>
      cases h : blsOf ds with
      | none => simp [blsOf, h] at e
      | some cs =>
        simp [blsOf, h] at e
        subst e
        cases r
        rw [List.map_cons, Rvs.bls t h]
    | _ => simp [blsOf] at e
theorem Rvs.ints : ∀ {ds : List D} {vs : List V} {ns : List Int}, Rvs c ρ H ds vs → intsOf ds = some ns → vs = ns.map V.int
  | [], _, ns, .nil, e => by simp [intsOf] at e; subst e; rfl
  | d :: ds, _, ns, .cons r t, e => by
    cases d with
    | int b =>
      cases h : intsOf ds with
      | none => simp [intsOf, h] at e
      | some cs =>
        simp [intsOf, h] at e
        subst e
        cases r
        rw [List.map_cons, Rvs.ints t h]
    | _ => simp [intsOf] at e
theorem intsOf_map : ∀ {ds : List D} {ns : List Int}, intsOf ds = some ns → ds = ns.map D.int
  | [], ns, e => by simp [intsOf] at e; subst e; rfl
  | d :: ds, ns, e => by
    cases d with
    | int b =>
      cases h : intsOf ds with
      | none => simp [intsOf, h] at e
      | some cs =>
        simp [intsOf, h] at e
        subst e
        rw [List.map_cons, intsOf_map h]
    | _ => simp [intsOf] at e
theorem intsOf_ints : ∀ ns : List Int, intsOf (ns.map D.int) = some ns
  | [] => rfl
  | n :: ns => by simp [intsOf, intsOf_ints ns]
theorem Rvs.of_ints : ∀ ns : List Int, Rvs c ρ H (ns.map D.int) (ns.map V.int)
  | [] => .nil
  | n :: ns => .cons (.int n) (Rvs.of_ints ns)

theorem FzT.mono (hf : ∀ a o u, H a = some (.frz o u) → H' a = some (.frz o u)) {a : Addr} {xs : List V} (h : FzT c.K H a xs) : FzT c.K H' a xs := by
  rcases h with ⟨o, h, hd⟩ | h
  · exact .inl ⟨o, hf _ _ _ h, hd⟩
  · exact .inr h
theorem FzL.mono (hf : ∀ a o u, H a = some (.frz o u) → H' a = some (.frz o u)) {a : Addr} {xs : List V} (h : FzL c.K H a xs) : FzL c.K H' a xs := by
  rcases h with ⟨o, h⟩ | h
  · exact .inl ⟨o, hf _ _ _ h⟩
  · exact .inr h
mutual
theorem Rv.mono (hr : ρ <+: ρ') (hf : ∀ a o u, H a = some (.frz o u) → H' a = some (.frz o u)) : ∀ {d : D} {v : V}, Rv c ρ H d v → Rv c ρ' H' d v
  | _, _, .non => .non
  | _, _, .bl b => .bl b
  | _, _, .int i => .int i
  | _, _, .str x => .str x
  | _, _, .tup h t => .tup (h.mono hf) (Rvs.mono hr hf t)
  | _, _, .lst h t => .lst (h.mono hf) (Rvs.mono hr hf t)
  | _, _, .ref h => .ref (by
    obtain ⟨t, rfl⟩ := hr
    rw [List.getElem?_append_left (List.getElem?_eq_some_iff.mp h).1]
    exact h)
  | _, _, .exc h e => .exc (hf _ _ _ h) e
  | _, _, .emp h e => .emp (hf _ _ _ h) e
theorem Rvs.mono (hr : ρ <+: ρ') (hf : ∀ a o u, H a = some (.frz o u) → H' a = some (.frz o u)) : ∀ {ds : List D} {vs : List V}, Rvs c ρ H ds vs → Rvs c ρ' H' ds vs
  | _, _, .nil => .nil
  | _, _, .cons r t => .cons (Rv.mono hr hf r) (Rvs.mono hr hf t)
end
end

inductive Rfs (c : Cn) (ρ : List Addr) (H : Hp) : List (Str × D) → List (Str × V) → Prop where
  | nil : Rfs c ρ H [] []
  | cons {x : Str} {d : D} {v : V} {fs : List (Str × D)} {gs : List (Str × V)} : Rv c ρ H d v → Rfs c ρ H fs gs → Rfs c ρ H ((x, d) :: fs) ((x, v) :: gs)
/-- a dict's entries: keys are tuples -/
inductive Rkv (c : Cn) (ρ : List Addr) (H : Hp) : List (List Int × D) → List (List Int × Addr × V) → Prop where
  | nil : Rkv c ρ H [] []
  | cons {k : List Int} {d : D} {ka : Addr} {v : V} {kvs : List (List Int × D)} {ks : List (List Int × Addr × V)} : Rv c ρ H (.tup (k.map .int)) (.ref ka) → Rv c ρ H d v → Rkv c ρ H kvs ks → Rkv c ρ H ((k, d) :: kvs) ((k, ka, v) :: ks)
/-- .. ints or texts -/
inductive Rck (c : Cn) (ρ : List Addr) (H : Hp) : List (Key × D) → List (Key × V) → Prop where
  | nil : Rck c ρ H [] []
  | cons {k : Key} {d : D} {v : V} {kvs : List (Key × D)} {ks : List (Key × V)} : Rv c ρ H d v → Rck c ρ H kvs ks → Rck c ρ H ((k, d) :: kvs) ((k, v) :: ks)
def DctX (P : Program) (w : World) (a : Addr) (xs : List (List Int × Addr × Value)) (h : Heap) : Prop :=
  (xs.map (·.1)).Nodup ∧ (a == sysModules) = false ∧ ∃ o es ep, h.get? a = some o ∧ o.ExactDict ∧ o.data = .dict es ep ∧ es.toList = xs.map (entryOfKey (tupleKind (intKind P w)))
def KvX (ks : List (List Int × Addr × V)) (xs : List (List Int × Addr × Value)) : Prop := Paired (fun (p : List Int × Addr × V) (q : List Int × Addr × Value) => p.1 = q.1 ∧ p.2.1 = q.2.1 ∧ RelV p.2.2 q.2.2) ks xs
/-- a dict whose keys are tuples, as it lies -/
def DctO (P : Program) (w : World) (a : Addr) (ks : List (List Int × Addr × V)) : HO := .ext fun h => ∃ xs, KvX ks xs ∧ DctX P w a xs h
def Ro (c : Cn) (ρ : List Addr) (H : Hp) (a : Addr) : O → HO → Prop
  | .lst xs, o => ∃ vs, o = .lst vs ∧ Rvs c ρ H xs vs
  | .ins k fs, o => ∃ dx gs, o = .ins (c.cA k) dx gs ∧ Rfs c ρ H fs gs
  | .dct kvs, o => ∃ ks, o = DctO c.P c.w a ks ∧ Rkv c ρ H kvs ks
  | .dck kvs, o => ∃ gs, o = .dK gs ∧ Rck c ρ H kvs gs

/-- the heap of objects, seen -/
structure Rel (c : Cn) (ρ : List Addr) (A : Hh) (H : Hp) : Prop where
  len : ρ.length = A.length
  nd : ρ.Nodup
  obj : ∀ (n : Nat) (o : O) (a : Addr), A[n]? = some o → ρ[n]? = some a → ∃ ho, H a = some ho ∧ Ro c ρ H a o ho
/-- what stays -/
structure St' (ρ : List Addr) (H : Hp) (ρ' : List Addr) (H' : Hp) : Prop where
  pre : ρ <+: ρ'
  new : ∀ b ∈ ρ', b ∉ ρ → H b = none
  fr : ∀ b o, H b = some o → b ∉ ρ → H' b = some o

section
variable {c : Cn} {ρ ρ' ρ1 ρ2 : List Addr} {A A' : Hh} {H H' H1 H2 : Hp}
theorem Rfs.mono (hr : ρ <+: ρ') (hf : ∀ a o u, H a = some (.frz o u) → H' a = some (.frz o u)) : ∀ {fs : List (Str × D)} {gs : List (Str × V)}, Rfs c ρ H fs gs → Rfs c ρ' H' fs gs
  | _, _, .nil => .nil
  | _, _, .cons r t => .cons (r.mono hr hf) (Rfs.mono hr hf t)
theorem Rkv.mono (hr : ρ <+: ρ') (hf : ∀ a o u, H a = some (.frz o u) → H' a = some (.frz o u)) : ∀ {fs : List (List Int × D)} {gs : List (List Int × Addr × V)}, Rkv c ρ H fs gs → Rkv c ρ' H' fs gs
  | _, _, .nil => .nil
  | _, _, .cons r1 r2 t => .cons (r1.mono hr hf) (r2.mono hr hf) (Rkv.mono hr hf t)
theorem Rck.mono (hr : ρ <+: ρ') (hf : ∀ a o u, H a = some (.frz o u) → H' a = some (.frz o u)) : ∀ {fs : List (Key × D)} {gs : List (Key × V)}, Rck c ρ H fs gs → Rck c ρ' H' fs gs
  | _, _, .nil => .nil
  | _, _, .cons r t => .cons (r.mono hr hf) (Rck.mono hr hf t)
theorem Ro.mono (hr : ρ <+: ρ') (hf : ∀ a o u, H a = some (.frz o u) → H' a = some (.frz o u)) {a : Addr} : ∀ {o : O} {ho : HO}, Ro c ρ H a o ho → Ro c ρ' H' a o ho
  | .lst _, _, ⟨vs, e, r⟩ => ⟨vs, e, r.mono hr hf⟩
  | .ins _ _, _, ⟨dx, gs, e, r⟩ => ⟨dx, gs, e, r.mono hr hf⟩
  | .dct _, _, ⟨ks, e, r⟩ => ⟨ks, e, r.mono hr hf⟩
  | .dck _, _, ⟨ks, e, r⟩ => ⟨ks, e, r.mono hr hf⟩
/-- an object that changes is no tuple, no frozen thing -/
def Chg : HO → Prop
  | .lst _ => True
  | .ins _ _ _ => True
  | .ext _ => True
  | .dK _ => True
  | _ => False
theorem Ro.chg {a : Addr} : ∀ {o : O} {ho : HO}, Ro c ρ H a o ho → Chg ho
  | .lst _, _, ⟨_, e, _⟩ => by subst e; trivial
  | .ins _ _, _, ⟨_, _, e, _⟩ => by subst e; trivial
  | .dct _, _, ⟨_, e, _⟩ => by subst e; trivial
  | .dck _, _, ⟨_, e, _⟩ => by subst e; trivial
theorem Rel.at (R : Rel c ρ A H) {a : Addr} (h : a ∈ ρ) : ∃ ho, H a = some ho ∧ Chg ho := by
  obtain ⟨n, hn, e⟩ := List.mem_iff_getElem.mp h
  have hA : n < A.length := by rw [← R.len]; exact hn
  obtain ⟨ho, h1, h2⟩ := R.obj n _ a (List.getElem?_eq_getElem hA) (by rw [List.getElem?_eq_getElem hn, e])
  exact ⟨ho, h1, h2.chg⟩
theorem Rel.notTup (R : Rel c ρ A H) {a : Addr} {xs : List V} (h : Rd H a (.tup xs)) : a ∉ ρ := fun m => by
  obtain ⟨ho, h1, h2⟩ := R.at m
  rcases h with h | ⟨o, h⟩
  · rw [h1] at h; cases h; exact h2
  · rw [h1] at h; cases h; exact h2
theorem Rel.tups (R : Rel c ρ A H) (fr : ∀ b o, H b = some o → b ∉ ρ → H' b = some o) : ∀ a xs, SqT c.K H a xs → SqT c.K H' a xs := fun a xs h => by
  rcases h with h | h
  · have hn := R.notTup h
    rcases h with h | ⟨o, h⟩
    · exact .inl (.inl (fr a _ h hn))
    · exact .inl (.inr ⟨o, fr a _ h hn⟩)
  · exact .inr h
theorem Rel.frz (R : Rel c ρ A H) (fr : ∀ b o, H b = some o → b ∉ ρ → H' b = some o) : ∀ a o u, H a = some (.frz o u) → H' a = some (.frz o u) := fun a o u h => fr a _ h fun m => by
  obtain ⟨ho, h1, h2⟩ := R.at m
  rw [h1] at h; cases h; exact h2
theorem Rel.fzt (R : Rel c ρ A H) (fr : ∀ b o, H b = some o → b ∉ ρ → H' b = some o) : ∀ a xs, FzT c.K H a xs → FzT c.K H' a xs := fun a xs h => h.mono (R.frz fr)
theorem Rel.fzs (R : Rel c ρ A H) (fr : ∀ b o, H b = some o → b ∉ ρ → H' b = some o) : ∀ a xs, FzL c.K H a xs → FzL c.K H' a xs := fun a xs h => h.mono (R.frz fr)
theorem St'.refl : St' ρ H ρ H := ⟨List.prefix_refl _, fun b h n => absurd h n, fun _ _ h _ => h⟩
theorem St'.trans (a : St' ρ H ρ1 H1) (b : St' ρ1 H1 ρ2 H2) : St' ρ H ρ2 H2 := by
  have key : ∀ x o, H x = some o → x ∉ ρ → x ∉ ρ1 := fun x o h n m => by
    have := a.new x m n
    rw [h] at this; cases this
  refine ⟨a.pre.trans b.pre, fun x h n => ?_, fun x o h n => b.fr x o (a.fr x o h n) (key x o h n)⟩
  by_cases m : x ∈ ρ1
  · exact a.new x m n
  · cases e : H x with
    | none => rfl
    | some o =>
      have h1 := a.fr x o e n
      have h2 := b.new x h m
      rw [h1] at h2; cases h2
theorem Rv.to (R : Rel c ρ A H) (s : St' ρ H ρ' H') {d : D} {v : V} (r : Rv c ρ H d v) : Rv c ρ' H' d v := r.mono s.pre (R.frz s.fr)
theorem Rvs.to (R : Rel c ρ A H) (s : St' ρ H ρ' H') {d : List D} {v : List V} (r : Rvs c ρ H d v) : Rvs c ρ' H' d v := r.mono s.pre (R.frz s.fr)

/-- a thing is laid that is none of the objects -/
theorem Rel.laid (R : Rel c ρ A H) {p : Addr} {ho : HO} (n : H p = none) : Rel c ρ A (upd H p ho) ∧ St' ρ H ρ (upd H p ho) ∧ p ∉ ρ := by
  have hp : p ∉ ρ := fun m => by
    obtain ⟨ho, h1, _⟩ := R.at m
    rw [n] at h1; cases h1
  have fr : ∀ b o, H b = some o → upd H p ho b = some o := fun b o h => by rw [upd_ne (ne_of_none h n)]; exact h
  have s : St' ρ H ρ (upd H p ho) := ⟨List.prefix_refl _, fun b h n => absurd h n, fun b o h _ => fr b o h⟩
  refine ⟨⟨R.len, R.nd, fun k o a h1 h2 => ?_⟩, s, hp⟩
  obtain ⟨hh, h3, h4⟩ := R.obj k o a h1 h2
  exact ⟨hh, fr a _ h3, h4.mono s.pre (R.frz s.fr)⟩
/-- a new object -/
theorem Rel.made (R : Rel c ρ A H) {p : Addr} {ho : HO} {o : O} (n : H p = none) (r : Ro c ρ H p o ho) :
    Rel c (ρ ++ [p]) (A ++ [o]) (upd H p ho) ∧ St' ρ H (ρ ++ [p]) (upd H p ho) := by
  obtain ⟨R1, s, hp⟩ := R.laid (ho := ho) n
  have pre : ρ <+: ρ ++ [p] := List.prefix_append _ _
  have mono : ∀ {a : Addr} {o : O} {ho' : HO}, Ro c ρ H a o ho' → Ro c (ρ ++ [p]) (upd H p ho) a o ho' := fun h => h.mono pre (R.frz s.fr)
  refine ⟨⟨by rw [List.length_append, List.length_append, R.len]; rfl, ?_, fun k u a h1 h2 => ?_⟩, pre, fun b h m => ?_, s.fr⟩
  · refine List.nodup_append.mpr ⟨R.nd, by simp, fun a ha b hb e => ?_⟩
    simp at hb
    subst hb e
    exact hp ha
  · by_cases hk : k < A.length
    · rw [List.getElem?_append_left hk] at h1
      rw [List.getElem?_append_left (by rw [R.len]; exact hk)] at h2
      obtain ⟨hh, h3, h4⟩ := R.obj k u a h1 h2
      exact ⟨hh, by rw [upd_ne (ne_of_none h3 n)]; exact h3, mono h4⟩
    · have e : k = A.length := by
        have := (List.getElem?_eq_some_iff.mp h1).1
        rw [List.length_append, List.length_singleton] at this
        omega
      subst e
      rw [List.getElem?_append_right (Nat.le_refl _), Nat.sub_self] at h1
      rw [List.getElem?_append_right (by rw [R.len]; exact Nat.le_refl _), R.len, Nat.sub_self] at h2
      simp at h1 h2
      subst h1 h2
      exact ⟨ho, upd_same, mono r⟩
  · rcases List.mem_append.mp h with h | h
    · exact absurd h m
    · simp at h
      rw [h]; exact n
/-- an object changes -/
theorem Rel.wrote (R : Rel c ρ A H) {n : Nat} {a : Addr} {ho : HO} {o : O} (ha : ρ[n]? = some a) (r : Ro c ρ H a o ho) :
    Rel c ρ (A.set n o) (upd H a ho) ∧ St' ρ H ρ (upd H a ho) := by
  have am : a ∈ ρ := List.mem_of_getElem? ha
  have fr : ∀ b o, H b = some o → b ∉ ρ → upd H a ho b = some o := fun b o h m => by
    rw [upd_ne (fun e => m (by rw [e]; exact am))]
    exact h
  have s : St' ρ H ρ (upd H a ho) := ⟨List.prefix_refl _, fun b h n => absurd h n, fr⟩
  refine ⟨⟨by rw [List.length_set, R.len], R.nd, fun k u b h1 h2 => ?_⟩, s⟩
  by_cases hk : n = k
  · subst hk
    rw [ha] at h2; cases h2
    have hl : n < A.length := by rw [← R.len]; exact (List.getElem?_eq_some_iff.mp ha).1
    rw [List.getElem?_set_self hl] at h1; cases h1
    exact ⟨ho, upd_same, r.mono s.pre (R.frz s.fr)⟩
  · rw [List.getElem?_set_ne hk] at h1
    obtain ⟨hh, h3, h4⟩ := R.obj k u b h1 h2
    have hb : b ≠ a := fun e => by
      subst e
      exact hk ((List.getElem?_inj (List.getElem?_eq_some_iff.mp ha).1 R.nd).mp (ha.trans h2.symm))
    exact ⟨hh, by rw [upd_ne hb]; exact h3, h4.mono s.pre (R.frz s.fr)⟩
theorem Rel.ref (R : Rel c ρ A H) {n : Nat} {a : Addr} {o : O} (hA : A[n]? = some o) (r : Rv c ρ H (.ref n) (.ref a)) : ρ[n]? = some a ∧ ∃ ho, H a = some ho ∧ Ro c ρ H a o ho := by
  cases r with
  | ref h => exact ⟨h, R.obj n o a hA h⟩
theorem Rel.lst (R : Rel c ρ A H) {n : Nat} {v : V} {xs : List D} (hA : A[n]? = some (.lst xs)) (r : Rv c ρ H (.ref n) v) : ∃ a vs, v = .ref a ∧ ρ[n]? = some a ∧ H a = some (.lst vs) ∧ Rvs c ρ H xs vs := by
  cases r with
  | ref h =>
    obtain ⟨ho, h1, vs, rfl, h3⟩ := R.obj n _ _ hA h
    exact ⟨_, vs, rfl, h, h1, h3⟩
end

structure Rsl (c : Cn) (ρ : List Addr) (H : Hp) (σd : Sl) (σ : L2.St) : Prop where
  len : σd.length = σ.length
  get : ∀ (i : Nat) (d : D), σd[i]? = some (some d) → ∃ v, σ[i]? = some (some v) ∧ Rv c ρ H d v
section
variable {c : Cn} {ρ ρ' : List Addr} {A : Hh} {H H' : Hp} {σd : Sl} {σ : L2.St}
theorem Rsl.to (S : Rsl c ρ H σd σ) (R : Rel c ρ A H) (s : St' ρ H ρ' H') : Rsl c ρ' H' σd σ := ⟨S.len, fun i d h => by
  obtain ⟨v, h1, h2⟩ := S.get i d h
  exact ⟨v, h1, h2.to R s⟩⟩
theorem Rsl.set (S : Rsl c ρ H σd σ) {d : D} {v : V} (r : Rv c ρ H d v) (i : Nat) : Rsl c ρ H (σd.set i (some d)) (σ.set i (some v)) := by
  refine ⟨by rw [List.length_set, List.length_set, S.len], fun j e h => ?_⟩
  by_cases hij : i = j
  · subst hij
    by_cases hl : i < σd.length
    · rw [List.getElem?_set_self hl] at h
      cases h
      exact ⟨v, by rw [List.getElem?_set_self (by rw [← S.len]; exact hl)], r⟩
    · rw [List.getElem?_eq_none (by rw [List.length_set]; omega)] at h
      cases h
  · rw [List.getElem?_set_ne hij] at h
    rw [List.getElem?_set_ne hij]
    exact S.get j e h
theorem Rsl.setNone (S : Rsl c ρ H σd σ) (i : Nat) : Rsl c ρ H (σd.set i none) (σ.set i none) := by
  refine ⟨by rw [List.length_set, List.length_set, S.len], fun j e h => ?_⟩
  by_cases hij : i = j
  · subst hij
    by_cases hl : i < σd.length
    · rw [List.getElem?_set_self hl] at h
      cases h
    · rw [List.getElem?_eq_none (by rw [List.length_set]; omega)] at h
      cases h
  · rw [List.getElem?_set_ne hij] at h
    rw [List.getElem?_set_ne hij]
    exact S.get j e h
theorem Rsl.wipe (S : Rsl c ρ H σd σ) : ∀ vs : List Nat, Rsl c ρ H (wipeD σd vs) (L2.wipe σ vs)
  | [] => S
  | v :: vs => (Rsl.wipe S vs).setNone v
end

/-- how an exception lies -/
def IsX (c : Cn) (x : Exn) (cls : Value) (d : Option Addr) : Prop := cls = .ref (c.eA x.c) ∧ d = none
/-- a result leads on -/
def Ld (c : Cn) (ρ : List Addr) (H : Hp) (σ : L2.St) (W : WX) {α : Type} (r : Option (R α)) (P : α → List Addr → Hh → Hp → Prop) : Prop :=
  match r with
  | none => False
  | some (.ok a A') => ∀ ρ' H', Rel c ρ' A' H' → St' ρ H ρ' H' → P a ρ' A' H'
  | some (.ex x A') => ∀ ρ' H', Rel c ρ' A' H' → St' ρ H ρ' H' → ∀ cls d, IsX c x cls d → W cls d σ H'
section
variable {c : Cn} {ρ ρ' : List Addr} {A : Hh} {H H' : Hp} {σ : L2.St} {W : WX}
theorem Ld.bind {α β : Type} {m : Option (R α)} {f : α → Hh → Option (R β)} {P : β → List Addr → Hh → Hp → Prop} (h : Ld c ρ H σ W (R.andThen m f) P) :
    Ld c ρ H σ W m fun a ρ1 A1 H1 => Ld c ρ1 H1 σ W (f a A1) P := by
  match m, h with
  | none, h => exact h
  | some (.ex x A'), h => exact h
  | some (.ok a A1), h =>
    intro ρ1 H1 R1 s1
    have h2 : Ld c ρ H σ W (f a A1) P := h
    revert h2
    cases f a A1 with
    | none => exact fun h2 => h2
    | some r =>
      cases r with
      | ok b A2 => exact fun h2 ρ2 H2 R2 s2 => h2 ρ2 H2 R2 (s1.trans s2)
      | ex x A2 => exact fun h2 ρ2 H2 R2 s2 => h2 ρ2 H2 R2 (s1.trans s2)
theorem Ld.imp {α : Type} {m : Option (R α)} {P P' : α → List Addr → Hh → Hp → Prop} (h : Ld c ρ H σ W m P) (i : ∀ a ρ' A' H', Rel c ρ' A' H' → St' ρ H ρ' H' → P a ρ' A' H' → P' a ρ' A' H') : Ld c ρ H σ W m P' := by
  match m, h with
  | none, h => exact h
  | some (.ex x A'), h => exact h
  | some (.ok a A'), h => exact fun ρ' H' R' s' => i a ρ' A' H' R' s' (h ρ' H' R' s')
theorem Ld.no {α : Type} {P : α → List Addr → Hh → Hp → Prop} (h : Ld c ρ H σ W (none : Option (R α)) P) : False := h
theorem Ld.ok {α : Type} {a : α} {P : α → List Addr → Hh → Hp → Prop} (R1 : Rel c ρ A H) (h : Ld c ρ H σ W (some (.ok a A)) P) : P a ρ A H := h ρ H R1 .refl
end

/-- a value, or a tuple that is only looked into -/
def Rw (c : Cn) (ρ : List Addr) (H : Hp) (d : D) (v : V) : Prop := Rv c ρ H d v ∨ ∃ a xs vs, d = .tup xs ∧ v = .ref a ∧ SqT c.K H a vs ∧ Rvs c ρ H xs vs
theorem Rw.tup {c : Cn} {ρ : List Addr} {H : Hp} {xs : List D} {v : V} (r : Rw c ρ H (.tup xs) v) : ∃ a vs, v = .ref a ∧ SqT c.K H a vs ∧ Rvs c ρ H xs vs := by
  rcases r with r | ⟨a, ys, vs, e1, e2, h, t⟩
  · cases r with
    | tup h t => exact ⟨_, _, rfl, h.sq, t⟩
  · cases e1
    exact ⟨a, vs, e2, h, t⟩
/-- an expression's reading by its meaning -/
def tE (c : Cn) (W : WX) (f : Ev D) : TE := fun σ H Q => ∃ ρ A σd, Rel c ρ A H ∧ Rsl c ρ H σd σ ∧ Ld c ρ H σ W (f σd A) fun d ρ' _ H' => ∀ v, Rv c ρ' H' d v → Q v H'
def tT (c : Cn) (W : WX) (f : Ev Bool) : TT := fun σ H Q => ∃ ρ A σd, Rel c ρ A H ∧ Rsl c ρ H σd σ ∧ Ld c ρ H σ W (f σd A) fun b _ _ H' => Q b H'
def tA (c : Cn) (W : WX) (f : Ev (List D)) : TA := fun σ H Q => ∃ ρ A σd, Rel c ρ A H ∧ Rsl c ρ H σd σ ∧ Ld c ρ H σ W (f σd A) fun ds ρ' _ H' => ∀ vs, Rvs c ρ' H' ds vs → Q vs H'
def tP (c : Cn) (W : WX) (f : Ev (Option Int)) : TO := fun σ H Q => ∃ ρ A σd, Rel c ρ A H ∧ Rsl c ρ H σd σ ∧ Ld c ρ H σ W (f σd A) fun o _ _ H' => Q o H'
/-- a row of things stands at a: a tuple; a list that never changes; one that none of the objects is -/
def Stb (c : Cn) (ρ : List Addr) (H : Hp) (a : Addr) (vs : List V) : Prop := FzT c.K H a vs ∨ FzL c.K H a vs ∨ (H a = some (.lst vs) ∧ a ∉ ρ)
/-- .. or an object's, watched -/
def Stw (c : Cn) (ρ : List Addr) (H : Hp) (a : Addr) (vs : List V) (xs : List D) (w : Wt) : Prop := (Stb c ρ H a vs ∧ w = []) ∨ ∃ n, ρ[n]? = some a ∧ H a = some (.lst vs) ∧ w = [(n, xs)]
def tQ (c : Cn) (W : WX) (f : Ev (List D)) : TE := fun σ H Q => ∃ ρ A σd, Rel c ρ A H ∧ Rsl c ρ H σd σ ∧ Ld c ρ H σ W (f σd A) fun ds ρ' _ H' => ∀ a vs, Stb c ρ' H' a vs → Rvs c ρ' H' ds vs → Q (.ref a) H'
/-- a new list alone -/
def tN (c : Cn) (W : WX) (f : Ev (List D)) : TE := fun σ H Q => ∃ ρ A σd, Rel c ρ A H ∧ Rsl c ρ H σd σ ∧ Ld c ρ H σ W (f σd A) fun ds ρ' _ H' => ∀ a vs, H' a = none → Rvs c ρ' H' ds vs → Q (.ref a) (upd H' a (.lst vs))
def tU (c : Cn) (W : WX) (f : Ev (List D × Wt)) : TE := fun σ H Q => ∃ ρ A σd, Rel c ρ A H ∧ Rsl c ρ H σd σ ∧ Ld c ρ H σ W (f σd A) fun p ρ' _ H' => ∀ a vs, Stw c ρ' H' a vs p.1 p.2 → Rvs c ρ' H' p.1 vs → Q (.ref a) H'
end Z

noncomputable section
namespace Z
open PySem PySem.Spec PyProof.Rows L2

theorem _root_.L2.PE.zsel {X : Cx} {e : Expr} {t : TE} (h : ∀ σ H Q, t σ H Q → ∃ t', PE X e t' ∧ t' σ H Q) : PE X e t :=
  ⟨fun pins s σ H Q I w => let ⟨_, p, q⟩ := h σ H Q w; p.run pins s σ H Q I q⟩
theorem _root_.L2.PE.zm {X : Cx} {e : Expr} {t t' : TE} (p : PE X e t') (h : ∀ σ H Q, t σ H Q → t' σ H Q) : PE X e t := ⟨fun pins s σ H Q I w => p.run pins s σ H Q I (h σ H Q w)⟩
theorem _root_.L2.PT.zm {X : Cx} {e : Expr} {t t' : TT} (p : PT X e t') (h : ∀ σ H Q, t σ H Q → t' σ H Q) : PT X e t := ⟨fun pins s σ H Q I w => p.run pins s σ H Q I (h σ H Q w)⟩
theorem _root_.L2.PW.zm {X : Cx} {e : Expr} {t t' : TT} (p : PW X e t') (h : ∀ σ H Q, t σ H Q → t' σ H Q) : PW X e t := ⟨fun wh pins s σ H Q I w => p.run wh pins s σ H Q I (h σ H Q w)⟩
theorem _root_.L2.PA.zm {X : Cx} {e : List Expr} {t t' : TA} (p : PA X e t') (h : ∀ σ H Q, t σ H Q → t' σ H Q) : PA X e t := ⟨fun pos pins s σ H Q I w => p.run pos pins s σ H Q I (h σ H Q w)⟩
theorem _root_.L2.PO.zm {X : Cx} {e : Option Expr} {t t' : TO} (p : PO X e t') (h : ∀ σ H Q, t σ H Q → t' σ H Q) : PO X e t := ⟨fun pins s σ H Q I w => p.run pins s σ H Q I (h σ H Q w)⟩

section
variable {c : Cn} {ρ ρ' : List Addr} {A : Hh} {H H' : Hp} {σd : Sl} {σ : L2.St} {W : WX}
/-- one operand, then more -/
theorem one {β : Type} {fa : Ev D} {k : D → M β} {P : β → List Addr → Hh → Hp → Prop} {Q1 : V → Hp → Prop} (R : Rel c ρ A H) (S : Rsl c ρ H σd σ) (h : Ld c ρ H σ W (mb (fa σd) k A) P)
    (i : ∀ x v ρ1 A1 H1, Rel c ρ1 A1 H1 → St' ρ H ρ1 H1 → Rsl c ρ1 H1 σd σ → Rv c ρ1 H1 x v → Ld c ρ1 H1 σ W (k x A1) P → Q1 v H1) : tE c W fa σ H Q1 :=
  ⟨ρ, A, σd, R, S, (Ld.bind h).imp fun x ρ1 A1 H1 R1 s1 h1 v rv => i x v ρ1 A1 H1 R1 s1 (S.to R s1) rv h1⟩
theorem two {β : Type} {fa fb : Ev D} {k : D → D → M β} {P : β → List Addr → Hh → Hp → Prop} {Q2 : V → V → Hp → Prop} (R : Rel c ρ A H) (S : Rsl c ρ H σd σ) (h : Ld c ρ H σ W (mb (fa σd) (fun x => mb (fb σd) fun y => k x y) A) P)
    (i : ∀ x y v u ρ2 A2 H2, Rel c ρ2 A2 H2 → St' ρ H ρ2 H2 → Rsl c ρ2 H2 σd σ → Rv c ρ2 H2 x v → Rv c ρ2 H2 y u → Ld c ρ2 H2 σ W (k x y A2) P → Q2 v u H2) :
    tE c W fa σ H fun v H1 => tE c W fb σ H1 fun u H2 => Q2 v u H2 :=
  one R S h fun x v ρ1 A1 H1 R1 s1 S1 rv h1 => one R1 S1 h1 fun y u ρ2 A2 H2 R2 s2 S2 ru h2 => i x y v u ρ2 A2 H2 R2 (s1.trans s2) S2 (rv.to R1 s2) ru h2
theorem oneT {β : Type} {fa : Ev Bool} {k : Bool → M β} {P : β → List Addr → Hh → Hp → Prop} {Q1 : Bool → Hp → Prop} (R : Rel c ρ A H) (S : Rsl c ρ H σd σ) (h : Ld c ρ H σ W (mb (fa σd) k A) P)
    (i : ∀ x ρ1 A1 H1, Rel c ρ1 A1 H1 → St' ρ H ρ1 H1 → Rsl c ρ1 H1 σd σ → Ld c ρ1 H1 σ W (k x A1) P → Q1 x H1) : tT c W fa σ H Q1 :=
  ⟨ρ, A, σd, R, S, (Ld.bind h).imp fun x ρ1 A1 H1 R1 s1 h1 => i x ρ1 A1 H1 R1 s1 (S.to R s1) h1⟩
theorem oneA {β : Type} {fa : Ev (List D)} {k : List D → M β} {P : β → List Addr → Hh → Hp → Prop} {Q1 : List V → Hp → Prop} (R : Rel c ρ A H) (S : Rsl c ρ H σd σ) (h : Ld c ρ H σ W (mb (fa σd) k A) P)
    (i : ∀ x v ρ1 A1 H1, Rel c ρ1 A1 H1 → St' ρ H ρ1 H1 → Rsl c ρ1 H1 σd σ → Rvs c ρ1 H1 x v → Ld c ρ1 H1 σ W (k x A1) P → Q1 v H1) : tA c W fa σ H Q1 :=
  ⟨ρ, A, σd, R, S, (Ld.bind h).imp fun x ρ1 A1 H1 R1 s1 h1 v rv => i x v ρ1 A1 H1 R1 s1 (S.to R s1) rv h1⟩
theorem oneQ {β : Type} {fa : Ev (List D)} {k : List D → M β} {P : β → List Addr → Hh → Hp → Prop} {Q1 : V → Hp → Prop} (R : Rel c ρ A H) (S : Rsl c ρ H σd σ) (h : Ld c ρ H σ W (mb (fa σd) k A) P)
    (i : ∀ xs a vs ρ1 A1 H1, Rel c ρ1 A1 H1 → St' ρ H ρ1 H1 → Rsl c ρ1 H1 σd σ → Stb c ρ1 H1 a vs → Rvs c ρ1 H1 xs vs → Ld c ρ1 H1 σ W (k xs A1) P → Q1 (.ref a) H1) : tQ c W fa σ H Q1 :=
  ⟨ρ, A, σd, R, S, (Ld.bind h).imp fun x ρ1 A1 H1 R1 s1 h1 a vs hs rv => i x a vs ρ1 A1 H1 R1 s1 (S.to R s1) hs rv h1⟩
theorem oneU {β : Type} {fa : Ev (List D × Wt)} {k : List D × Wt → M β} {P : β → List Addr → Hh → Hp → Prop} {Q1 : V → Hp → Prop} (R : Rel c ρ A H) (S : Rsl c ρ H σd σ) (h : Ld c ρ H σ W (mb (fa σd) k A) P)
    (i : ∀ p a vs ρ1 A1 H1, Rel c ρ1 A1 H1 → St' ρ H ρ1 H1 → Rsl c ρ1 H1 σd σ → Stw c ρ1 H1 a vs p.1 p.2 → Rvs c ρ1 H1 p.1 vs → Ld c ρ1 H1 σ W (k p A1) P → Q1 (.ref a) H1) : tU c W fa σ H Q1 :=
  ⟨ρ, A, σd, R, S, (Ld.bind h).imp fun x ρ1 A1 H1 R1 s1 h1 a vs hs rv => i x a vs ρ1 A1 H1 R1 s1 (S.to R s1) hs rv h1⟩
theorem oneP {β : Type} {fa : Ev (Option Int)} {k : Option Int → M β} {P : β → List Addr → Hh → Hp → Prop} {Q1 : Option Int → Hp → Prop} (R : Rel c ρ A H) (S : Rsl c ρ H σd σ) (h : Ld c ρ H σ W (mb (fa σd) k A) P)
    (i : ∀ x ρ1 A1 H1, Rel c ρ1 A1 H1 → St' ρ H ρ1 H1 → Rsl c ρ1 H1 σd σ → Ld c ρ1 H1 σ W (k x A1) P → Q1 x H1) : tP c W fa σ H Q1 :=
  ⟨ρ, A, σd, R, S, (Ld.bind h).imp fun x ρ1 A1 H1 R1 s1 h1 => i x ρ1 A1 H1 R1 s1 (S.to R s1) h1⟩
theorem SZ_le : SZ ≤ sizeLine := by rw [sizeLine_eq]; decide
theorem SZ_63 : SZ < 2 ^ 62 := by decide
theorem Stb.sq {a : Addr} {vs : List V} (h : Stb c ρ H a vs) : SqL c.K H a vs ∨ SqT c.K H a vs := by
  rcases h with h | h | ⟨h, _⟩
  · exact .inr h.sq
  · exact .inl h.sq
  · exact .inl (.of h)
theorem Stw.sq {a : Addr} {vs : List V} {xs : List D} {w : Wt} (h : Stw c ρ H a vs xs w) : SqL c.K H a vs ∨ SqT c.K H a vs := by
  rcases h with ⟨h, _⟩ | ⟨n, _, h, _⟩
  · exact h.sq
  · exact .inl (.of h)
/-- a tuple is laid -/
theorem newTup {Q : VK} {xs : List D} {vs : List V} (R : Rel c ρ A H) (r : Rvs c ρ H xs vs) (h : Ld c ρ H σ W (some (.ok (.tup xs) A)) fun d ρ' _ H' => ∀ v, Rv c ρ' H' d v → Q v H') :
    ∀ p o, H p = none → o.dict = none → Q (.ref p) (upd H p (.frz o (.tup vs))) := fun p o n hd => by
  obtain ⟨R1, s1, _⟩ := R.laid (ho := .frz o (.tup vs)) n
  exact h ρ _ R1 s1 _ (.tup (.inl ⟨o, upd_same, hd⟩) (r.to R s1))
/-- a value that stood ahead -/
theorem Ld.old {Q : VK} {d : D} {v : V} (R : Rel c ρ A H) (h : Ld c ρ H σ W (some (.ok d A)) fun d ρ' _ H' => ∀ v, Rv c ρ' H' d v → Q v H') (r : Rv c ρ H d v) : Q v H := h ρ H R .refl v r
theorem Ld.oldB {Q : Bool → Hp → Prop} {b : Bool} (R : Rel c ρ A H) (h : Ld c ρ H σ W (some (.ok b A)) fun b _ _ H' => Q b H') : Q b H := h ρ H R .refl
end

section
variable {X : Cx} {c : Cn} {W : WX} {a b d : Expr} {fa fb fd : Ev D} {pos p : Pos} {x : Str} {es : List Expr} {fs : Ev (List D)}

theorem z_var (i : Nat) {x : Str} {pos : Pos} (hN : X.N[i]? = some x := by rfl) (hv : Vis X.env.scope x := by first | exact Or.inl rfl | exact Or.inr (Or.inl rfl) | exact Or.inr (Or.inr rfl)) (hd : (x == ("__debug__" : Str)) = false := by decide)
    (hcd : (x == ("__classdict__" : Str)) = false := by decide) : PE X (.Name x pos) (tE c W (zvar i)) :=
  (pv i hN hv hd hcd).zm fun σ H Q ⟨ρ, A, σd, R, S, h⟩ => by
    unfold zvar at h
    split at h
    · rename_i e
      obtain ⟨v, h1, h2⟩ := S.get i _ e
      exact ⟨v, h1, h.old R h2⟩
    · exact h.elim
theorem z_int {i : Int} {j : Nat} : PE X (.Constant (.int i) j pos) (tE c W (zc (.int i))) := pe_int.zm fun σ H Q ⟨ρ, A, σd, R, S, h⟩ => h.old R (.int i)
theorem z_bl {k : Bool} {j : Nat} : PE X (.Constant (.bool k) j pos) (tE c W (zc (.bl k))) := pe_bl.zm fun σ H Q ⟨ρ, A, σd, R, S, h⟩ => h.old R (.bl k)
theorem z_non {j : Nat} : PE X (.Constant .none j pos) (tE c W (zc .non)) := pe_non.zm fun σ H Q ⟨ρ, A, σd, R, S, h⟩ => h.old R .non
theorem z_str {y : Str} {j : Nat} : PE X (.Constant (.str y) j pos) (tE c W (zc (.str y))) := pe_str.zm fun σ H Q ⟨ρ, A, σd, R, S, h⟩ => h.old R (.str y)
/-- an int of the module -/
theorem z_gint {i : Int} (hg : Gl X x) (hm : ∃ t, X.mg x = some (.int i t)) (hd : (x == ("__debug__" : Str)) = false := by decide) : PE X (.Name x pos) (tE c W (zc (.int i))) := by
  obtain ⟨t, hm⟩ := hm
  exact (pe_glob (v := .int i) hg hm ⟨t, rfl⟩ hd).zm fun σ H Q ⟨ρ, A, σd, R, S, h⟩ => h.old R (.int i)

theorem z_add (ha : PE X a (tE c W fa)) (hb : PE X b (tE c W fb)) (hK : c.K = X.K) : PE X (.BinOp a .Add b pos) (tE c W (zbin .add fa fb)) := by
  refine (pe_op (op_add.or op_catF) ha hb).zm fun σ H Q ⟨ρ, A, σd, R, S, h⟩ => two R S h fun x y v u ρ2 A2 H2 R2 s2 S2 rv ru h2 => ?_
  cases rv <;> cases ru <;> first | exact False.elim h2 | skip
  · rename_i i j
    exact .inl ⟨i, j, rfl, rfl, Ld.old R2 h2 (.int _)⟩
  · rename_i xs vs1 t1 r1 a2 ys vs2 t2 r2
    have h3 : Ld c ρ2 H2 σ W (if xs.length + ys.length ≤ SZ then some (Z.R.ok (D.tup (xs ++ ys)) A2) else none) _ := h2
    split at h3
    · rename_i hz
      have l1 := r1.length
      have l2 := r2.length
      have hzl := SZ_le
      refine .inr ⟨_, _, _, _, rfl, rfl, by rw [← hK]; exact t1.sq, by rw [← hK]; exact t2.sq, by omega, fun e => ?_, fun e e2 => ?_, fun _ _ => newTup R2 (r1.append r2) h3⟩
      · subst e
        have : xs = [] := List.length_eq_zero_iff.mp (by simpa using l1)
        subst this
        exact Ld.old R2 h3 (Rv.tup t2 r2)
      · subst e2
        have : ys = [] := List.length_eq_zero_iff.mp (by simpa using l2)
        subst this
        rw [List.append_nil] at h3
        exact Ld.old R2 h3 (Rv.tup t1 r1)
    · exact h3.elim
theorem z_sub (ha : PE X a (tE c W fa)) (hb : PE X b (tE c W fb)) : PE X (.BinOp a .Sub b pos) (tE c W (zbin .sub fa fb)) := by
  refine (pe_op op_sub ha hb).zm fun σ H Q ⟨ρ, A, σd, R, S, h⟩ => two R S h fun x y v u ρ2 A2 H2 R2 s2 S2 rv ru h2 => ?_
  cases rv <;> cases ru <;> first | exact False.elim h2 | skip
  exact ⟨_, _, rfl, rfl, Ld.old R2 h2 (.int _)⟩
set_option exponentiation.threshold 4000 in
theorem small_lt {i : Int} (h : small i = true) : i.natAbs < 2 ^ 3900 := by
  rw [small_def] at h
  exact of_decide_eq_true h
theorem ite_none {α : Type} {c0 : Bool} {r : R α} {P : α → List Addr → Hh → Hp → Prop} {c : Cn} {ρ : List Addr} {H : Hp} {σ : L2.St} {W : WX} (h : Ld c ρ H σ W (if c0 = true then some r else none) P) : c0 = true ∧ Ld c ρ H σ W (some r) P := by
  cases c0 with
  | true => exact ⟨rfl, h⟩
  | false => exact False.elim h
theorem z_mul (hK : c.K = X.K) (ha : PE X a (tE c W fa)) (hb : PE X b (tE c W fb)) : PE X (.BinOp a .Mult b pos) (tE c W (zbin .mul fa fb)) := by
  refine (pe_op (op_mulX.or op_repF) ha hb).zm fun σ H Q ⟨ρ, A, σd, R, S, h⟩ => two R S h fun x y v u ρ2 A2 H2 R2 s2 S2 rv ru h2 => ?_
  cases rv <;> cases ru <;> first | exact False.elim h2 | skip
  · obtain ⟨e, h3⟩ := ite_none h2
    rw [Bool.and_eq_true] at e
    exact .inl ⟨_, _, rfl, rfl, mulx_ok (small_lt e.1) (small_lt e.2) (by decide), Ld.old R2 h3 (.int _)⟩
  · rename_i a1 xs vs t r k
    refine .inr ⟨_, k, _, rfl, rfl, by rw [← hK]; exact t.sq, ?_⟩
    have h3 : Ld c ρ2 H2 σ W (if k = 1 then some (Z.R.ok (D.tup xs) A2) else if 2 ≤ k ∧ k ≤ 1000 ∧ xs.length ≤ 1000 ∧ xs ≠ [] then some (Z.R.ok (D.tup (List.replicate k.toNat xs).flatten) A2) else none) _ := h2
    by_cases hk : k = 1
    · rw [if_pos hk] at h3
      exact .inl ⟨hk, Ld.old R2 h3 (.tup t r)⟩
    · rw [if_neg hk] at h3
      by_cases hk2 : 2 ≤ k ∧ k ≤ 1000 ∧ xs.length ≤ 1000 ∧ xs ≠ []
      · rw [if_pos hk2] at h3
        refine .inr ⟨fun e => ?_, hk2.1, hk2.2.1, by rw [← r.length]; exact hk2.2.2.1, newTup R2 (r.rep _) h3⟩
        subst e
        have := r.length
        exact hk2.2.2.2 (List.eq_nil_of_length_eq_zero this)
      · rw [if_neg hk2] at h3
        exact h3.elim
theorem z_fdiv (ha : PE X a (tE c W fa)) (hb : PE X b (tE c W fb)) : PE X (.BinOp a .FloorDiv b pos) (tE c W (zbin .fdiv fa fb)) := by
  refine (pe_op op_fdivW ha hb).zm fun σ H Q ⟨ρ, A, σd, R, S, h⟩ => two R S h fun x y v u ρ2 A2 H2 R2 s2 S2 rv ru h2 => ?_
  cases rv <;> cases ru <;> first | exact False.elim h2 | skip
  obtain ⟨e, h3⟩ := ite_none h2
  rw [Bool.and_eq_true] at e
  exact ⟨_, _, rfl, rfl, wide_div (of_decide_eq_true e.1) (small_lt e.2) (by decide) (by decide), Ld.old R2 h3 (.int _)⟩
theorem z_mod (ha : PE X a (tE c W fa)) (hb : PE X b (tE c W fb)) : PE X (.BinOp a .Mod b pos) (tE c W (zbin .mod fa fb)) := by
  refine (pe_op op_mod ha hb).zm fun σ H Q ⟨ρ, A, σd, R, S, h⟩ => two R S h fun x y v u ρ2 A2 H2 R2 s2 S2 rv ru h2 => ?_
  cases rv <;> cases ru <;> first | exact False.elim h2 | skip
  obtain ⟨e, h3⟩ := ite_none h2
  exact ⟨_, _, rfl, rfl, of_decide_eq_true e, Ld.old R2 h3 (.int _)⟩
theorem z_pow (ha : PE X a (tE c W fa)) (hb : PE X b (tE c W fb)) : PE X (.BinOp a .Pow b pos) (tE c W (zbin .pow fa fb)) := by
  refine (pe_op op_pow ha hb).zm fun σ H Q ⟨ρ, A, σd, R, S, h⟩ => two R S h fun x y v u ρ2 A2 H2 R2 s2 S2 rv ru h2 => ?_
  cases rv <;> cases ru <;> first | exact False.elim h2 | skip
  obtain ⟨e, h3⟩ := ite_none h2
  rw [Bool.and_eq_true, Bool.and_eq_true] at e
  exact ⟨_, _, rfl, rfl, ⟨of_decide_eq_true e.1.1, of_decide_eq_true e.1.2, of_decide_eq_true e.2⟩, Ld.old R2 h3 (.int _)⟩
theorem z_neg (ha : PE X a (tE c W fa)) : PE X (.UnaryOp .USub a pos) (tE c W (zneg fa)) := by
  refine (pe_un un_neg ha).zm fun σ H Q ⟨ρ, A, σd, R, S, h⟩ => one R S h fun x v ρ2 A2 H2 R2 s2 S2 rv h2 => ?_
  cases rv <;> first | exact False.elim h2 | skip
  exact ⟨_, rfl, Ld.old R2 h2 (.int _)⟩
end
end Z

noncomputable section
set_option maxHeartbeats 2000000
namespace Z
open PySem PySem.Spec PyProof.Rows L2

mutual
theorem Rv.dp {c : Cn} {ρ : List Addr} {H : Hp} : ∀ {d : D} {v : V} {p : PyData}, Rv c ρ H d v → D.py d = some p → Dp c.K H v p
  | _, _, p, .non, e => by simp only [D.py, Option.some.injEq] at e; subst e; exact .non
  | _, _, p, .bl b, e => by simp only [D.py, Option.some.injEq] at e; subst e; exact .bl b
  | _, _, p, .int i, e => by simp only [D.py, Option.some.injEq] at e; subst e; exact .int i
  | _, _, p, .str x, e => by simp only [D.py, Option.some.injEq] at e; subst e; exact .str x
  | .tup xs, _, p, .tup h r, e => by
    cases q : D.pys xs with
    | none => simp [D.py, q] at e
    | some ps =>
      simp only [D.py, q, Option.map_some, Option.some.injEq] at e
      subst e
      exact .tup h.sq (Rvs.dp r q)
  | .lst xs, _, p, .lst h r, e => by
    cases q : D.pys xs with
    | none => simp [D.py, q] at e
    | some ps =>
      simp only [D.py, q, Option.map_some, Option.some.injEq] at e
      subst e
      exact .lst h.sq (Rvs.dp r q)
  | .ref n, _, p, .ref h, e => by simp [D.py] at e
  | .exc n, _, p, .exc h h2, e => by simp [D.py] at e
  | .emp, _, p, .emp h h2, e => by simp [D.py] at e
theorem Rvs.dp {c : Cn} {ρ : List Addr} {H : Hp} : ∀ {ds : List D} {vs : List V} {ps : List PyData}, Rvs c ρ H ds vs → D.pys ds = some ps → DpAll c.K H vs ps
  | [], _, ps, .nil, e => by simp only [D.pys, Option.some.injEq] at e; subst e; exact .nil
  | d :: ds, _, ps, .cons r t, e => by
    cases q : D.py d with
    | none => simp [D.pys, q] at e
    | some p1 =>
      cases q2 : D.pys ds with
      | none => simp [D.pys, q, q2] at e
      | some p2 =>
        simp only [D.pys, q, q2, Option.some.injEq] at e
        subst e
        exact .cons (Rv.dp r q) (Rvs.dp t q2)
end
theorem Rv.dpA {c : Cn} {ρ : List Addr} {A : Hh} {H : Hp} (R : Rel c ρ A H) {d : D} {v : V} {p : PyData} (r : Rv c ρ H d v) (e : pyA A d = some p) : Dp c.K H v p := by
  cases r with
  | ref h =>
    rename_i n a
    simp only [pyA] at e
    split at e
    · rename_i xs hA
      cases q : D.pys xs with
      | none => simp [q] at e
      | some ps =>
        simp only [q, Option.map_some, Option.some.injEq] at e
        subst e
        obtain ⟨ho, h1, vs, rfl, h3⟩ := R.obj _ _ _ hA h
        exact .lst (.of h1) (h3.dp q)
    · cases e
  | non => exact Rv.dp (ρ := ρ) .non e
  | bl b => exact Rv.dp (ρ := ρ) (.bl b) e
  | int i => exact Rv.dp (ρ := ρ) (.int i) e
  | str x => exact Rv.dp (ρ := ρ) (.str x) e
  | tup h t => exact Rv.dp (.tup h t) e
  | lst h t => exact Rv.dp (.lst h t) e
  | exc h t => exact Rv.dp (ρ := ρ) (.exc h t) e
  | emp h t => exact Rv.dp (ρ := ρ) (.emp h t) e

/-- the order of tuples: not the other one ahead -/
theorem lexAt_le : ∀ (ns ms : List Int) (k : Nat) (a b : List Int), (∀ j, ns[j]? = a[k + j]?) → (∀ j, ms[j]? = b[k + j]?) → a.length = k + ns.length → b.length = k + ms.length →
    Ob.lexAt (fun j => decide (a.getD j 0 = b.getD j 0)) (fun j => decide (a.getD j 0 ≤ b.getD j 0)) (decide (a.length ≤ b.length)) k (min ns.length ms.length) = !HT.lexLt ms ns
  | [], [], k, a, b, h1, h2, l1, l2 => by
    simp only [List.length_nil, Nat.min_self, Ob.lexAt_zero, HT.lexLt]
    simp at l1 l2
    simp [l1, l2]
  | [], m :: ms, k, a, b, h1, h2, l1, l2 => by
    simp only [List.length_nil, Nat.zero_min, Ob.lexAt_zero, HT.lexLt]
    simp at l1 l2
    simp; omega
  | n :: ns, [], k, a, b, h1, h2, l1, l2 => by
    simp only [List.length_nil, Nat.min_zero, Ob.lexAt_zero, HT.lexLt]
    simp at l1 l2
    simp; omega
  | n :: ns, m :: ms, k, a, b, h1, h2, l1, l2 => by
    have e : min (n :: ns).length (m :: ms).length = min ns.length ms.length + 1 := by simp only [List.length_cons]; omega
    rw [e, Ob.lexAt_succ]
    have a0 : a.getD k 0 = n := by
      have := h1 0
      simp at this
      rw [List.getD_eq_getElem?_getD, ← this]; rfl
    have b0 : b.getD k 0 = m := by
      have := h2 0
      simp at this
      rw [List.getD_eq_getElem?_getD, ← this]; rfl
    rw [a0, b0, HT.lexLt_cons]
    have ih := lexAt_le ns ms (k + 1) a b (fun j => by have := h1 (j + 1); simp at this; rw [this]; congr 1; omega) (fun j => by have := h2 (j + 1); simp at this; rw [this]; congr 1; omega)
      (by simp at l1; omega) (by simp at l2; omega)
    by_cases q : n = m
    · rw [if_pos (decide_eq_true q), if_pos q.symm, ih]
    · rw [if_neg (by simpa using q), if_neg (fun z => q z.symm)]
      by_cases q2 : n ≤ m
      · have : ¬ m < n := by omega
        simp [q2, this]
      · have : m < n := by omega
        simp [q2, this]
theorem lexAt_le0 (ns ms : List Int) : Ob.lexAt (fun j => decide (ns.getD j 0 = ms.getD j 0)) (fun j => decide (ns.getD j 0 ≤ ms.getD j 0)) (decide (ns.length ≤ ms.length)) 0 (min ns.length ms.length) = !HT.lexLt ms ns :=
  lexAt_le ns ms 0 ns ms (fun j => by simp) (fun j => by simp) (by simp) (by simp)

/-- what a comparison needs -/
def COk (X : Cx) (c : Cn) (op : Cop) (cop : CmpOp) : Prop := ∃ r : R2, OpR X (compareOp cop) r ∧ ∀ ρ A H x y v u (Q : VK) k, Rel c ρ A H → Rv c ρ H x v → Rv c ρ H y u → copD op x y A = some k → Q (.bl k) H → r v u H Q

section
variable {X : Cx} {c : Cn}
theorem cok_lt (hu : X.A.units + 65 < cLine) (hK : c.K = X.K) : COk X c .lt .Lt := by
  refine ⟨_, op_lt.or (op_ltT (by omega)), fun ρ A H x y v u Q k R rv ru e q => ?_⟩
  cases rv <;> cases ru <;> first | (simp [copD, ltI] at e; done) | skip
  · simp only [copD, ltI, Option.some.injEq] at e
    subst e
    exact .inl ⟨_, _, rfl, rfl, q⟩
  · rename_i xs vs t1 r1 a2 ys us t2 r2
    simp only [copD, ltI] at e
    cases e1 : intsOf xs with
    | none => simp [e1] at e
    | some ns =>
      cases e2 : intsOf ys with
      | none => simp [e1, e2] at e
      | some ms =>
        simp only [e1, e2, Option.some.injEq] at e
        subst e
        rw [hK] at t1 t2
        exact .inr ⟨_, _, ns, ms, rfl, rfl, by rw [← r1.ints e1]; exact t1.sq, by rw [← r2.ints e2]; exact t2.sq, q⟩
theorem cok_le (hu : X.A.units + 65 < cLine) (hK : c.K = X.K) : COk X c .le .LtE := by
  refine ⟨_, op_le.or (op_leT (by omega)), fun ρ A H x y v u Q k R rv ru e q => ?_⟩
  cases rv <;> cases ru <;> first | (simp [copD, leI] at e; done) | skip
  · simp only [copD, leI, Option.some.injEq] at e
    subst e
    exact .inl ⟨_, _, rfl, rfl, q⟩
  · rename_i xs vs t1 r1 a2 ys us t2 r2
    simp only [copD, leI] at e
    cases e1 : intsOf xs with
    | none => simp [e1] at e
    | some ns =>
      cases e2 : intsOf ys with
      | none => simp [e1, e2] at e
      | some ms =>
        simp only [e1, e2, Option.some.injEq] at e
        subst e
        rw [hK] at t1 t2
        exact .inr ⟨_, _, ns, ms, rfl, rfl, by rw [← r1.ints e1]; exact t1.sq, by rw [← r2.ints e2]; exact t2.sq, by rw [lexAt_le0]; exact q⟩
theorem cok_gt : COk X c .gt .Gt := by
  refine ⟨_, op_gt, fun ρ A H x y v u Q k R rv ru e q => ?_⟩
  cases rv <;> cases ru <;> first | (simp [copD] at e; done) | skip
  simp only [copD, Option.some.injEq] at e
  subst e
  exact ⟨_, _, rfl, rfl, q⟩
theorem cok_ge : COk X c .ge .GtE := by
  refine ⟨_, op_ge, fun ρ A H x y v u Q k R rv ru e q => ?_⟩
  cases rv <;> cases ru <;> first | (simp [copD] at e; done) | skip
  simp only [copD, Option.some.injEq] at e
  subst e
  exact ⟨_, _, rfl, rfl, q⟩
theorem eqP_ok {p q : Option PyData} {k : Bool} (e : eqP p q = some k) : ∃ a b, p = some a ∧ q = some b ∧ SeqAt.shaped a = true ∧ SeqAt.shaped b = true ∧ k = PyData.eqv a b := by
  unfold eqP at e
  split at e
  · rename_i a b
    split at e
    · rename_i h
      rw [Bool.and_eq_true] at h
      cases e
      exact ⟨a, b, rfl, rfl, h.1, h.2, rfl⟩
    · cases e
  · cases e
theorem eqD_ok {ρ : List Addr} {A : Hh} {H : Hp} {x y : D} {v u : V} {k : Bool} (R : Rel c ρ A H) (rv : Rv c ρ H x v) (ru : Rv c ρ H y u) (e : eqD A x y = some k) :
    (scal v u = true ∧ k = decide (v = u)) ∨ ∃ a b, Dp c.K H v a ∧ Dp c.K H u b ∧ SeqAt.shaped a = true ∧ SeqAt.shaped b = true ∧ k = PyData.eqv a b := by
  have gen : eqP (pyA A x) (pyA A y) = some k → ∃ a b, Dp c.K H v a ∧ Dp c.K H u b ∧ SeqAt.shaped a = true ∧ SeqAt.shaped b = true ∧ k = PyData.eqv a b := fun e => by
    obtain ⟨a, b, h1, h2, h3, h4, h5⟩ := eqP_ok e
    exact ⟨a, b, rv.dpA R h1, ru.dpA R h2, h3, h4, h5⟩
  unfold eqD at e
  split at e
  · cases rv; cases ru; cases e
    exact .inl ⟨rfl, by simp⟩
  · cases rv; cases ru; cases e
    exact .inl ⟨rfl, by simp⟩
  · cases rv; cases ru; cases e
    exact .inl ⟨rfl, by simp⟩
  · exact .inr (gen e)
theorem cok_eq (hu : X.A.units + 65 < cLine) (hK : c.K = X.K) : COk X c .eq .Eq := by
  refine ⟨_, op_eq.or (op_eqD (by omega)), fun ρ A H x y v u Q k R rv ru e q => ?_⟩
  rcases eqD_ok R rv ru e with ⟨h1, rfl⟩ | ⟨a, b, h1, h2, h3, h4, rfl⟩
  · exact .inl ⟨h1, q⟩
  · rw [hK] at h1 h2
    exact .inr ⟨a, b, h1, h2, h3, h4, q⟩
theorem cok_ne (hu : X.A.units + 65 < cLine) (hK : c.K = X.K) : COk X c .ne .NotEq := by
  refine ⟨_, op_ne.or (op_neD (by omega)), fun ρ A H x y v u Q k R rv ru e q => ?_⟩
  cases e2 : eqD A x y with
  | none => simp [copD, e2] at e
  | some j =>
    simp only [copD, e2, Option.map_some, Option.some.injEq] at e
    subst e
    rcases eqD_ok R rv ru e2 with ⟨h1, rfl⟩ | ⟨a, b, h1, h2, h3, h4, rfl⟩
    · exact .inl ⟨h1, q⟩
    · rw [hK] at h1 h2
      exact .inr ⟨a, b, h1, h2, h3, h4, q⟩
theorem Rv.is_non {ρ : List Addr} {H : Hp} {x : D} {v : V} (r : Rv c ρ H x v) : D.deq x .non = decide (v = .non) := by
  cases r <;> simp [D.deq]
theorem cok_isN : COk X c .isN .Is := by
  refine ⟨_, op_isN, fun ρ A H x y v u Q k R rv ru e q => ?_⟩
  cases ru <;> first | (simp [copD] at e; done) | skip
  simp only [copD, Option.some.injEq] at e
  subst e
  exact ⟨rfl, by rw [← rv.is_non]; exact q⟩
theorem cok_notN : COk X c .notN .IsNot := by
  refine ⟨_, op_notN, fun ρ A H x y v u Q k R rv ru e q => ?_⟩
  cases ru <;> first | (simp [copD] at e; done) | skip
  simp only [copD, Option.some.injEq] at e
  subst e
  exact ⟨rfl, by rw [← rv.is_non]; exact q⟩
/-- in, over a tuple -/
def rInT (K : PySem.W.Frag) : R2 := fun x y H Q => ∃ d ds, Dp K H x d ∧ Dp K H y (.tuple ds) ∧ SeqAt.shaped d = true ∧ SeqAt.shaped (.tuple ds) = true ∧ Q (.bl (ds.any fun z => PyData.eqv z d)) H
def rNotInT (K : PySem.W.Frag) : R2 := fun x y H Q => ∃ d ds, Dp K H x d ∧ Dp K H y (.tuple ds) ∧ SeqAt.shaped d = true ∧ SeqAt.shaped (.tuple ds) = true ∧ Q (.bl (!ds.any fun z => PyData.eqv z d)) H
theorem op_inT (hu : X.A.units + 65 < cLine) : OpR X (compareOp .In) (rInT X.K) := by
  intro pins s σ H x y v u Q I rx ry h
  obtain ⟨d, ds, hd, he, sd, se, q⟩ := h
  obtain ⟨as, r1⟩ := Dp.reads I d x v hd rx
  obtain ⟨bs, r2⟩ := Dp.reads I (.tuple ds) y u he ry
  exact SeqAt.in_tuple_reads r2 r1 (SeqAt.canLay_of_shaped se) (SeqAt.canLay_of_shaped sd) (room_in_shaped sd hu) ⟨.bl _, H, I, rfl, q⟩
theorem op_notInT (hu : X.A.units + 65 < cLine) : OpR X (compareOp .NotIn) (rNotInT X.K) := by
  intro pins s σ H x y v u Q I rx ry h
  obtain ⟨d, ds, hd, he, sd, se, q⟩ := h
  obtain ⟨as, r1⟩ := Dp.reads I d x v hd rx
  obtain ⟨bs, r2⟩ := Dp.reads I (.tuple ds) y u he ry
  exact SeqAt.notIn_tuple_reads r2 r1 (SeqAt.canLay_of_shaped se) (SeqAt.canLay_of_shaped sd) (room_in_shaped sd hu) ⟨.bl _, H, I, rfl, q⟩
theorem inA_ok {ρ : List Addr} {A : Hh} {H : Hp} {x y : D} {v u : V} {k : Bool} (R : Rel c ρ A H) (rv : Rv c ρ H x v) (ru : Rv c ρ H y u) (e : inA A x y = some k) :
    ∃ p ps, Dp c.K H v p ∧ SeqAt.shaped p = true ∧ k = (ps.any fun z => PyData.eqv z p) ∧ ((Dp c.K H u (.tuple ps) ∧ SeqAt.shaped (.tuple ps) = true) ∨ (Dp c.K H u (.list ps) ∧ SeqAt.shaped (.list ps) = true)) := by
  unfold inA at e
  split at e
  · rename_i ys
    split at e
    · rename_i p ps e1 e2
      split at e
      · rename_i h
        rw [Bool.and_eq_true] at h
        cases e
        refine ⟨p, ps, rv.dp e1, h.1, rfl, .inl ⟨ru.dp ?_, h.2⟩⟩
        simp only [D.py, e2, Option.map_some]
      · cases e
    · cases e
  · split at e
    · rename_i ps p e1 e2
      split at e
      · rename_i h
        rw [Bool.and_eq_true] at h
        cases e
        exact ⟨p, ps, rv.dp e2, h.1, rfl, .inr ⟨ru.dpA R e1, h.2⟩⟩
      · cases e
    · cases e
theorem cok_in (hu : X.A.units + 65 < cLine) (hK : c.K = X.K) : COk X c .in_ .In := by
  refine ⟨_, (op_inT hu).or (op_inD hu), fun ρ A H x y v u Q k R rv ru e q => ?_⟩
  obtain ⟨p, ps, h1, h2, rfl, h⟩ := inA_ok R rv ru e
  rw [hK] at h1 h
  rcases h with ⟨h3, h4⟩ | ⟨h3, h4⟩
  · exact .inl ⟨p, ps, h1, h3, h2, h4, q⟩
  · exact .inr ⟨p, ps, h1, h3, h2, h4, q⟩
theorem cok_notIn (hu : X.A.units + 65 < cLine) (hK : c.K = X.K) : COk X c .notIn .NotIn := by
  refine ⟨_, (op_notInT hu).or (op_notInD hu), fun ρ A H x y v u Q k R rv ru e q => ?_⟩
  cases e2 : inA A x y with
  | none => simp [copD, e2] at e
  | some j =>
    simp only [copD, e2, Option.map_some, Option.some.injEq] at e
    subst e
    obtain ⟨p, ps, h1, h2, rfl, h⟩ := inA_ok R rv ru e2
    rw [hK] at h1 h
    rcases h with ⟨h3, h4⟩ | ⟨h3, h4⟩
    · exact .inl ⟨p, ps, h1, h3, h2, h4, q⟩
    · exact .inr ⟨p, ps, h1, h3, h2, h4, q⟩
end

section
variable {X : Cx} {c : Cn} {W : WX} {a b d : Expr} {fa fb fd : Ev D} {ga gb : Ev Bool} {pos p : Pos} {x : Str} {es : List Expr} {fs : Ev (List D)} {op op' : Cop} {cop cop' : CmpOp}
theorem copM_ld {ρ : List Addr} {A : Hh} {H : Hp} {σ : L2.St} {x y : D} {P : Bool → List Addr → Hh → Hp → Prop} (R : Rel c ρ A H) (h : Ld c ρ H σ W (copM op x y A) P) : ∃ k, copD op x y A = some k ∧ P k ρ A H := by
  unfold copM at h
  cases e : copD op x y A with
  | none => rw [e] at h; exact h.elim
  | some k => rw [e] at h; exact ⟨k, rfl, h ρ H R .refl⟩
/-- a op b, as a value -/
theorem z_cmp (ok : COk X c op cop) (ha : PE X a (tE c W fa)) (hb : PE X b (tE c W fb)) (hm : behindInMarks cop b = false := by first | exact nomark _ | rfl) : PE X (.Compare a [cop] [b] pos) (tE c W (zbl (zcmp op fa fb))) := by
  obtain ⟨r, ho, hr⟩ := ok
  refine (pe_cmpR ho ha hb hm).zm fun σ H Q ⟨ρ, A, σd, R, S, h⟩ => ?_
  have h' : Ld c ρ H σ W (mb (fa σd) (fun x => mb (fb σd) fun y A => Z.R.andThen (copM op x y A) fun k => Z.ok (D.bl k)) A) fun d ρ' _ H' => ∀ v, Rv c ρ' H' d v → Q v H' := by
    unfold zbl zcmp mb at h
    unfold mb
    revert h
    cases fa σd A with
    | none => exact fun h => h
    | some r =>
      cases r with
      | ex _ _ => exact fun h => h
      | ok x A1 =>
        show Ld c ρ H σ W (Z.R.andThen (Z.R.andThen (fb σd A1) _) _) _ → Ld c ρ H σ W (Z.R.andThen (fb σd A1) _) _
        cases fb σd A1 with
        | none => exact fun h => h
        | some r => cases r <;> exact fun h => h
  refine two R S h' fun x y v u ρ2 A2 H2 R2 s2 S2 rv ru h2 => ?_
  obtain ⟨k, e, h3⟩ := copM_ld R2 h2.bind
  exact hr ρ2 A2 H2 x y v u Q k R2 rv ru e (Ld.old R2 h3 (.bl k))
/-- .. as a test -/
theorem z_cmpT (ok : COk X c op cop) (ha : PE X a (tE c W fa)) (hb : PE X b (tE c W fb)) (hm : behindInMarks cop b = false := by first | exact nomark _ | rfl) : PT X (.Compare a [cop] [b] pos) (tT c W (zcmp op fa fb)) := by
  obtain ⟨r, ho, hr⟩ := ok
  refine (pt_cmpR ho ha hb hm).zm fun σ H Q ⟨ρ, A, σd, R, S, h⟩ => ?_
  refine two R S h fun x y v u ρ2 A2 H2 R2 s2 S2 rv ru h2 => ?_
  obtain ⟨k, e, h3⟩ := copM_ld R2 h2
  exact hr ρ2 A2 H2 x y v u _ k R2 rv ru e ⟨k, rfl, h3⟩
/-- a op b op' d -/
theorem z_chnT (ok : COk X c op cop) (ok' : COk X c op' cop') (ha : PE X a (tE c W fa)) (hb : PE X b (tE c W fb)) (hd : PE X d (tE c W fd)) (hm : lastMarks [cop, cop'] [b, d] = false := by with_unfolding_all rfl) :
    PT X (.Compare a [cop, cop'] [b, d] pos) (tT c W (zchn op op' fa fb fd)) := by
  obtain ⟨r, ho, hr⟩ := ok
  obtain ⟨r', ho', hr'⟩ := ok'
  refine (pt_chain ho ho' ha hb hd hm).zm fun σ H Q ⟨ρ, A, σd, R, S, h⟩ => ?_
  refine two R S h fun x y v u ρ2 A2 H2 R2 s2 S2 rv ru h2 => ?_
  obtain ⟨k, e, h3⟩ := copM_ld R2 h2.bind
  refine hr ρ2 A2 H2 x y v u _ k R2 rv ru e ⟨k, rfl, ?_⟩
  cases k with
  | false => exact iteF ⟨false, rfl, Ld.oldB R2 h3⟩
  | true =>
    refine iteT (one R2 S2 h3 fun z w ρ3 A3 H3 R3 s3 S3 rw' h4 => ?_)
    obtain ⟨k', e', h5⟩ := copM_ld R3 h4
    exact hr' ρ3 A3 H3 y z u w _ k' R3 (ru.to R2 s3) rw' e' ⟨k', rfl, h5⟩
theorem z_chn (ok : COk X c op cop) (ok' : COk X c op' cop') (ha : PE X a (tE c W fa)) (hb : PE X b (tE c W fb)) (hd : PE X d (tE c W fd)) (hm : lastMarks [cop, cop'] [b, d] = false := by with_unfolding_all rfl) :
    PE X (.Compare a [cop, cop'] [b, d] pos) (tE c W (zbl (zchn op op' fa fb fd))) := by
  obtain ⟨r, ho, hr⟩ := ok
  obtain ⟨r', ho', hr'⟩ := ok'
  refine (pe_chain ho ho' ha hb hd hm).zm fun σ H Q ⟨ρ, A, σd, R, S, h⟩ => ?_
  have h0 : Ld c ρ H σ W (zchn op op' fa fb fd σd A) fun k ρ' _ H' => Q (.bl k) H' := by
    have h1 : Ld c ρ H σ W (Z.R.andThen (zchn op op' fa fb fd σd A) fun k A' => Z.ok (D.bl k) A') (fun d ρ' _ H' => ∀ v, Rv c ρ' H' d v → Q v H') := h
    exact h1.bind.imp fun k ρ' A' H' R' s' h2 => Ld.old R' h2 (.bl k)
  refine two R S h0 fun x y v u ρ2 A2 H2 R2 s2 S2 rv ru h2 => ?_
  obtain ⟨k, e, h3⟩ := copM_ld R2 h2.bind
  refine hr ρ2 A2 H2 x y v u _ k R2 rv ru e ⟨k, rfl, ?_⟩
  cases k with
  | false => exact iteF (Ld.oldB (Q := fun k H' => Q (.bl k) H') R2 h3)
  | true =>
    refine iteT (one R2 S2 h3 fun z w ρ3 A3 H3 R3 s3 S3 rw' h4 => ?_)
    obtain ⟨k', e', h5⟩ := copM_ld R3 h4
    exact hr' ρ3 A3 H3 y z u w _ k' R3 (ru.to R2 s3) rw' e' h5

theorem truD_ok {ρ : List Addr} {A : Hh} {H : Hp} {x : D} {v : V} {k : Bool} (R : Rel c ρ A H) (rv : Rv c ρ H x v) (e : truD A x = some k) : TruV c.K v H k := by
  have hz := SZ_le
  cases rv with
  | non => simp only [truD, Option.some.injEq] at e; subst e; rfl
  | bl b => simp only [truD, Option.some.injEq] at e; subst e; rfl
  | int i =>
    simp only [truD, Option.some.injEq] at e; subst e
    show decide (i ≠ 0) = (i != 0)
    by_cases h : i = 0 <;> simp [h]
  | str y =>
    simp only [truD] at e
    split at e
    · cases e
      refine ⟨by omega, ?_⟩
      by_cases h : y.length = 0
      · simp [h]
      · have : ¬ ((y.length : Int) = 0) := by omega
        simp [h, this]
    · cases e
  | tup h t =>
    simp only [truD, Option.some.injEq] at e; subst e
    refine .inr (.inl ⟨_, h.sq, ?_⟩)
    cases t <;> rfl
  | lst h t =>
    simp only [truD, Option.some.injEq] at e; subst e
    refine .inl ⟨_, h.sq, ?_⟩
    cases t <;> rfl
  | ref h =>
    simp only [truD] at e
    split at e
    · rename_i xs hA
      cases e
      obtain ⟨ho, h1, vs, rfl, h3⟩ := R.obj _ _ _ hA h
      refine .inl ⟨_, .of h1, ?_⟩
      cases h3 <;> rfl
    · cases e
  | exc h t => cases e
  | emp h t => cases e
theorem z_tru (hK : c.K = X.K) (ha : PE X a (tE c W fa)) (he : ∀ whole, isTrue a X.env whole = (do let v ← whole; standAt a.pos; holding [v] (truthy v)) := by intro _; rfl) : PT X a (tT c W (ztru fa)) := by
  refine (pt_truth ha he).zm fun σ H Q ⟨ρ, A, σd, R, S, h⟩ => one R S h fun x v ρ2 A2 H2 R2 s2 S2 rv h2 => ?_
  cases e : truD A2 x with
  | none => rw [e] at h2; exact False.elim h2
  | some k =>
    rw [e] at h2
    exact ⟨k, by rw [← hK]; exact truD_ok R2 rv e, Ld.oldB R2 h2⟩
theorem z_not (ha : PT X a (tT c W ga)) : PT X (.UnaryOp .Not a pos) (tT c W (znot ga)) :=
  (pt_not ha).zm fun σ H Q ⟨ρ, A, σd, R, S, h⟩ => oneT R S h fun k ρ1 A1 H1 R1 s1 S1 h1 => Ld.oldB R1 h1
theorem z_and1 (ha : PT X a (tT c W ga)) : PW X (.BoolOp .And [a] pos) (tT c W ga) := pw_and1 ha
theorem z_or1 (ha : PT X a (tT c W ga)) : PW X (.BoolOp .Or [a] pos) (tT c W ga) := pw_or1 ha
theorem z_and (ha : PT X a (tT c W ga)) (hb : PW X (.BoolOp .And (b :: es) pos) (tT c W gb)) : PW X (.BoolOp .And (a :: b :: es) pos) (tT c W (zand ga gb)) :=
  (pw_and ha hb).zm fun σ H Q ⟨ρ, A, σd, R, S, h⟩ => oneT R S h fun k ρ1 A1 H1 R1 s1 S1 h1 => by
    cases k with
    | true => exact iteT ⟨ρ1, A1, σd, R1, S1, h1⟩
    | false => exact iteF (Ld.oldB R1 h1)
theorem z_or (ha : PT X a (tT c W ga)) (hb : PW X (.BoolOp .Or (b :: es) pos) (tT c W gb)) : PW X (.BoolOp .Or (a :: b :: es) pos) (tT c W (zor ga gb)) :=
  (pw_or ha hb).zm fun σ H Q ⟨ρ, A, σd, R, S, h⟩ => oneT R S h fun k ρ1 A1 H1 R1 s1 S1 h1 => by
    cases k with
    | true => exact iteT (Ld.oldB R1 h1)
    | false => exact iteF ⟨ρ1, A1, σd, R1, S1, h1⟩
/-- .. as values -/
theorem z_notv (hK : c.K = X.K) (ha : PE X a (tE c W fa)) : PE X (.UnaryOp .Not a pos) (tE c W (zbl (znot (ztru fa)))) := by
  refine (pe_notT ha).zm fun σ H Q ⟨ρ, A, σd, R, S, h⟩ => ?_
  have h0 : Ld c ρ H σ W (ztru fa σd A) fun k ρ' _ H' => Q (.bl (!k)) H' := by
    have h1 : Ld c ρ H σ W (Z.R.andThen (Z.R.andThen (ztru fa σd A) fun k A' => Z.ok (!k) A') fun k A' => Z.ok (D.bl k) A') (fun d ρ' _ H' => ∀ v, Rv c ρ' H' d v → Q v H') := h
    exact h1.bind.bind.imp fun k ρ' A' H' R' s' h2 => Ld.old R' (h2 ρ' H' R' .refl) (.bl _)
  refine one R S h0 fun x v ρ2 A2 H2 R2 s2 S2 rv h2 => ?_
  cases e : truD A2 x with
  | none => rw [e] at h2; exact False.elim h2
  | some k =>
    rw [e] at h2
    exact ⟨k, by rw [← hK]; exact truD_ok R2 rv e, Ld.oldB (Q := fun k H' => Q (.bl (!k)) H') R2 h2⟩
theorem z_onev {o : BoolOp} (ha : PE X a (tE c W fa)) : PE X (.BoolOp o [a] pos) (tE c W fa) := pe_one ha
theorem z_andv (hK : c.K = X.K) (ha : PE X a (tE c W fa)) (hb : PE X (.BoolOp .And (b :: es) pos) (tE c W fb)) : PE X (.BoolOp .And (a :: b :: es) pos) (tE c W (zandv fa fb)) := by
  refine (pe_andT ha hb).zm fun σ H Q ⟨ρ, A, σd, R, S, h⟩ => one R S h fun x v ρ2 A2 H2 R2 s2 S2 rv h2 => ?_
  cases e : truD A2 x with
  | none => rw [e] at h2; exact False.elim h2
  | some k =>
    rw [e] at h2
    refine ⟨k, by rw [← hK]; exact truD_ok R2 rv e, ?_⟩
    cases k with
    | true => exact iteT ⟨ρ2, A2, σd, R2, S2, h2⟩
    | false => exact iteF (Ld.old R2 h2 rv)
theorem z_orv (hK : c.K = X.K) (ha : PE X a (tE c W fa)) (hb : PE X (.BoolOp .Or (b :: es) pos) (tE c W fb)) : PE X (.BoolOp .Or (a :: b :: es) pos) (tE c W (zorv fa fb)) := by
  refine (pe_orT ha hb).zm fun σ H Q ⟨ρ, A, σd, R, S, h⟩ => one R S h fun x v ρ2 A2 H2 R2 s2 S2 rv h2 => ?_
  cases e : truD A2 x with
  | none => rw [e] at h2; exact False.elim h2
  | some k =>
    rw [e] at h2
    refine ⟨k, by rw [← hK]; exact truD_ok R2 rv e, ?_⟩
    cases k with
    | true => exact iteT (Ld.old R2 h2 rv)
    | false => exact iteF ⟨ρ2, A2, σd, R2, S2, h2⟩
theorem z_ite (hc : PT X d (tT c W ga)) (ha : PE X a (tE c W fa)) (hb : PE X b (tE c W fb)) : PE X (.IfExp d a b pos) (tE c W (zite ga fa fb)) :=
  (pe_ifExp hc ha hb).zm fun σ H Q ⟨ρ, A, σd, R, S, h⟩ => oneT R S h fun k ρ1 A1 H1 R1 s1 S1 h1 => by
    cases k with
    | true => exact iteT ⟨ρ1, A1, σd, R1, S1, h1⟩
    | false => exact iteF ⟨ρ1, A1, σd, R1, S1, h1⟩
end
end Z

noncomputable section
namespace Z
open PySem PySem.Spec PyProof.Rows L2

/-- a list alone -/
def tL (c : Cn) (W : WX) (f : Ev (List D)) : TE := fun σ H Q => ∃ ρ A σd, Rel c ρ A H ∧ Rsl c ρ H σd σ ∧ Ld c ρ H σ W (f σd A) fun ds ρ' _ H' => ∀ a vs, SqL c.K H' a vs → Rvs c ρ' H' ds vs → Q (.ref a) H'

section
variable {c : Cn} {ρ ρ' : List Addr} {A : Hh} {H H' : Hp} {σd : Sl} {σ : L2.St} {W : WX}
theorem oneL {β : Type} {fa : Ev (List D)} {k : List D → M β} {P : β → List Addr → Hh → Hp → Prop} {Q1 : V → Hp → Prop} (R : Rel c ρ A H) (S : Rsl c ρ H σd σ) (h : Ld c ρ H σ W (mb (fa σd) k A) P)
    (i : ∀ xs a vs ρ1 A1 H1, Rel c ρ1 A1 H1 → St' ρ H ρ1 H1 → Rsl c ρ1 H1 σd σ → SqL c.K H1 a vs → Rvs c ρ1 H1 xs vs → Ld c ρ1 H1 σ W (k xs A1) P → Q1 (.ref a) H1) : tL c W fa σ H Q1 :=
  ⟨ρ, A, σd, R, S, (Ld.bind h).imp fun x ρ1 A1 H1 R1 s1 h1 a vs hs rv => i x a vs ρ1 A1 H1 R1 s1 (S.to R s1) hs rv h1⟩
theorem Ld.later {α : Type} {r : Option (R α)} {P : α → List Addr → Hh → Hp → Prop} (h : Ld c ρ H σ W r P) : Ld c ρ H σ W r fun a ρ1 A1 H1 => ∀ ρ2 H2, Rel c ρ2 A1 H2 → St' ρ1 H1 ρ2 H2 → P a ρ2 A1 H2 := by
  revert h
  cases r with
  | none => exact fun h => h
  | some r =>
    cases r with
    | ex _ _ => exact fun h => h
    | ok a A1 => exact fun h ρ1 H1 R1 s1 ρ2 H2 R2 s2 => h ρ2 H2 R2 (s1.trans s2)
theorem moL {α : Type} {o : Option α} {P : α → List Addr → Hh → Hp → Prop} (R : Rel c ρ A H) (h : Ld c ρ H σ W (mo o A) P) : ∃ d, o = some d ∧ P d ρ A H := by
  cases o with
  | none => exact h.elim
  | some d => exact ⟨d, rfl, h ρ H R .refl⟩
theorem mapL {α β : Type} {o : Option α} {g : α → β} {P : β → List Addr → Hh → Hp → Prop} (R : Rel c ρ A H) (h : Ld c ρ H σ W (o.map fun d => Z.R.ok (g d) A) P) : ∃ d, o = some d ∧ P (g d) ρ A H := by
  cases o with
  | none => exact h.elim
  | some d => exact ⟨d, rfl, h ρ H R .refl⟩
theorem iteL {α : Type} {b : Bool} {d : α} {P : α → List Addr → Hh → Hp → Prop} (R : Rel c ρ A H) (h : Ld c ρ H σ W (if b = true then some (Z.R.ok d A) else none) P) : b = true ∧ P d ρ A H := by
  obtain ⟨e, h2⟩ := ite_none h
  exact ⟨e, h2 ρ H R .refl⟩
theorem iteP {α : Type} {p : Prop} [Decidable p] {d : α} {P : α → List Addr → Hh → Hp → Prop} (R : Rel c ρ A H) (h : Ld c ρ H σ W (if p then some (Z.R.ok d A) else none) P) : p ∧ P d ρ A H := by
  by_cases e : p
  · rw [if_pos e] at h
    exact ⟨e, h ρ H R .refl⟩
  · rw [if_neg e] at h
    exact h.elim
theorem lenSZ {xs : List D} {vs : List V} (r : Rvs c ρ H xs vs) (h : xs.length ≤ SZ) : vs.length ≤ sizeLine := by
  have h1 := r.length
  have h2 := SZ_le
  omega
/-- what stood ahead, and a new thing at p -/
theorem laidQ {Q : VK} {xs : List D} {vs : List V} {p : Addr} (R : Rel c ρ A H) (n : H p = none) (r : Rvs c ρ H xs vs) : Rel c ρ A (upd H p (.lst vs)) ∧ St' ρ H ρ (upd H p (.lst vs)) ∧ Stb c ρ (upd H p (.lst vs)) p vs ∧ Rvs c ρ (upd H p (.lst vs)) xs vs := by
  obtain ⟨R1, s1, hp⟩ := R.laid (ho := .lst vs) n
  exact ⟨R1, s1, .inr (.inr ⟨upd_same, hp⟩), r.to R s1⟩
end

section
variable {X : Cx} {c : Cn} {W : WX} {a b d e : Expr} {fa fb fd : Ev D} {qa qb : Ev (List D)} {ua ub : Ev (List D × Wt)} {pos p p2 apos : Pos} {x : Str} {es : List Expr} {fs : Ev (List D)} {ol oh : Ev (Option Int)} {lo hi : Option Expr}

theorem z_nil : PA X [] (tA c W znil) := pa_nil.zm fun σ H Q ⟨ρ, A, σd, R, S, h⟩ => h ρ H R .refl [] .nil
theorem z_cons (ha : PE X a (tE c W fa)) (hr : PA X es (tA c W fs)) (hs : starEach (a :: es) X.env = (false, eval a X.env) :: starEach es X.env := by rfl) : PA X (a :: es) (tA c W (zcons fa fs)) :=
  (pa_cons ha hr hs).zm fun σ H Q ⟨ρ, A, σd, R, S, h⟩ => one R S h fun x v ρ1 A1 H1 R1 s1 S1 rv h1 => oneA R1 S1 h1 fun xs vs ρ2 A2 H2 R2 s2 S2 rvs h2 => h2 ρ2 H2 R2 .refl _ (.cons (rv.to R1 s2) rvs)
theorem z_tup {k : Nat} (h : PA X es (tA c W fs)) : PE X (.Tuple es k pos) (tE c W (ztup fs)) := by
  refine (pe_tupF h).zm fun σ H Q ⟨ρ, A, σd, R, S, h⟩ => oneA R S h fun xs vs ρ1 A1 H1 R1 s1 S1 rvs h1 => ?_
  by_cases hz : xs.length ≤ SZ
  · rw [if_pos hz] at h1
    exact ⟨lenSZ rvs hz, newTup R1 rvs h1⟩
  · rw [if_neg hz] at h1
    exact h1.elim
theorem lstM_ok {ρ : List Addr} {A : Hh} {H : Hp} {σ : L2.St} {xs : List D} {P : List D → List Addr → Hh → Hp → Prop} (R : Rel c ρ A H) (h : Ld c ρ H σ W (lstM xs A) P) : xs.length ≤ SZ ∧ P xs ρ A H := iteP R h
theorem z_lst (h : PA X es (tA c W fs)) : PE X (.List es pos) (tN c W (zlst fs)) :=
  (pe_lst h).zm fun σ H Q ⟨ρ, A, σd, R, S, h⟩ => oneA R S h fun xs vs ρ1 A1 H1 R1 s1 S1 rvs h1 => by
    obtain ⟨hz, h2⟩ := lstM_ok R1 h1
    exact ⟨lenSZ rvs hz, fun p n => h2 p vs n rvs⟩

theorem z_new (h : PE X e (tN c W qa)) : PE X e (tE c W (znew qa)) := h.zm fun σ H Q ⟨ρ, A, σd, R, S, h⟩ => ⟨ρ, A, σd, R, S, (Ld.bind h).imp fun xs ρ1 A1 H1 R1 s1 h1 a vs n rvs => by
    obtain ⟨R2, s2⟩ := R1.made (o := .lst xs) n ⟨vs, rfl, rvs⟩
    refine h1 _ _ R2 s2 _ (.ref ?_)
    rw [← R1.len, List.getElem?_append_right (Nat.le_refl _), Nat.sub_self]
    rfl⟩
theorem z_nq (h : PE X e (tN c W qa)) : PE X e (tQ c W qa) := h.zm fun σ H Q ⟨ρ, A, σd, R, S, h⟩ => ⟨ρ, A, σd, R, S, h.later.imp fun xs ρ1 A1 H1 R1 s1 h1 a vs n rvs => by
    obtain ⟨R2, s2, hb, r2⟩ := laidQ (Q := Q) R1 n rvs
    exact h1 ρ1 _ R2 s2 a vs hb r2⟩
theorem z_nl (h : PE X e (tN c W qa)) : PE X e (tL c W qa) := h.zm fun σ H Q ⟨ρ, A, σd, R, S, h⟩ => ⟨ρ, A, σd, R, S, h.later.imp fun xs ρ1 A1 H1 R1 s1 h1 a vs n rvs => by
    obtain ⟨R2, s2, hb, r2⟩ := laidQ (Q := Q) R1 n rvs
    exact h1 ρ1 _ R2 s2 a vs (.of upd_same) r2⟩
theorem seqD_ok {ρ : List Addr} {A : Hh} {H : Hp} {x : D} {v : V} {q : List D × Wt} (R : Rel c ρ A H) (r : Rv c ρ H x v) (e : seqD A x = some q) : ∃ a vs, v = .ref a ∧ Stw c ρ H a vs q.1 q.2 ∧ Rvs c ρ H q.1 vs := by
  cases r with
  | non => cases e
  | bl b => cases e
  | int i => cases e
  | str y => cases e
  | tup h t => cases e; exact ⟨_, _, rfl, .inl ⟨.inl h, rfl⟩, t⟩
  | lst h t => cases e; exact ⟨_, _, rfl, .inl ⟨.inr (.inl h), rfl⟩, t⟩
  | ref h =>
    simp only [seqD] at e
    split at e
    · rename_i xs hA
      cases e
      obtain ⟨ho, h1, vs, rfl, h3⟩ := R.obj _ _ _ hA h
      exact ⟨_, vs, rfl, .inr ⟨_, h, h1, rfl⟩, h3⟩
    · cases e
  | exc h t => cases e
  | emp h t => cases e
theorem lstD_ok {ρ : List Addr} {A : Hh} {H : Hp} {x : D} {v : V} {q : List D} (R : Rel c ρ A H) (r : Rv c ρ H x v) (e : lstD A x = some q) : ∃ a vs, v = .ref a ∧ SqL c.K H a vs ∧ Rvs c ρ H q vs := by
  cases r with
  | non => cases e
  | bl b => cases e
  | int i => cases e
  | str y => cases e
  | tup h t => cases e
  | lst h t => cases e; exact ⟨_, _, rfl, h.sq, t⟩
  | ref h =>
    simp only [lstD] at e
    split at e
    · rename_i xs hA
      cases e
      obtain ⟨ho, h1, vs, rfl, h3⟩ := R.obj _ _ _ hA h
      exact ⟨_, vs, rfl, .of h1, h3⟩
    · cases e
  | exc h t => cases e
  | emp h t => cases e
theorem z_of (h : PE X e (tE c W fa)) : PE X e (tU c W (zof fa)) := h.zm fun σ H Q ⟨ρ, A, σd, R, S, h⟩ => one R S h fun x v ρ1 A1 H1 R1 s1 S1 rv h1 => by
    obtain ⟨q, e, h2⟩ := mapL (g := fun q => q) R1 h1
    obtain ⟨a, vs, rfl, hs, rvs⟩ := seqD_ok R1 rv e
    exact h2 a vs hs rvs
theorem z_ofL (h : PE X e (tE c W fa)) : PE X e (tL c W (zofL fa)) := h.zm fun σ H Q ⟨ρ, A, σd, R, S, h⟩ => one R S h fun x v ρ1 A1 H1 R1 s1 S1 rv h1 => by
    obtain ⟨q, e, h2⟩ := mapL (g := fun q => q) R1 h1
    obtain ⟨a, vs, rfl, hs, rvs⟩ := lstD_ok R1 rv e
    exact h2 a vs hs rvs
theorem z_st (h : PE X e (tQ c W qa)) : PE X e (tU c W (zst qa)) := h.zm fun σ H Q ⟨ρ, A, σd, R, S, h⟩ => oneQ R S h fun xs a vs ρ1 A1 H1 R1 s1 S1 hs rvs h1 => h1 ρ1 H1 R1 .refl a vs (.inl ⟨hs, rfl⟩) rvs

theorem ixD_ok {ρ : List Addr} {A : Hh} {H : Hp} {x y : D} {v u : V} {r : D} {Q : VK} (R : Rel c ρ A H) (rv : Rv c ρ H x v) (ru : Rv c ρ H y u) (e : ixD A x y = some r) (hq : ∀ w, Rv c ρ H r w → Q w H) : rIx c.K v u H Q := by
  unfold ixD at e
  split at e
  · rename_i i
    cases ru
    split at e
    · rename_i xs w0 e2
      obtain ⟨a, vs, rfl, hs, rvs⟩ := seqD_ok R rv e2
      have hl := rvs.length
      have key : ∃ w, atI vs i = some w ∧ Rv c ρ H r w := by
        unfold atI at e ⊢
        have hl' : xs.length = vs.length := hl
        rw [hl'] at e
        cases q : ixN vs.length i with
        | none => rw [q] at e; cases e
        | some j =>
          rw [q] at e
          exact rvs.get e
      obtain ⟨w, hw, rw'⟩ := key
      rcases hs.sq with hs | hs
      · exact .inl ⟨a, vs, i, w, rfl, rfl, hs, hw, hq w rw'⟩
      · exact .inr (.inl ⟨a, vs, i, w, rfl, rfl, hs, hw, hq w rw'⟩)
    · cases e
  · cases e
theorem z_ix (hK : c.K = X.K) (ha : PE X a (tE c W fa)) (hb : PE X b (tE c W fb)) (hs : PlainIx b := by exact fun _ _ => rfl) : PE X (.Subscript a b pos) (tE c W (zix fa fb)) := by
  refine (pe_ix ix_seq ha hb hs).zm fun σ H Q ⟨ρ, A, σd, R, S, h⟩ => two R S h fun x y v u ρ2 A2 H2 R2 s2 S2 rv ru h2 => ?_
  obtain ⟨r, e, h3⟩ := mapL (g := fun q => q) R2 h2
  rw [← hK]
  exact ixD_ok R2 rv ru e h3
theorem z_no : PO X none (tP c W znone) := po_none.zm fun σ H Q ⟨ρ, A, σd, R, S, h⟩ => h ρ H R .refl
theorem z_so (ha : PE X a (tE c W fa)) : PO X (some a) (tP c W (zsome fa)) := (po_some ha).zm fun σ H Q ⟨ρ, A, σd, R, S, h⟩ => one R S h fun x v ρ1 A1 H1 R1 s1 S1 rv h1 => by
    cases rv <;> first | exact False.elim h1 | skip
    exact ⟨_, rfl, h1 ρ1 H1 R1 .refl⟩
theorem cut_ok {ρ : List Addr} {H : Hp} {xs : List D} {vs : List V} {l h : Option Int} (r : Rvs c ρ H xs vs) : Rvs c ρ H (cutD xs l h) (cutV vs l h) := by
  unfold cutD cutV
  rw [r.length]
  exact (r.drop _).take _
theorem z_slT (hK : c.K = X.K) (ha : PE X a (tE c W fa)) (hl : PO X lo (tP c W ol)) (hh : PO X hi (tP c W oh)) : PE X (.Subscript a (.Slice lo hi none p2) pos) (tE c W (zslT fa ol oh)) := by
  refine (pe_slice sl_tupF ha hl hh).zm fun σ H Q ⟨ρ, A, σd, R, S, h⟩ => one R S h fun x v ρ1 A1 H1 R1 s1 S1 rv h1 => oneP R1 S1 h1 fun l ρ2 A2 H2 R2 s2 S2 h2 => oneP R2 S2 h2 fun u ρ3 A3 H3 R3 s3 S3 h3 => ?_
  have rv3 := (rv.to R1 s2).to R2 s3
  cases rv3 <;> first | exact False.elim h3 | skip
  rename_i a1 xs vs t r
  refine ⟨_, vs, rfl, by rw [← hK]; exact t.sq, fun e => ?_, fun _ => ?_⟩
  · have e2 : cutD xs l u = xs := by
      unfold cutD
      rw [r.length, e.1, e.2, Nat.sub_zero, List.drop_zero, ← r.length, List.take_length]
    have h4 : Ld c ρ3 H3 σ W (some (Z.R.ok (D.tup (cutD xs l u)) A3)) _ := h3
    rw [e2] at h4
    exact Ld.old R3 h4 (.tup t r)
  · exact newTup R3 (cut_ok r) h3
theorem z_slL (hK : c.K = X.K) (ha : PE X a (tE c W fa)) (hl : PO X lo (tP c W ol)) (hh : PO X hi (tP c W oh)) : PE X (.Subscript a (.Slice lo hi none p2) pos) (tN c W (zslL fa ol oh)) := by
  refine (pe_slice sl_list ha hl hh).zm fun σ H Q ⟨ρ, A, σd, R, S, h⟩ => one R S h fun x v ρ1 A1 H1 R1 s1 S1 rv h1 => oneP R1 S1 h1 fun l ρ2 A2 H2 R2 s2 S2 h2 => oneP R2 S2 h2 fun u ρ3 A3 H3 R3 s3 S3 h3 => ?_
  have rv3 := (rv.to R1 s2).to R2 s3
  have key : ∀ q, lstD A3 x = some q → (∀ a vs, H3 a = none → Rvs c ρ3 H3 (cutD q l u) vs → Q (.ref a) (upd H3 a (.lst vs))) → rSlL X.K v l u H3 Q := fun q e h4 => by
    obtain ⟨a1, vs, rfl, hs, rvs⟩ := lstD_ok R3 rv3 e
    rw [hK] at hs
    exact ⟨a1, vs, rfl, hs, fun p n => h4 p _ n (cut_ok rvs)⟩
  cases x with
  | tup xs => exact False.elim h3
  | lst xs => exact key xs rfl (h3 ρ3 H3 R3 .refl)
  | ref n =>
    simp only [seqD] at h3
    cases hA : A3[n]? with
    | none => rw [hA] at h3; exact False.elim h3
    | some o =>
      cases o with
      | ins k fs => rw [hA] at h3; exact False.elim h3
      | dct kvs => rw [hA] at h3; exact False.elim h3
      | dck kvs => rw [hA] at h3; exact False.elim h3
      | lst xs =>
        rw [hA] at h3
        exact key xs (by simp only [lstD, hA]) (h3 ρ3 H3 R3 .refl)
  | non => exact False.elim h3
  | bl _ => exact False.elim h3
  | int _ => exact False.elim h3
  | str _ => exact False.elim h3
  | exc _ => exact False.elim h3
  | emp => exact False.elim h3
/-- its last step: -1 -/
def zrev (a : Ev D) : Ev (List D) := fun σ => mb (a σ) fun x A => (lstD A x).map fun xs => .ok xs.reverse A
theorem Rvs.rev {ρ : List Addr} {H : Hp} : ∀ {xs : List D} {vs : List V}, Rvs c ρ H xs vs → Rvs c ρ H xs.reverse vs.reverse
  | _, _, .nil => .nil
  | _, _, .cons r t => by
    rw [List.reverse_cons, List.reverse_cons]
    exact (Rvs.rev t).append (.cons r .nil)
end
end Z

noncomputable section
set_option maxHeartbeats 4000000
namespace Z
open PySem PySem.Spec PyProof.Rows L2

/-- the empty set as it is made -/
abbrev so0 (w : World) : Obj := { cls := .type "set", dict := none, data := .set #[] 0 (.fresh 0 0 (!w.params.followText "set-order")) }
/-- what a list's iterator is at first -/
abbrev li0 (l : Addr) : Obj := { cls := .type "list_iterator", data := .fields #[.ref l, .int 0 0] }
section
variable {P : Program} {w : World} {A : Around} {E : Value → Shared → Prop} {s : Shared} {l : Addr} {items : Array Value} {ns : List Int}
/-- what is asked behind the filling -/
def Filled (w : World) (ns : List Int) (s : Shared) (r : Value) (s2 : Shared) : Prop :=
  r = .none ∧ ∃ h2 t2 c, s2 = { s with heap := h2, toks := t2 } ∧ SetR w h2 s.heap.objs.size (fun j => decide (j ∈ ns)) c ∧ c ≤ ns.length ∧ ∀ b o, s.heap.get? b = some o → h2.get? b = some o
theorem ints_at (hi : IntsAre items.toList ns) (hz : items.size = ns.length) : ∀ (i : Nat) (v : Value), items[i]? = some v → ∃ k t, ns[i]? = some k ∧ v = .int k t := fun i v e => by
  have hlt : i < ns.length := hz ▸ (Array.getElem?_eq_some_iff.mp e).1
  obtain ⟨t, e2⟩ := hi.int_at i v (by simpa using e)
  exact ⟨ns[i], t, List.getElem?_eq_getElem hlt, by rw [e2]; simp [List.getD_eq_getElem?_getD, List.getElem?_eq_getElem hlt]⟩
theorem set_fill (hh : A.handled = none) (hl : s.heap.IsList l items) (hi : IntsAre items.toList ns) (hb : ns.length + 1 < scanBound) (hz : items.size = ns.length)
    (hT : Shared.TypeIs { s with heap := s.heap.push (so0 w) } (.ref s.heap.objs.size) "set") :
    codeAny (model P w) A (.call (.builtin "set.__init__") ⟨[.ref s.heap.objs.size, .ref l], []⟩) (wants (Filled w ns s) E) { s with heap := s.heap.push (so0 w) } := by
  refine codeAny_call_builtin F.called_set.init.plain F.entry_set_init (check_set_init_1 hT ?_)
  obtain ⟨⟨oc, od, odt, osl⟩, g0, gc, gn, gd⟩ := hl
  dsimp only at gc gd
  cases gc
  cases gd
  have onto : ∀ {b : Addr} {o : Obj}, s.heap.get? b = some o → (s.heap.push (so0 w)).get? b = some o := fun e => Heap.get?_push_of_some _ e
  have atS : (s.heap.push (so0 w)).get? s.heap.objs.size = some (so0 w) := Heap.get?_push_size _ rfl
  have isl : (s.heap.push (so0 w)).IsList l items := ⟨_, onto g0, rfl, gn, rfl⟩
  have b1 := F.sub_list_set
  have b2 := F.sub_list_frozenset
  have b3 : (Value.type "list" == Value.type "dict") = false := by decide
  have b4 := onto g0
  unfold Builtin.«set.__init__» noKeywords Builtin.Frozenset.updateFrom
  generalize hIt : pyIter = It0
  wp_walk
  subst hIt
  refine wpAny_pyIter_list isl (wpAny_bind (wpAny_runValue ?_))
  have sz1 : (s.heap.push (so0 w)).objs.size = s.heap.objs.size + 1 := Heap.size_push ..
  have ll : l < s.heap.objs.size := Heap.lt_size g0
  have c1 : l ≠ (s.heap.push (so0 w)).objs.size := fun e => by rw [sz1] at e; exact absurd e (Nat.ne_of_lt (Nat.lt_succ_of_lt ll))
  have c2 : s.heap.objs.size ∉ [(s.heap.push (so0 w)).objs.size, l] := by
    rw [sz1]
    intro m
    rcases List.mem_cons.mp m with m | m
    · exact absurd m (Nat.ne_of_lt (Nat.lt_succ_self _))
    · rw [List.mem_singleton] at m; exact absurd m (Nat.ne_of_gt ll)
  have c3 : A.in1.in1.handled = none := by simpa using hh
  have at2 : ((s.heap.push (so0 w)).push (li0 l)).get? s.heap.objs.size = some (so0 w) := Heap.get?_push_of_some _ atS
  refine set_update_ints (Walks.list c3 _ l c1 items).toS s.heap.objs.size c2 ns hz hb (ints_at hi hz) _ 0 _ rfl (Nat.zero_le _) ?_ ?_ fun s3 c mv hc R3 => ?_
  · exact ⟨⟨_, Heap.get?_push_size _ rfl, rfl, rfl⟩, isl.push _⟩
  · exact ⟨0, Nat.le_refl 0, setR_new_at at2⟩
  cases s3 with
  | mk h3 g3 d3 t3 o3 =>
    have e1 : g3 = s.gens := mv.gens
    have e2 : d3 = s.drawn := mv.drawn
    have e3 : o3 = s.os := mv.os
    cases e1
    cases e2
    cases e3
    show wpAny _ _ _ _ _ _
    apply wpAny_pure
    show wpAny _ _ (ret Value.none) _ _ _
    apply wpAny_pure
    refine ⟨rfl, h3, t3, c, rfl, R3, hz ▸ hc, fun b o e => mv.heap b o ?_ (Heap.get?_push_of_some _ (onto e))⟩
    have lb : b < s.heap.objs.size := Heap.lt_size e
    rw [sz1]
    intro m
    rcases List.mem_cons.mp m with m | m
    · exact absurd m (Nat.ne_of_lt lb)
    · rw [List.mem_singleton] at m; exact absurd m (Nat.ne_of_lt (Nat.lt_succ_of_lt lb))
theorem set_of_list {Q : Value → Shared → Prop} (hh : A.handled = none) (hl : s.heap.IsList l items) (hi : IntsAre items.toList ns) (hb : ns.length + 1 < scanBound)
    (q : ∀ (h2 : Heap) (t2 c : Nat), SetR w h2 s.heap.objs.size (fun j => decide (j ∈ ns)) c → c ≤ ns.length → (∀ b o, s.heap.get? b = some o → h2.get? b = some o) → Q (.ref s.heap.objs.size) { s with heap := h2, toks := t2 }) :
    wpAny (model P w) A (call (.type "set") [.ref l]) Q E s := by
  have hz : items.size = ns.length := by simpa using hi.length
  have a1 := F.called_set.made
  have a2 := F.called_set.sub
  have a3 := F.called_set.notType
  have a4 := F.called_set.canCreate
  have a5 := F.typeCall_set_1 (.ref l)
  obtain ⟨_, _, a6⟩ := F.called_set.mro
  apply wpAny_call
  apply codeAny_of_tree
  show wpAny _ _ (callAny (.type "set") _) _ _ _
  apply wpAny_pure
  refine And.intro (Code.quiet_builtin _ (by decide +kernel)) (codeAny_builtin F.entry_type_call ?_)
  rw [Around.under_plain (weight_type_call_type "set" [.ref l] []) rfl]
  repeat any_goals first | wp_step | assumption
  refine codeAny_mono (code_set_led1 (.ref l) (E := E) (Q₁ := fun r s1 => r = .ref s.heap.objs.size ∧ s1 = { s with heap := s.heap.push (so0 w) }) ⟨rfl, rfl⟩) ?_
  rintro (e | fl) s1 hr
  · exact hr
  cases fl <;> try exact hr.elim
  obtain ⟨e1, e2⟩ := hr
  cases e1
  cases e2
  have hT : Shared.TypeIs { s with heap := s.heap.push (so0 w) } (.ref s.heap.objs.size) "set" := ⟨_, Heap.get?_push_size _ rfl, rfl⟩
  have i1 := F.called_set.init.lookup
  have i2 := F.called_set.init.bind (.ref s.heap.objs.size)
  repeat any_goals first | wp_step | assumption
  refine codeAny_mono (set_fill (E := E) (by simpa using hh) hl hi hb hz hT) ?_
  rintro (e | fl) s2 hr
  · exact hr
  cases fl <;> try exact hr.elim
  obtain ⟨e1, h2, t2, c, e2, R2, hc, hk⟩ := hr
  cases e1
  cases e2
  repeat any_goals first | wp_step | assumption
  exact q _ _ _ R2 hc hk
end
end Z

noncomputable section
set_option maxHeartbeats 4000000
namespace SrtL
open PySem PyProof.Rows Srt SrtO
/-- the ints of a tuple -/
def IsTI (h : Heap) (v : Value) (ns : List Int) : Prop := ∃ a o us n, v = .ref a ∧ h.get? a = some o ∧ o.cls = .type "tuple" ∧ o.data = .seq us n ∧ IntsAre us.toList ns
theorem intsAre_fun {us : List Value} {ns : List Int} (a : IntsAre us ns) : ∀ {ms : List Int}, IntsAre us ms → ns = ms := by
  induction a with
  | nil => intro ms b; cases b; rfl
  | cons n t r ih => intro ms b; cases b with | cons _ _ q => rw [ih q]
theorem IsTI.fun {h : Heap} {v : Value} {ns ms : List Int} (a : IsTI h v ns) (b : IsTI h v ms) : ns = ms := by
  obtain ⟨x, o, us, n, e, h1, h2, h3, h4⟩ := a
  obtain ⟨y, p, ws, m, e', g1, g2, g3, g4⟩ := b
  rw [e] at e'; cases e'
  rw [h1] at g1; cases g1
  rw [h3] at g3; cases g3
  exact intsAre_fun h4 g4
open Classical in
def kOf (h : Heap) (v : Value) : List Int := if q : ∃ ns, IsTI h v ns then q.choose else []
theorem kOf_eq {h : Heap} {v : Value} {ns : List Int} (a : IsTI h v ns) : kOf h v = ns := by
  have q : ∃ ns, IsTI h v ns := ⟨ns, a⟩
  unfold kOf
  rw [dif_pos q]
  exact q.choose_spec.fun a
theorem lex_asym : ∀ {m n : List Int}, HT.lexLt m n = true → HT.lexLt n m = false
  | [], [], h => by simp [HT.lexLt] at h
  | [], _ :: _, _ => rfl
  | _ :: _, [], h => by simp [HT.lexLt] at h
  | a :: m, b :: n, h => by
    rw [HT.lexLt_cons] at h ⊢
    by_cases e : a = b
    · subst e
      rw [if_pos rfl] at h ⊢
      exact lex_asym h
    · rw [if_neg e] at h
      rw [if_neg (fun z => e z.symm)]
      have := of_decide_eq_true h
      exact decide_eq_false (by omega)
theorem lex_trans : ∀ {l m n : List Int}, HT.lexLt m l = false → HT.lexLt n m = false → HT.lexLt n l = false
  | [], _, n, _, _ => by cases n <;> rfl
  | _ :: _, [], n, h, _ => by simp [HT.lexLt] at h
  | _ :: _, _ :: _, [], _, h => by simp [HT.lexLt] at h
  | a :: l, b :: m, d :: n, h, h2 => by
    rw [HT.lexLt_cons] at h h2 ⊢
    by_cases e : b = a
    · subst e
      rw [if_pos rfl] at h
      by_cases e2 : d = b
      · subst e2
        rw [if_pos rfl] at h2 ⊢
        exact lex_trans h h2
      · rw [if_neg e2] at h2 ⊢
        exact h2
    · rw [if_neg e] at h
      have h3 := of_decide_eq_false h
      by_cases e2 : d = b
      · subst e2
        rw [if_neg e]
        exact h
      · rw [if_neg e2] at h2
        have h4 := of_decide_eq_false h2
        rw [if_neg (by omega)]
        exact decide_eq_false (by omega)
theorem swo_k (k : Value → List Int) : Swo fun v u => HT.lexLt (k v) (k u) := ⟨fun x y h => lex_asym h, fun x y z h1 h2 => lex_trans h1 h2⟩
section
variable {prog : Program} {w : World} {A : Around} {E : Value → Shared → Prop} {s : Shared}
theorem lex_kat {b fin : Bool} {Q : Bool → Shared → Prop} : ∀ {ns ms : List Int} {us ws : List Value} (i : Nat), IntsAre us ns → IntsAre ws ms → fin = decide (ns.length < ms.length) → Q (HT.lexLt ns ms) s →
    PySem.W.KatLex prog w A b fin Q (us.zip ws) i s
  | [], [], _, _, i, .nil, .nil, e, h => by
    subst e
    exact PySem.W.kat_nil h
  | [], _ :: _, _, _, i, .nil, .cons m u r, e, h => by
    subst e
    exact PySem.W.kat_nil h
  | _ :: _, [], _, _, i, .cons m u r, .nil, e, h => by
    subst e
    exact PySem.W.kat_nil h
  | x :: ns, y :: ms, _ :: _, _ :: _, i, a1, a2, e, h => by
    cases a1 with | cons _ t r => ?_
    cases a2 with | cons _ u r2 => ?_
    refine PySem.W.kat_cons (SeqAt.EqAt.int_int x t y u prog w _ _ ?_)
    rw [HT.lexLt_cons] at h
    refine PySem.W.kat_go (fun e1 => ?_) (fun e1 => ?_)
    · have ex : x = y := by simpa using e1
      rw [if_pos ex] at h
      refine PySem.W.kat_yes (lex_kat (i + 1) r r2 ?_ h)
      rw [e]
      simp
    · have ex : ¬ x = y := by simpa using e1
      rw [if_neg ex] at h
      refine PySem.W.kat_no ?_
      cases (b && i == 0) with
      | true => exact oneLt_int h
      | false => exact PySem.W.kat_one _ _ (PyProof.Rows.lt_int h)
theorem tup_cmp {vs : List Value} {k : Value → List Int} (hp : ∀ v ∈ vs, IsTI s.heap v (k v)) : Cmp prog w A s (tuples' true) (fun p => p.1 ∈ vs) (lt2 fun v u => HT.lexLt (k v) (k u)) := by
  intro p q hm hm'
  have h1 := hp _ hm
  have h2 := hp _ hm'
  show wpAny (model prog w) A (keyLt' (tuples' true) p.1 q.1) (fun r s' => s' = s ∧ r = HT.lexLt (k p.1) (k q.1)) (fun _ _ => False) s
  generalize k p.1 = ns at h1 ⊢
  generalize k q.1 = ms at h2 ⊢
  obtain ⟨a, o, us, n, e, ho, hc, hd, hi⟩ := h1
  obtain ⟨a', o', us', n', e', ho', hc', hd', hi'⟩ := h2
  rw [e, e']
  refine PySem.W.kat_lt ho hd ho' hd' (lex_kat 0 hi hi' ?_ ⟨rfl, rfl⟩)
  have l1 : us.size = ns.length := by simpa using hi.length
  have l2 : us'.size = ms.length := by simpa using hi'.length
  rw [l1, l2]
theorem IsTI.keeps {h h' : Heap} {v : Value} {ns : List Int} (x : IsTI h v ns) (k : ∀ b o, h.get? b = some o → o.cls = .type "tuple" → h'.get? b = some o) : IsTI h' v ns := by
  obtain ⟨a, o, us, n, e, ho, hc, hd, hi⟩ := x
  exact ⟨a, o, us, n, e, k _ _ ho hc, hc, hd, hi⟩
theorem firsts_tups {h : Heap} : ∀ {vs : List Value} {k : Value → List Int}, (∀ v ∈ vs, IsTI h v (k v) ∧ k v ≠ []) → ∃ fs, PySem.W.KatTups h vs fs ∧ fs.length = vs.length ∧ ∀ f ∈ fs, ∃ x t, f = Value.int x t
  | [], k, _ => ⟨[], trivial, rfl, fun f hf => absurd hf (by simp)⟩
  | v :: vs, k, hp => by
    obtain ⟨fs, h1, h2, h3⟩ := firsts_tups (vs := vs) (k := k) fun u hu => hp u (List.mem_cons_of_mem _ hu)
    obtain ⟨⟨a, o, us, n, e, ho, hc, hd, hi⟩, hne⟩ := hp v List.mem_cons_self
    subst e
    cases q : k (.ref a) with
    | nil => exact absurd q hne
    | cons x ns =>
      rw [q] at hi
      obtain ⟨ul⟩ := us
      dsimp only at hi
      cases hi with
      | cons _ t r =>
        refine ⟨.int x t :: fs, PySem.W.KatTups.cons ho hc hd (by simp) h1, by simp [h2], fun f hf => ?_⟩
        rcases List.mem_cons.mp hf with e | hf
        · exact ⟨x, t, e⟩
        · exact h3 f hf
theorem tups_sortable {a : Addr} {vs : List Value} {k : Value → List Int} (h0 : 0 < vs.length) (hp : ∀ v ∈ vs, IsTI s.heap v (k v) ∧ k v ≠ []) (ha : ∀ o, s.heap.get? a = some o → o.cls ≠ .type "tuple") : SortableO prog w A s a vs fun v u => HT.lexLt (k v) (k u) := by
  intro h' keep
  have hp' : ∀ v ∈ vs, IsTI h' v (k v) ∧ k v ≠ [] := fun v hm => ⟨(hp v hm).1.keeps fun b o e c => keep b o (fun z => by subst z; exact ha o e c) e, (hp v hm).2⟩
  obtain ⟨fs, h1, h2, h3⟩ := firsts_tups hp'
  refine ⟨tuples' true, fun Q E hq => ?_, tup_cmp fun v hv => (hp' v hv).1⟩
  refine PySem.W.kat_kind (T := .type "int") h1 (by omega) (fun f hm => ?_) (by rfl) ?_
  · obtain ⟨x, t, rfl⟩ := h3 f hm
    exact PySem.W.Looks.now
  · have e : (Value.type "int" != Value.type "tuple") = true := by first | decide +kernel | rfl | decide
    rw [e]
    exact hq

def ltC (a b : Str) : Bool := decide (a.cps.toList < b.cps.toList)
def leC' (a b : Str) : Bool := !ltC b a
def ltSv (v u : Value) : Bool := ltC (strOf v) (strOf u)
theorem ltC_asym {a b : Str} (h : ltC a b = true) : ltC b a = false := by
  unfold ltC at *
  simp only [decide_eq_true_eq, decide_eq_false_iff_not] at *
  exact List.lt_asymm h
theorem ltC_trans {a b c : Str} (h1 : ltC b a = false) (h2 : ltC c b = false) : ltC c a = false := by
  unfold ltC at *
  simp only [decide_eq_false_iff_not] at *
  rw [List.not_lt] at *
  exact List.le_trans h1 h2
theorem ltC_conn {a b : Str} (h1 : ltC b a = false) (h2 : ltC a b = false) : a = b := by
  unfold ltC at *
  simp only [decide_eq_false_iff_not] at *
  rw [List.not_lt] at *
  have := List.le_antisymm h1 h2
  cases a; cases b
  simp only [Str.mk.injEq]
  exact Array.toList_inj.mp this
theorem leC_trans (a b c : Str) (h : leC' a b = true) (h2 : leC' b c = true) : leC' a c = true := by
  unfold leC' at *
  rw [Bool.not_eq_true'] at *
  exact ltC_trans h h2
theorem leC_total (a b : Str) : (leC' a b || leC' b a) = true := by
  unfold leC'
  cases q : ltC b a with
  | false => rfl
  | true => rw [ltC_asym q]; rfl
theorem leC_anti {a b : Str} (h : leC' a b = true) (h2 : leC' b a = true) : a = b := by
  unfold leC' at *
  rw [Bool.not_eq_true'] at *
  exact ltC_conn h h2
theorem swo_str : Swo ltSv := ⟨fun x y h => ltC_asym h, fun x y z h1 h2 => ltC_trans h1 h2⟩
theorem str_cmp {vs : List Value} {ss : List Str} (hS : StrsAre vs ss) : Cmp prog w A s oneType' (fun p => p.1 ∈ vs) (lt2 ltSv) := by
  intro p q hm hm'
  obtain ⟨a, t, e⟩ := hS.all _ hm
  obtain ⟨b, u, e'⟩ := hS.all _ hm'
  show wpAny (model prog w) A (keyLt' oneType' p.1 q.1) (fun r s' => s' = s ∧ r = ltSv p.1 q.1) (fun _ _ => False) s
  rw [e, e', keyLt'_oneType]
  exact oneLt_str ⟨rfl, rfl⟩
theorem strs_sortable {a : Addr} {vs : List Value} {ss : List Str} (hS : StrsAre vs ss) (h2 : 2 ≤ vs.length) : SortableO prog w A s a vs ltSv := by
  intro h' _
  refine ⟨oneType', fun Q E hq => ?_, str_cmp hS⟩
  match vs, hS, h2 with
  | v1 :: v2 :: rest, hS, _ =>
    rw [keyKind_strs hS]
    exact wpAny_pure hq
  | [], _, h => exact absurd h (by decide)
  | [v], _, h => exact absurd h (by simp)
theorem strs_out {vs out : List Value} {ss : List Str} (hS : StrsAre vs ss) (hs : Srtd ltSv out) (hb : Stb ltSv out vs) : StrsAre out (out.map strOf) ∧ out.map strOf = ss.mergeSort leC' := by
  refine ⟨strsAre_map out fun v hv => hS.all v (hb.perm.mem_iff.mp hv), ?_⟩
  have q := hb.perm.map strOf
  rw [hS.strs] at q
  have p1 : (out.map strOf).Pairwise fun a b => leC' a b = true := List.pairwise_map.mpr (hs.imp fun {x y} h => by
    have h' : ltC (strOf y) (strOf x) = false := h
    unfold leC'
    rw [h']
    rfl)
  exact List.Perm.eq_of_pairwise (le := fun a b => leC' a b = true) (fun a b _ _ h3 h4 => leC_anti h3 h4) p1 (List.pairwise_mergeSort leC_trans leC_total ss) (q.trans (List.mergeSort_perm _ _).symm)
theorem rev_strs : ∀ {vs : List Value} {ss : List Str}, StrsAre vs ss → StrsAre vs.reverse ss.reverse := fun {vs ss} h => by
  have := strsAre_map vs.reverse fun v hv => h.all v (List.mem_reverse.mp hv)
  rw [List.map_reverse, h.strs] at this
  exact this
end
end SrtL

namespace L2
open PySem PySem.Spec PyProof.Rows
/-- a tuple of ints, by value -/
def TupJ (K : PySem.W.Frag) (H : Hp) (x : V) (ns : List Int) : Prop := ∃ t, x = .ref t ∧ SqT K H t (ns.map V.int)
def rSortTL (K : PySem.W.Frag) : List V → Hp → VK → Prop := fun vs H Q => ∃ (a : Addr) (xs : List V), vs = [V.ref a] ∧ SqL K H a xs ∧ (∀ x ∈ xs, ∃ ns, TupJ K H x ns ∧ ns ≠ []) ∧
  ∀ (ys : List V) (p : Addr), ys.Perm xs → ys.Pairwise (fun x y => ∀ n m, TupJ K H x n → TupJ K H y m → HT.lexLt m n = false) → H p = none → Q (.ref p) (upd H p (.lst ys))
section
variable {X : Cx} {pins : List (Addr × Obj)} {σ : St} {H : Hp} {s : Shared}
theorem tupJ_raw (I : Inv X pins σ H s) {t : Addr} {ns : List Int} (h : SqT X.K H t (ns.map V.int)) : SrtL.IsTI s.heap (.ref t) ns := by
  obtain ⟨its, rv, ⟨o, h1, h2, n, h3⟩, _⟩ := I.tuple h
  exact ⟨t, o, its.toArray, n, rfl, h1, h2, h3, by simpa using rv.ints⟩
theorem bk_refs : ∀ {xs : List V} {us : List Value}, Vals xs us → (∀ x ∈ xs, ∃ a, x = V.ref a) → ∃ as : List Addr, xs = as.map V.ref ∧ us = as.map Value.ref
  | _, _, .nil, _ => ⟨[], rfl, rfl⟩
  | x :: xs, _ :: us, .cons r t, h => by
    obtain ⟨a, e⟩ := h x List.mem_cons_self
    subst e
    cases r
    obtain ⟨as, h1, h2⟩ := bk_refs t fun y hy => h y (List.mem_cons_of_mem _ hy)
    exact ⟨a :: as, by rw [h1]; rfl, by rw [h2]; rfl⟩
theorem vals_refsZ : ∀ as : List Addr, Vals (as.map V.ref) (as.map Value.ref)
  | [] => .nil
  | a :: as => .cons rfl (vals_refsZ as)
def rA : Value → Addr
  | .ref a => a
  | _ => 0
theorem cr_sortTL : CallR X (.builtin "sorted") (rSortTL X.K) := by
  intro pins s σ H vs us Q I r h
  obtain ⟨a, xs, rfl, hs, hx, q⟩ := h
  obtain ⟨its, rv, hl, hz⟩ := I.list hs
  rw [Vals.ref1 r]
  obtain ⟨as, e1, e2⟩ := bk_refs rv fun x m => by
    obtain ⟨ns, ⟨t, e, _⟩, _⟩ := hx x m
    exact ⟨t, e⟩
  subst e1 e2
  have hk : ∀ v ∈ as.map Value.ref, SrtL.IsTI s.heap v (SrtL.kOf s.heap v) ∧ SrtL.kOf s.heap v ≠ [] := fun v hv => by
    obtain ⟨b, hb, rfl⟩ := List.mem_map.mp hv
    obtain ⟨ns, ⟨t, e, ht⟩, hne⟩ := hx (.ref b) (List.mem_map.mpr ⟨b, hb, rfl⟩)
    cases e
    have := tupJ_raw I ht
    rw [SrtL.kOf_eq this]
    exact ⟨this, hne⟩
  refine SrtO.sorted_ord (SrtL.swo_k (SrtL.kOf s.heap)) hl.isList (by rw [← rv.length]; exact hz) (fun h2 h₁ a' ha' kk => ?_) fun out h1 h2 => ?_
  · refine SrtL.tups_sortable (s := { s with heap := h₁ }) (by omega) (fun v hm => ⟨(hk v hm).1.keeps fun b o e _ => (kk b o e).2, (hk v hm).2⟩) fun o e => ?_
    have e' : some o = some (seqObj "list" (as.map Value.ref).toArray 0) := e.symm.trans ha'
    cases e'
    intro c
    exact absurd (Value.type.inj c) (by decide)
  · obtain ⟨ep, he'⟩ := PyProof.Rows.sortedAll_at s.heap (as.map Value.ref) out.toArray
    have hp := h2.perm
    have hp3 : (out.map rA).Perm as := by
      have := hp.map rA
      rw [List.map_map] at this
      have e : (rA ∘ Value.ref) = id := rfl
      rwa [e, List.map_id] at this
    have eo : out = (out.map rA).map Value.ref := by
      rw [List.map_map]
      refine (List.map_id' out).symm.trans (List.map_congr_left fun v hv => ?_)
      obtain ⟨b, _, rfl⟩ := List.mem_map.mp (hp.mem_iff.mp hv)
      rfl
    have hlen : ((out.map rA).map V.ref).length ≤ sizeLine := by
      rw [List.length_map, hp3.length_eq]
      rw [List.length_map] at hz
      exact hz
    refine ⟨.ref _, upd H (s.heap.objs.size + 1) (.lst ((out.map rA).map V.ref)), I.laid (t' := s.toks) (fun _ _ => PyProof.Rows.sortedAll_old) (Nat.le_succ _) ⟨hlen, out, ep, ?_, he'⟩, rfl, q _ _ (hp3.map _) ?_ (I.hok.fresh (Nat.le_succ _))⟩
    · have := vals_refsZ (out.map rA)
      rw [← eo] at this
      exact this
    · rw [List.pairwise_map, List.pairwise_map]
      refine List.Pairwise.imp_of_mem (fun {u v} hu hv huv n m hn hm => ?_) h1
      obtain ⟨t, et, ht⟩ := hn
      obtain ⟨t', et', ht'⟩ := hm
      obtain ⟨b, hb, rfl⟩ := List.mem_map.mp (hp.mem_iff.mp hu)
      obtain ⟨b', hb', rfl⟩ := List.mem_map.mp (hp.mem_iff.mp hv)
      cases et
      cases et'
      have huv' : HT.lexLt (SrtL.kOf s.heap (.ref b')) (SrtL.kOf s.heap (.ref b)) = false := huv
      rw [SrtL.kOf_eq (v := .ref b) (tupJ_raw I ht), SrtL.kOf_eq (v := .ref b') (tupJ_raw I ht')] at huv'
      exact huv'
theorem vals_strsZ : ∀ {us : List Value} {ss : List Str}, StrsAre us ss → Vals (ss.map V.str) us
  | _, _, .nil => .nil
  | _, _, .cons x t r => .cons ⟨t, rfl⟩ (vals_strsZ r)
theorem strs_of : ∀ {ss : List Str} {us : List Value}, Vals (ss.map V.str) us → StrsAre us ss
  | [], _, .nil => .nil
  | s :: ss, _, .cons ⟨t, e⟩ r => by
    subst e
    exact .cons s t (strs_of r)
def rSortS (K : PySem.W.Frag) : List V → Hp → VK → Prop := fun vs H Q => ∃ (a : Addr) (ss : List Str), vs = [V.ref a] ∧ SqL K H a (ss.map V.str) ∧ ∀ p : Addr, H p = none → Q (.ref p) (upd H p (.lst ((ss.mergeSort SrtL.leC').map V.str)))
theorem cr_sortS : CallR X (.builtin "sorted") (rSortS X.K) := by
  intro pins s σ H vs us Q I r h
  obtain ⟨a, ss, rfl, hs, q⟩ := h
  obtain ⟨its, rv, hl, hz⟩ := I.list hs
  rw [Vals.ref1 r]
  have hS := strs_of rv
  refine SrtO.sorted_ord SrtL.swo_str hl.isList (by rw [← rv.length]; exact hz) (fun h2 h₁ a' _ _ => SrtL.strs_sortable hS h2) fun out h1 h2 => ?_
  obtain ⟨k1, k2⟩ := SrtL.strs_out hS h1 h2
  obtain ⟨ep, he'⟩ := PyProof.Rows.sortedAll_at s.heap its out.toArray
  have hlen : ((ss.mergeSort SrtL.leC').map V.str).length ≤ sizeLine := by
    rw [List.length_map, List.length_mergeSort]
    rw [List.length_map] at hz
    exact hz
  rw [k2] at k1
  exact ⟨.ref _, upd H (s.heap.objs.size + 1) (.lst ((ss.mergeSort SrtL.leC').map V.str)), I.laid (t' := s.toks) (fun _ _ => PyProof.Rows.sortedAll_old) (Nat.le_succ _) ⟨hlen, out, ep, vals_strsZ k1, he'⟩, rfl, q _ (I.hok.fresh (Nat.le_succ _))⟩
def rSortSR (K : PySem.W.Frag) : List V → List V → Hp → VK → Prop := fun vs zs H Q => ∃ (a : Addr) (ss : List Str), vs = [V.ref a] ∧ zs = [.bl true] ∧ SqL K H a (ss.map V.str) ∧ ∀ p : Addr, H p = none → Q (.ref p) (upd H p (.lst ((ss.reverse.mergeSort SrtL.leC').reverse.map V.str)))
theorem cr_sortSR : CallRK X (.builtin "sorted") [Str.ofString "reverse"] (rSortSR X.K) := by
  intro pins s σ H vs zs us ws Q I r rz h
  obtain ⟨a, ss, rfl, rfl, hs, q⟩ := h
  obtain rfl := Vals.ref1 r
  obtain ⟨w1, rfl, e1⟩ := vals1 rz
  obtain rfl : w1 = Value.bool true := e1
  obtain ⟨its, rv, hl, hz⟩ := I.list hs
  have hS := strs_of rv
  refine SrtR.sorted_ordK (b := true) (fun _ => rfl) (PyProof.Rows.args_sorted_rev _ _) (fun _ => PyProof.Rows.args_list_sort_rev _ _) SrtL.swo_str hl.isList (by rw [← rv.length]; exact hz) (fun h2 h₁ a' _ _ => SrtL.strs_sortable hS h2) fun out h1 h2 => ?_
  obtain ⟨k1, k2⟩ := SrtL.strs_out (SrtL.rev_strs hS) h1 h2
  obtain ⟨ep, he'⟩ := PyProof.Rows.sortedAll_at s.heap its out.toArray.reverse
  have hlen : ((ss.reverse.mergeSort SrtL.leC').reverse.map V.str).length ≤ sizeLine := by
    rw [List.length_map, List.length_reverse, List.length_mergeSort, List.length_reverse]
    rw [List.length_map] at hz
    exact hz
  rw [k2] at k1
  have k3 := SrtL.rev_strs k1
  have e0 : (out.toArray.reverse).toList = out.reverse := by rw [Array.toList_reverse]
  exact ⟨.ref _, upd H (s.heap.objs.size + 1) (.lst ((ss.reverse.mergeSort SrtL.leC').reverse.map V.str)), I.laid (t' := s.toks) (fun _ _ => PyProof.Rows.sortedAll_old) (Nat.le_succ _) ⟨hlen, out.reverse, ep, vals_strsZ k3, by rw [← e0, Array.toArray_toList]; exact he'⟩, rfl, q _ (I.hok.fresh (Nat.le_succ _))⟩
end
end L2

noncomputable section
set_option maxHeartbeats 2000000
namespace Z
open PySem PySem.Spec PyProof.Rows L2

section
variable {c : Cn} {ρ ρ' : List Addr} {A : Hh} {H H' : Hp} {σd : Sl} {σ : L2.St} {W : WX}
theorem rg_ok (i j : Int) : Rvs c ρ H (rngI i j) (rgV i j) := by
  unfold rngI rgV
  generalize List.range (j - i).toNat = l
  induction l with
  | nil => exact .nil
  | cons k l ih => exact .cons (.int _) ih
theorem rngI_len (i j : Int) : (rngI i j).length = (j - i).toNat := by simp [rngI]
theorem rngM_ok {x y : D} {v u : V} {P : List D → List Addr → Hh → Hp → Prop} (rv : Rv c ρ H x v) (ru : Rv c ρ H y u) (h : Ld c ρ H σ W (mb (rngM x y) lstM A) P) (R : Rel c ρ A H) :
    ∃ i j, v = .int i ∧ u = .int j ∧ RgOk i j ∧ (rngI i j).length ≤ SZ ∧ P (rngI i j) ρ A H := by
  cases rv <;> cases ru <;> first | exact False.elim h | skip
  rename_i i j
  unfold mb rngM at h
  dsimp only at h
  split at h
  · rename_i q
    simp only [Bool.and_eq_true, decide_eq_true_eq] at q
    obtain ⟨hz, h2⟩ := iteP R h
    refine ⟨i, j, rfl, rfl, ?_, hz, h2⟩
    rw [rngI_len] at hz
    unfold SZ at hz
    unfold RgOk
    omega
  · exact False.elim h
end
theorem mb_mb {α β γ : Type} (m : M α) (f : α → M β) (g : β → M γ) : mb (mb m f) g = mb m fun x => mb (f x) g := by
  funext A
  unfold mb
  cases m A with
  | none => rfl
  | some r => cases r <;> rfl

section
variable {X : Cx} {c : Cn} {W : WX} {a b d e : Expr} {fa fb fd : Ev D} {qa qb : Ev (List D)} {ua ub : Ev (List D × Wt)} {pos p p1 p2 apos : Pos} {x : Str} {es : List Expr} {fs : Ev (List D)}
theorem pa1 {t : TE} (h : PE X e t) (hs : starEach [e] X.env = (false, eval e X.env) :: starEach [] X.env := by rfl) : PA X [e] (tCons t tNil) := pa_cons h pa_nil hs

theorem arg1 {t : TE} {r : List V → Hp → VK → Prop} {σ : L2.St} {H : Hp} {Q : VK} (h : t σ H fun x H1 => r [x] H1 Q) : tCB r (tCons t tNil) σ H Q := h

theorem z_tupq (hK : c.K = X.K) (hg : Gl X "tuple") (hm : X.mg "tuple" = none) (h : PE X e (tU c W ua)) (hs : starEach [e] X.env = (false, eval e X.env) :: starEach [] X.env := by rfl) (hpl : (backTo pos (starEach [] X.env)).any (·.1) = false := by rfl) :
    PE X (.Call (.Name "tuple" p) [e] [] pos) (tE c W (ztupq ua)) :=
  (pe_callTy call_tupF hg hm boot_tuple (pa1 h hs) (he := hs) (hpl := hpl)).zm fun σ H Q ⟨ρ, A, σd, R, S, h⟩ => arg1 <| oneU R S h fun q a vs ρ1 A1 H1 R1 s1 S1 hs rvs h1 => by
    refine ⟨a, vs, rfl, ?_⟩
    rw [← hK]
    rcases hs with ⟨hs | hs | hs, _⟩ | ⟨n, _, hs, _⟩
    · exact .inr ⟨hs.sq, h1 ρ1 H1 R1 .refl _ (.tup hs rvs)⟩
    · exact .inl ⟨hs.sq, newTup R1 rvs h1⟩
    · exact .inl ⟨.of hs.1, newTup R1 rvs h1⟩
    · exact .inl ⟨.of hs, newTup R1 rvs h1⟩
theorem z_lstq (hK : c.K = X.K) (hg : Gl X "list") (hm : X.mg "list" = none) (h : PE X e (tU c W ua)) (hs : starEach [e] X.env = (false, eval e X.env) :: starEach [] X.env := by rfl) (hpl : (backTo pos (starEach [] X.env)).any (·.1) = false := by rfl) :
    PE X (.Call (.Name "list" p) [e] [] pos) (tN c W (zrow ua)) :=
  (pe_callTy call_list_of hg hm boot_list (pa1 h hs) (he := hs) (hpl := hpl)).zm fun σ H Q ⟨ρ, A, σd, R, S, h⟩ => arg1 <| oneU R S h fun q a vs ρ1 A1 H1 R1 s1 S1 hs rvs h1 => by
    refine ⟨a, vs, rfl, ?_, fun p n => h1 ρ1 H1 R1 .refl p vs n rvs⟩
    rw [← hK]
    exact hs.sq
theorem z_lenq (hK : c.K = X.K) (hg : Gl X "len") (hm : X.mg "len" = none) (h : PE X e (tU c W ua)) (hs : starEach [e] X.env = (false, eval e X.env) :: starEach [] X.env := by rfl) (hpl : (backTo pos (starEach [] X.env)).any (·.1) = false := by rfl) :
    PE X (.Call (.Name "len" p) [e] [] pos) (tE c W (zlenq ua)) :=
  (pe_callB call_len_seq hg hm (by rfl) (pa1 h hs) (he := hs) (hpl := hpl)).zm fun σ H Q ⟨ρ, A, σd, R, S, h⟩ => arg1 <| oneU R S h fun q a vs ρ1 A1 H1 R1 s1 S1 hs rvs h1 => by
    refine ⟨a, vs, rfl, ?_, ?_⟩
    · rw [← hK]
      exact hs.sq
    · rw [← rvs.length]
      exact Ld.old R1 h1 (.int _)
theorem z_lstr (hcm : X.calm = true) (hg : Gl X "list") (hm : X.mg "list" = none) (hg2 : Gl X "range") (hm2 : X.mg "range" = none) (ha : PE X a (tE c W fa)) (na : starEach [a] X.env = (false, eval a X.env) :: starEach [] X.env := by rfl)
    (n2 : starEach [.Call (.Name "range" p1) [a] [] p2] X.env = (false, eval (.Call (.Name "range" p1) [a] [] p2) X.env) :: starEach [] X.env := by rfl) :
    PE X (.Call (.Name "list" p) [.Call (.Name "range" p1) [a] [] p2] [] pos) (tN c W (zlst (zrng (zc (.int 0)) fa))) :=
  (pe_listRg hcm hg hm (prg_1 hg2 hm2 ha na) n2).zm fun σ H Q ⟨ρ, A, σd, R, S, h⟩ => by
    have e : zlst (zrng (zc (.int 0)) fa) σd = mb (fa σd) (fun y => mb (rngM (.int 0) y) lstM) := by
      unfold zlst zrng
      rw [mb_mb]
      show mb (mb (fa σd) _) lstM = _
      rw [mb_mb]
    rw [e] at h
    refine one R S h fun y u ρ1 A1 H1 R1 s1 S1 ru h1 => ?_
    obtain ⟨i, j, e1, e2, h2, h3, h4⟩ := rngM_ok (.int 0) ru h1 R1
    cases e1
    exact ⟨j, e2, h2, fun q n => h4 q _ n (rg_ok _ _)⟩
theorem z_lstr2 (hcm : X.calm = true) (hg : Gl X "list") (hm : X.mg "list" = none) (hg2 : Gl X "range") (hm2 : X.mg "range" = none) (ha : PE X a (tE c W fa)) (hb : PE X b (tE c W fb)) (na : starEach [a, b] X.env = (false, eval a X.env) :: starEach [b] X.env := by rfl)
    (nb : starEach [b] X.env = (false, eval b X.env) :: starEach [] X.env := by rfl) (hp : (backTo p2 (starEach [b] X.env)).any (·.1) = false := by rfl)
    (n2 : starEach [.Call (.Name "range" p1) [a, b] [] p2] X.env = (false, eval (.Call (.Name "range" p1) [a, b] [] p2) X.env) :: starEach [] X.env := by rfl) :
    PE X (.Call (.Name "list" p) [.Call (.Name "range" p1) [a, b] [] p2] [] pos) (tN c W (zlst (zrng fa fb))) :=
  (pe_listRg hcm hg hm (prg_2 hg2 hm2 ha hb na nb hp) n2).zm fun σ H Q ⟨ρ, A, σd, R, S, h⟩ => by
    unfold zlst zrng at h
    rw [mb_mb] at h
    refine one R S h fun x v ρ1 A1 H1 R1 s1 S1 rv h1 => ?_
    rw [mb_mb] at h1
    refine one R1 S1 h1 fun y u ρ2 A2 H2 R2 s2 S2 ru h2 => ?_
    obtain ⟨i, j, e1, e2, h3, h4, h5⟩ := rngM_ok (rv.to R1 s2) ru h2 R2
    exact ⟨i, j, e1, e2, h3, fun q n => h5 q _ n (rg_ok _ _)⟩
theorem z_tupr (hcm : X.calm = true) (hg : Gl X "tuple") (hm : X.mg "tuple" = none) (hg2 : Gl X "range") (hm2 : X.mg "range" = none) (ha : PE X a (tE c W fa)) (na : starEach [a] X.env = (false, eval a X.env) :: starEach [] X.env := by rfl)
    (n2 : starEach [.Call (.Name "range" p1) [a] [] p2] X.env = (false, eval (.Call (.Name "range" p1) [a] [] p2) X.env) :: starEach [] X.env := by rfl) :
    PE X (.Call (.Name "tuple" p) [.Call (.Name "range" p1) [a] [] p2] [] pos) (tE c W (ztupq (zst (zlst (zrng (zc (.int 0)) fa))))) :=
  (pe_tupRgF hcm hg hm (prg_1 hg2 hm2 ha na) n2).zm fun σ H Q ⟨ρ, A, σd, R, S, h⟩ => by
    have e : ztupq (zst (zlst (zrng (zc (.int 0)) fa))) σd = mb (fa σd) (fun y => mb (mb (rngM (.int 0) y) lstM) fun xs => ok (.tup xs)) := by
      unfold ztupq zst zlst zrng
      simp only [mb_mb]
      show mb (fa σd) _ = _
      rfl
    rw [e] at h
    refine one R S h fun y u ρ1 A1 H1 R1 s1 S1 ru h1 => ?_
    obtain ⟨i, j, e1, e2, h2, h3, h4⟩ := rngM_ok (.int 0) ru (Ld.bind h1) R1
    cases e1
    exact ⟨j, e2, h2, newTup R1 (rg_ok _ _) h4⟩
end
end Z

noncomputable section
set_option maxHeartbeats 2000000
namespace Z
open PySem PySem.Spec PyProof.Rows L2

section
variable {c : Cn} {ρ ρ' : List Addr} {A : Hh} {H H' : Hp} {σd : Sl} {σ : L2.St} {W : WX}
/-- later in the same run -/
theorem Ld.to {α : Type} {r : Option (R α)} {P : α → List Addr → Hh → Hp → Prop} (h : Ld c ρ H σ W r P) (s : St' ρ H ρ' H') : Ld c ρ' H' σ W r P := by
  revert h
  cases r with
  | none => exact fun h => h
  | some r =>
    cases r with
    | ok a A1 => exact fun h ρ2 H2 R2 s2 => h ρ2 H2 R2 (s.trans s2)
    | ex x A1 => exact fun h ρ2 H2 R2 s2 => h ρ2 H2 R2 (s.trans s2)
end

theorem lex_code {B : Int} : ∀ {m n : List Int}, m.length = n.length → TS.Bd B m → TS.Bd B n → HT.lexLt m n = true → TS.code B m < TS.code B n
  | [], [], _, _, _, h => by simp [HT.lexLt] at h
  | [], _ :: _, hl, _, _, _ => by simp at hl
  | _ :: _, [], hl, _, _, _ => by simp at hl
  | a :: m, b :: n, hl, hm, hn, h => by
    rw [HT.lexLt_cons] at h
    have hl' : m.length = n.length := by simpa using hl
    by_cases e : a = b
    · subst e
      rw [if_pos rfl] at h
      exact (TS.code_same hl').mpr (lex_code hl' hm.tail hn.tail h)
    · rw [if_neg e] at h
      exact TS.code_lt hl' hm.tail hn.tail (of_decide_eq_true h)
theorem leL_of_code {B : Int} {m n : List Int} (hl : m.length = n.length) (hm : TS.Bd B m) (hn : TS.Bd B n) (h : TS.code B m ≤ TS.code B n) : leL m n = true := by
  unfold leL
  cases q : HT.lexLt n m with
  | false => rfl
  | true => exact absurd (lex_code hl.symm hn hm q) (by omega)
theorem lexLt_irrefl : ∀ l : List Int, HT.lexLt l l = false
  | [] => rfl
  | a :: l => by rw [HT.lexLt_cons, if_pos rfl]; exact lexLt_irrefl l
theorem lexLt_asym : ∀ {m n : List Int}, HT.lexLt m n = true → HT.lexLt n m = false
  | [], [], h => by simp [HT.lexLt] at h
  | [], _ :: _, _ => rfl
  | _ :: _, [], h => by simp [HT.lexLt] at h
  | a :: m, b :: n, h => by
    rw [HT.lexLt_cons] at h ⊢
    by_cases e : a = b
    · subst e
      rw [if_pos rfl] at h ⊢
      exact lexLt_asym h
    · rw [if_neg e] at h
      rw [if_neg (fun z => e z.symm)]
      have := of_decide_eq_true h
      exact decide_eq_false (by omega)
theorem lexLt_conn : ∀ {m n : List Int}, HT.lexLt m n = false → HT.lexLt n m = false → m = n
  | [], [], _, _ => rfl
  | [], _ :: _, h, _ => by simp [HT.lexLt] at h
  | _ :: _, [], _, h => by simp [HT.lexLt] at h
  | a :: m, b :: n, h, h2 => by
    rw [HT.lexLt_cons] at h h2
    by_cases e : a = b
    · subst e
      rw [if_pos rfl] at h h2
      rw [lexLt_conn h h2]
    · rw [if_neg e] at h
      rw [if_neg (fun z => e z.symm)] at h2
      have h3 := of_decide_eq_false h
      have h4 := of_decide_eq_false h2
      omega
theorem lexLt_trans : ∀ {l m n : List Int}, HT.lexLt m l = false → HT.lexLt n m = false → HT.lexLt n l = false
  | [], _, n, _, _ => by cases n <;> rfl
  | _ :: _, [], n, h, _ => by simp [HT.lexLt] at h
  | _ :: _, _ :: _, [], _, h => by simp [HT.lexLt] at h
  | a :: l, b :: m, d :: n, h, h2 => by
    rw [HT.lexLt_cons] at h h2 ⊢
    by_cases e : b = a
    · subst e
      rw [if_pos rfl] at h
      by_cases e2 : d = b
      · subst e2
        rw [if_pos rfl] at h2 ⊢
        exact lexLt_trans h h2
      · rw [if_neg e2] at h2 ⊢
        exact h2
    · rw [if_neg e] at h
      have h3 := of_decide_eq_false h
      by_cases e2 : d = b
      · subst e2
        rw [if_neg e]
        exact h
      · rw [if_neg e2] at h2
        have h4 := of_decide_eq_false h2
        rw [if_neg (by omega)]
        exact decide_eq_false (by omega)
theorem leL_trans (a b c : List Int) (h : leL a b = true) (h2 : leL b c = true) : leL a c = true := by
  unfold leL at *
  rw [Bool.not_eq_true'] at *
  exact lexLt_trans h h2
theorem leL_total (a b : List Int) : (leL a b || leL b a) = true := by
  unfold leL
  cases q : HT.lexLt b a with
  | false => rfl
  | true => rw [lexLt_asym q]; rfl
theorem leL_anti {a b : List Int} (h : leL a b = true) (h2 : leL b a = true) : a = b := by
  unfold leL at *
  rw [Bool.not_eq_true'] at *
  exact lexLt_conn h2 h
theorem leZ_trans (a b c : Int) (h : leZ a b = true) (h2 : leZ b c = true) : leZ a c = true := by
  unfold leZ at *
  simp only [decide_eq_true_eq] at *
  omega
theorem leZ_total (a b : Int) : (leZ a b || leZ b a) = true := by
  unfold leZ
  simp only [Bool.or_eq_true, decide_eq_true_eq]
  omega
theorem uniq_ints {ns ms : List Int} (p : ms.Perm ns) (h : ms.Pairwise (· ≤ ·)) : ms = ns.mergeSort leZ := by
  have h2 := List.pairwise_mergeSort leZ_trans leZ_total ns
  refine List.Perm.eq_of_pairwise (le := fun a b => leZ a b = true) (fun a b _ _ h3 h4 => ?_) (h.imp fun h3 => by unfold leZ; exact decide_eq_true h3) h2 (p.trans (List.mergeSort_perm _ _).symm)
  unfold leZ at h3 h4
  simp only [decide_eq_true_eq] at h3 h4
  omega
theorem uniq_tups {ns ms : List (List Int)} (p : ms.Perm ns) (h : ms.Pairwise fun a b => leL a b = true) : ms = ns.mergeSort leL :=
  List.Perm.eq_of_pairwise (le := fun a b => leL a b = true) (fun a b _ _ h3 h4 => leL_anti h3 h4) h (List.pairwise_mergeSort leL_trans leL_total ns) (p.trans (List.mergeSort_perm _ _).symm)
theorem tupsOf_map : ∀ {xs : List D} {ts : List (List Int)}, tupsOf xs = some ts → xs = ts.map tupD
  | [], ts, e => by simp only [tupsOf, Option.some.injEq] at e; subst e; rfl
  | x :: xs, ts, e => by
    cases x with
    | tup ys =>
      cases q : intsOf ys with
      | none => simp [tupsOf, q] at e
      | some n =>
        cases q2 : tupsOf xs with
        | none => simp [tupsOf, q, q2] at e
        | some ns =>
          simp only [tupsOf, q, q2, Option.some.injEq] at e
          subst e
          rw [List.map_cons, tupsOf_map q2, tupD, intsOf_map q]
    | _ => simp [tupsOf] at e
def tupI' (d : D) : Option (List Int) := match d with
  | .tup zs => intsOf zs
  | _ => none
theorem tupI'_map : ∀ ts : List (List Int), (ts.map tupD).filterMap tupI' = ts
  | [] => rfl
  | t :: ts => by rw [List.map_cons, List.filterMap_cons, tupI'_map ts]; simp only [tupD, tupI', intsOf_ints]
theorem perm_tups {ys : List D} {ts : List (List Int)} (p : ys.Perm (ts.map tupD)) : ∃ ms : List (List Int), ys = ms.map tupD ∧ ms.Perm ts := by
  have h9 := p.filterMap tupI'
  rw [tupI'_map] at h9
  refine ⟨_, ?_, h9⟩
  have : ∀ y ∈ ys, ∃ t, y = tupD t := fun y hy => by
    obtain ⟨t, _, e2⟩ := List.mem_map.mp (p.mem_iff.mp hy)
    exact ⟨t, e2.symm⟩
  clear p h9
  induction ys with
  | nil => rfl
  | cons y ys ih =>
    obtain ⟨t, e2⟩ := this y (List.mem_cons_self ..)
    subst e2
    have ih' := ih fun y hy => this y (List.mem_cons_of_mem _ hy)
    rw [List.filterMap_cons]
    simp only [tupD, tupI', intsOf_ints, List.map_cons]
    exact congrArg _ ih'
section
variable {c : Cn} {ρ : List Addr} {H : Hp}
/-- rows that stand in another order -/
theorem Rvs.perm {xs : List D} {vs us : List V} (p : us.Perm vs) (r : Rvs c ρ H xs vs) : ∃ ys, ys.Perm xs ∧ Rvs c ρ H ys us := by
  have key : ∀ {us vs : List V}, us.Perm vs → ∀ {xs : List D}, Rvs c ρ H xs us → ∃ ys, ys.Perm xs ∧ Rvs c ρ H ys vs := by
    intro us vs p
    induction p with
    | nil => exact fun r => ⟨_, .refl _, r⟩
    | cons v _ ih =>
      intro xs r
      cases r with
      | cons h t =>
        obtain ⟨ys, p2, r2⟩ := ih t
        exact ⟨_, p2.cons _, .cons h r2⟩
    | swap v u _ =>
      intro xs r
      cases r with
      | cons h t =>
        cases t with
        | cons h2 t => exact ⟨_, .swap _ _ _, .cons h2 (.cons h t)⟩
    | trans _ _ ih1 ih2 =>
      intro xs r
      obtain ⟨ys, p1, r1⟩ := ih1 r
      obtain ⟨zs, p2, r2⟩ := ih2 r1
      exact ⟨zs, p2.trans p1, r2⟩
  exact key p.symm r
theorem tups_pw {B : Int} : ∀ {ts : List (List Int)} {us : List V}, Rvs c ρ H (ts.map tupD) us → us.Pairwise (fun x y => ∀ n m, TupI c.K H x n → TupI c.K H y m → TS.code B n ≤ TS.code B m) →
    ts.Pairwise fun n m => TS.code B n ≤ TS.code B m
  | [], _, _, _ => .nil
  | t :: ts, v :: us, .cons h r, p => by
    rw [List.pairwise_cons] at p ⊢
    refine ⟨fun m hm => ?_, tups_pw r p.2⟩
    have hi : ∀ {t : List Int} {v : V}, Rv c ρ H (tupD t) v → TupI c.K H v t := fun {t v} h => by
      cases h with
      | tup h r => exact ⟨_, rfl, by rw [← r.ints (intsOf_ints t)]; exact h.sq⟩
    have : ∃ u, u ∈ us ∧ Rv c ρ H (tupD m) u := by
      obtain ⟨i, hi, e⟩ := List.mem_iff_getElem.mp hm
      obtain ⟨v, h1, h2⟩ := r.get (i := i) (d := tupD m) (by rw [List.getElem?_map, List.getElem?_eq_getElem hi, e]; rfl)
      exact ⟨v, List.mem_of_getElem? h1, h2⟩
    obtain ⟨u, hu, ru⟩ := this
    exact p.1 u hu t m (hi h) (hi ru)
end

section
variable {X : Cx} {c : Cn} {W : WX} {a b d e : Expr} {fa fb fd : Ev D} {qa qb : Ev (List D)} {ua ub : Ev (List D × Wt)} {pos p p1 p2 apos : Pos} {x : Str} {es : List Expr} {fs : Ev (List D)}
/-- a list that stays as it is -/
theorem z_fz (h : PE X e (tN c W qa)) : PE X e (tE c W (zfz qa)) := ⟨fun pins s σ H Q I ⟨ρ, A, σd, R, S, hl⟩ => by
  refine thn (h.run pins s σ H (fun x H1 => ∃ a vs, x = .ref a ∧ H1 a = some (.lst vs) ∧ ∀ ob, Q (.ref a) (upd H1 a (.frz ob (.lst vs)))) I ?_) fun v s1 ⟨x, H1, I1, r, a, vs, e, ha, q⟩ => ?_
  · refine ⟨ρ, A, σd, R, S, (Ld.bind hl).imp fun xs ρ1 A1 H1 R1 s1 h1 a vs n rvs => ⟨a, vs, rfl, upd_same, fun ob => ?_⟩⟩
    rw [upd_upd]
    obtain ⟨R2, s2, _⟩ := R1.laid (ho := .frz ob (.lst vs)) n
    exact h1 ρ1 _ R2 s2 _ (.lst (.inl ⟨ob, upd_same⟩) (rvs.to R1 s2))
  · subst e
    obtain ⟨z, its, n, rv, hob⟩ := I1.hok a _ ha
    exact ⟨.ref a, _, I1.write (x := a) (e := a) (t' := s1.toks) (h' := s1.heap) (by rw [ha]; trivial) (.inl rfl) (fun b u _ h => h) ⟨_, hob⟩ (o := .frz _ (.lst vs)) ⟨hob, z, its, n, rv, hob⟩, r, q _⟩⟩

theorem z_rep (ha : PE X a (tN c W qa)) (hb : PE X b (tE c W fb)) : PE X (.BinOp a .Mult b pos) (tN c W (zrep qa fb)) :=
  (pe_op op_rep ha hb).zm fun σ H Q ⟨ρ, A, σd, R, S, h⟩ => ⟨ρ, A, σd, R, S, (Ld.bind h).imp fun xs ρ1 A1 H1 R1 s1 h1 a vs n rvs => by
    obtain ⟨R2, s2, hp⟩ := R1.laid (ho := .lst vs) n
    refine one R2 ((S.to R s1).to R1 s2) (h1.to s2) fun y u ρ3 A3 H3 R3 s3 S3 ru h3 => ?_
    cases ru <;> first | exact False.elim h3 | skip
    rename_i k
    obtain ⟨e, h4⟩ := ite_none h3
    simp only [Bool.and_eq_true, decide_eq_true_eq] at e
    have hl := rvs.length
    have hz := SZ_le
    have r3 := (rvs.to R1 s2).to R2 s3
    refine ⟨a, k, vs, rfl, rfl, s3.fr a _ upd_same hp, by omega, by omega, by rw [← hl]; omega, fun p n => h4 ρ3 H3 R3 .refl p _ n (r3.rep _)⟩⟩
theorem z_cat (ha : PE X a (tN c W qa)) (hb : PE X b (tN c W qb)) : PE X (.BinOp a .Add b pos) (tN c W (zcat qa qb)) :=
  (pe_op op_cat ha hb).zm fun σ H Q ⟨ρ, A, σd, R, S, h⟩ => ⟨ρ, A, σd, R, S, (Ld.bind h).imp fun xs ρ1 A1 H1 R1 s1 h1 a vs n rvs => by
    obtain ⟨R2, s2, hp⟩ := R1.laid (ho := .lst vs) n
    refine ⟨ρ1, A1, σd, R2, (S.to R s1).to R1 s2, (Ld.bind (h1.to s2)).imp fun ys ρ3 A3 H3 R3 s3 h3 b us n2 rus => ?_⟩
    obtain ⟨R4, s4, hp2⟩ := R3.laid (ho := .lst us) n2
    obtain ⟨hz, h5⟩ := lstM_ok R4 (h3.to s4)
    have e1 : H3 a = some (.lst vs) := s3.fr a _ upd_same hp
    have l1 := rvs.length
    have l2 := rus.length
    have hz2 := SZ_le
    rw [List.length_append] at hz
    have r1 := ((rvs.to R1 s2).to R2 s3).to R3 s4
    have r2 := rus.to R3 s4
    refine ⟨a, b, vs, us, rfl, rfl, ?_, upd_same, by omega, fun p n => h5 p _ n (r1.append r2)⟩
    rw [upd_ne (fun e => by rw [e, n2] at e1; cases e1)]
    exact e1⟩

section
variable {hs : starEach [e] X.env = (false, eval e X.env) :: starEach [] X.env} {hpl : (backTo pos (starEach [] X.env)).any (·.1) = false}
theorem z_allq (hK : c.K = X.K) (hcm : X.calm = true) (hg : Gl X "all") (hm : X.mg "all" = none) (h : PE X e (tL c W qa)) (hs : starEach [e] X.env = (false, eval e X.env) :: starEach [] X.env := by rfl) (hpl : (backTo pos (starEach [] X.env)).any (·.1) = false := by rfl) :
    PE X (.Call (.Name "all" p) [e] [] pos) (tE c W (zallq qa)) :=
  (pe_callB (cr_all hcm) hg hm (by decide +kernel) (pa1 h hs) (he := hs) (hpl := hpl)).zm fun σ H Q ⟨ρ, A, σd, R, S, h⟩ => arg1 <| oneL R S h fun xs a vs ρ1 A1 H1 R1 s1 S1 hs rvs h1 => by
    obtain ⟨r, e, h2⟩ := moL R1 h1
    obtain ⟨bs, e2, e3⟩ := Option.map_eq_some_iff.mp e
    subst e3
    exact ⟨a, bs, rfl, by rw [← hK, ← rvs.bls e2]; exact hs, h2 _ (.bl _)⟩
theorem z_anyq (hK : c.K = X.K) (hcm : X.calm = true) (hg : Gl X "any") (hm : X.mg "any" = none) (h : PE X e (tL c W qa)) (hs : starEach [e] X.env = (false, eval e X.env) :: starEach [] X.env := by rfl) (hpl : (backTo pos (starEach [] X.env)).any (·.1) = false := by rfl) :
    PE X (.Call (.Name "any" p) [e] [] pos) (tE c W (zanyq qa)) :=
  (pe_callB (cr_any hcm) hg hm (by decide +kernel) (pa1 h hs) (he := hs) (hpl := hpl)).zm fun σ H Q ⟨ρ, A, σd, R, S, h⟩ => arg1 <| oneL R S h fun xs a vs ρ1 A1 H1 R1 s1 S1 hs rvs h1 => by
    obtain ⟨r, e, h2⟩ := moL R1 h1
    obtain ⟨bs, e2, e3⟩ := Option.map_eq_some_iff.mp e
    subst e3
    exact ⟨a, bs, rfl, by rw [← hK, ← rvs.bls e2]; exact hs, h2 _ (.bl _)⟩
theorem z_sumq (hK : c.K = X.K) (hcm : X.calm = true) (hg : Gl X "sum") (hm : X.mg "sum" = none) (h : PE X e (tL c W qa)) (hs : starEach [e] X.env = (false, eval e X.env) :: starEach [] X.env := by rfl) (hpl : (backTo pos (starEach [] X.env)).any (·.1) = false := by rfl) :
    PE X (.Call (.Name "sum" p) [e] [] pos) (tE c W (zsumq qa)) :=
  (pe_callB (cr_sum hcm) hg hm (by decide +kernel) (pa1 h hs) (he := hs) (hpl := hpl)).zm fun σ H Q ⟨ρ, A, σd, R, S, h⟩ => arg1 <| oneL R S h fun xs a vs ρ1 A1 H1 R1 s1 S1 hs rvs h1 => by
    obtain ⟨r, e, h2⟩ := moL R1 h1
    obtain ⟨bs, e2, e3⟩ := Option.map_eq_some_iff.mp e
    subst e3
    exact ⟨a, bs, rfl, by rw [← hK, ← rvs.ints e2]; exact hs, h2 _ (.int _)⟩
theorem foldl_min : ∀ (ns : List Int) (n : Int), (ns.foldl min n = n ∨ ns.foldl min n ∈ ns) ∧ ns.foldl min n ≤ n ∧ ∀ y ∈ ns, ns.foldl min n ≤ y
  | [], n => ⟨.inl rfl, Int.le_refl _, fun y h => nomatch h⟩
  | m :: ns, n => by
    obtain ⟨h1, h2, h3⟩ := foldl_min ns (min n m)
    rw [List.foldl_cons]
    refine ⟨?_, by omega, fun y hy => ?_⟩
    · rcases h1 with h1 | h1
      · by_cases q : n ≤ m
        · exact .inl (by omega)
        · exact .inr (by rw [h1]; rw [show min n m = m by omega]; exact List.mem_cons_self ..)
      · exact .inr (List.mem_cons_of_mem _ h1)
    · rcases List.mem_cons.mp hy with e | e
      · subst e; omega
      · exact h3 y e
theorem foldl_max : ∀ (ns : List Int) (n : Int), (ns.foldl max n = n ∨ ns.foldl max n ∈ ns) ∧ n ≤ ns.foldl max n ∧ ∀ y ∈ ns, y ≤ ns.foldl max n
  | [], n => ⟨.inl rfl, Int.le_refl _, fun y h => nomatch h⟩
  | m :: ns, n => by
    obtain ⟨h1, h2, h3⟩ := foldl_max ns (max n m)
    rw [List.foldl_cons]
    refine ⟨?_, by omega, fun y hy => ?_⟩
    · rcases h1 with h1 | h1
      · by_cases q : m ≤ n
        · exact .inl (by omega)
        · exact .inr (by rw [h1]; rw [show max n m = m by omega]; exact List.mem_cons_self ..)
      · exact .inr (List.mem_cons_of_mem _ h1)
    · rcases List.mem_cons.mp hy with e | e
      · subst e; omega
      · exact h3 y e
theorem minI_spec {ns : List Int} {m : Int} (h : minI ns = some m) : 0 < ns.length ∧ ∀ k, k ∈ ns → (∀ y, y ∈ ns → k ≤ y) → k = m := by
  cases ns with
  | nil => cases h
  | cons n ns =>
    cases h
    refine ⟨by simp, fun k hk hl => ?_⟩
    obtain ⟨h1, h2, h3⟩ := foldl_min ns n
    have a1 : k ≤ ns.foldl min n := by
      rcases h1 with h1 | h1
      · rw [h1]; exact hl _ (List.mem_cons_self ..)
      · exact hl _ (List.mem_cons_of_mem _ h1)
    rcases List.mem_cons.mp hk with e | e
    · subst e; omega
    · have := h3 k e; omega
theorem maxI_spec {ns : List Int} {m : Int} (h : maxI ns = some m) : 0 < ns.length ∧ ∀ k, k ∈ ns → (∀ y, y ∈ ns → y ≤ k) → k = m := by
  cases ns with
  | nil => cases h
  | cons n ns =>
    cases h
    refine ⟨by simp, fun k hk hl => ?_⟩
    obtain ⟨h1, h2, h3⟩ := foldl_max ns n
    have a1 : ns.foldl max n ≤ k := by
      rcases h1 with h1 | h1
      · rw [h1]; exact hl _ (List.mem_cons_self ..)
      · exact hl _ (List.mem_cons_of_mem _ h1)
    rcases List.mem_cons.mp hk with e | e
    · subst e; omega
    · have := h3 k e; omega
theorem z_minq (hK : c.K = X.K) (hcm : X.calm = true) (hg : Gl X "min") (hm : X.mg "min" = none) (h : PE X e (tL c W qa)) (hs : starEach [e] X.env = (false, eval e X.env) :: starEach [] X.env := by rfl) (hpl : (backTo pos (starEach [] X.env)).any (·.1) = false := by rfl) :
    PE X (.Call (.Name "min" p) [e] [] pos) (tE c W (zminq qa)) :=
  (pe_callB (cr_min hcm) hg hm boot_min (pa1 h hs) (he := hs) (hpl := hpl)).zm fun σ H Q ⟨ρ, A, σd, R, S, h⟩ => arg1 <| oneL R S h fun xs a vs ρ1 A1 H1 R1 s1 S1 hs rvs h1 => by
    obtain ⟨r, e, h2⟩ := moL R1 h1
    obtain ⟨m, e2, e3⟩ := Option.map_eq_some_iff.mp e
    obtain ⟨ns, e4, e5⟩ := Option.bind_eq_some_iff.mp e2
    subst e3
    obtain ⟨g1, g2⟩ := minI_spec e5
    exact ⟨a, ns, rfl, by rw [← hK, ← rvs.ints e4]; exact hs, g1, fun k hk hl => by rw [g2 k hk hl]; exact h2 _ (.int _)⟩
theorem z_maxq (hK : c.K = X.K) (hcm : X.calm = true) (hg : Gl X "max") (hm : X.mg "max" = none) (h : PE X e (tL c W qa)) (hs : starEach [e] X.env = (false, eval e X.env) :: starEach [] X.env := by rfl) (hpl : (backTo pos (starEach [] X.env)).any (·.1) = false := by rfl) :
    PE X (.Call (.Name "max" p) [e] [] pos) (tE c W (zmaxq qa)) :=
  (pe_callB (cr_max hcm) hg hm boot_max (pa1 h hs) (he := hs) (hpl := hpl)).zm fun σ H Q ⟨ρ, A, σd, R, S, h⟩ => arg1 <| oneL R S h fun xs a vs ρ1 A1 H1 R1 s1 S1 hs rvs h1 => by
    obtain ⟨r, e, h2⟩ := moL R1 h1
    obtain ⟨m, e2, e3⟩ := Option.map_eq_some_iff.mp e
    obtain ⟨ns, e4, e5⟩ := Option.bind_eq_some_iff.mp e2
    subst e3
    obtain ⟨g1, g2⟩ := maxI_spec e5
    exact ⟨a, ns, rfl, by rw [← hK, ← rvs.ints e4]; exact hs, g1, fun k hk hl => by rw [g2 k hk hl]; exact h2 _ (.int _)⟩
end

theorem strsOf_map : ∀ {ds : List D} {ss : List Str}, strsOf ds = some ss → ds = ss.map D.str
  | [], ns, e => by simp [strsOf] at e; subst e; rfl
  | d :: ds, ns, e => by
    cases d with
    | str b =>
      cases h : strsOf ds with
      | none => simp [strsOf, h] at e
      | some cs =>
        simp [strsOf, h] at e
        subst e
        rw [List.map_cons, strsOf_map h]
    | _ => simp [strsOf] at e
theorem strsOf_strs : ∀ ss : List Str, strsOf (ss.map D.str) = some ss
  | [] => rfl
  | n :: ns => by simp [strsOf, strsOf_strs ns]
theorem Rvs.strs {ρ : List Addr} {H : Hp} : ∀ {ds : List D} {vs : List V} {ss : List Str}, Rvs c ρ H ds vs → strsOf ds = some ss → vs = ss.map V.str
  | [], _, ns, .nil, e => by simp [strsOf] at e; subst e; rfl
  | d :: ds, _, ns, .cons r t, e => by
    cases d with
    | str b =>
      cases h : strsOf ds with
      | none => simp [strsOf, h] at e
      | some cs =>
        simp [strsOf, h] at e
        subst e
        cases r
        rw [List.map_cons, Rvs.strs t h]
    | _ => simp [strsOf] at e
theorem Rvs.of_strs {ρ : List Addr} {H : Hp} : ∀ ss : List Str, Rvs c ρ H (ss.map D.str) (ss.map V.str)
  | [] => .nil
  | n :: ns => .cons (.str n) (Rvs.of_strs ns)
theorem tups_pwL {ρ : List Addr} {H : Hp} : ∀ {ts : List (List Int)} {us : List V}, Rvs c ρ H (ts.map tupD) us → us.Pairwise (fun x y => ∀ n m, TupJ c.K H x n → TupJ c.K H y m → HT.lexLt m n = false) →
    ts.Pairwise fun n m => leL n m = true
  | [], _, _, _ => .nil
  | t :: ts, v :: us, .cons h r, p => by
    rw [List.pairwise_cons] at p ⊢
    refine ⟨fun m hm => ?_, tups_pwL r p.2⟩
    have hi : ∀ {t : List Int} {v : V}, Rv c ρ H (tupD t) v → TupJ c.K H v t := fun {t v} h => by
      cases h with
      | tup h r => exact ⟨_, rfl, by rw [← r.ints (intsOf_ints t)]; exact h.sq⟩
    have : ∃ u, u ∈ us ∧ Rv c ρ H (tupD m) u := by
      obtain ⟨i, hi, e⟩ := List.mem_iff_getElem.mp hm
      obtain ⟨v, h1, h2⟩ := r.get (i := i) (d := tupD m) (by rw [List.getElem?_map, List.getElem?_eq_getElem hi, e]; rfl)
      exact ⟨v, List.mem_of_getElem? h1, h2⟩
    obtain ⟨u, hu, ru⟩ := this
    unfold leL
    rw [p.1 u hu t m (hi h) (hi ru)]
    rfl
theorem leS_eq : leS = SrtL.leC' := rfl
theorem z_sort (hK : c.K = X.K) (hg : Gl X "sorted") (hm : X.mg "sorted" = none) (h : PE X e (tL c W qa)) (hs : starEach [e] X.env = (false, eval e X.env) :: starEach [] X.env := by rfl) (hpl : (backTo pos (starEach [] X.env)).any (·.1) = false := by rfl) :
    PE X (.Call (.Name "sorted" p) [e] [] pos) (tN c W (zsort qa)) :=
  (pe_callB (cr_sortedI.or (cr_sortTL.or cr_sortS)) hg hm boot_sorted (pa1 h hs) (he := hs) (hpl := hpl)).zm fun σ H Q ⟨ρ, A, σd, R, S, h⟩ => arg1 <| oneL R S h fun xs a vs ρ1 A1 H1 R1 s1 S1 hs rvs h1 => by
    obtain ⟨r, e, h2⟩ := moL R1 h1
    unfold sortD at e
    rw [hK] at hs
    split at e
    · rename_i ns e1
      cases e
      refine .inl ⟨a, ns, rfl, by rw [← rvs.ints e1]; exact hs, fun ms p pm pw n => ?_⟩
      rw [uniq_ints pm pw]
      exact h2 p _ n (.of_ints _)
    · split at e
      · rename_i ts e1
        split at e
        · rename_i q
          cases e
          have ex := tupsOf_map e1
          refine .inr (.inl ⟨a, vs, rfl, hs, fun v hv => ?_, fun us p pm pw n => ?_⟩)
          · obtain ⟨i, hi, e2⟩ := List.mem_iff_getElem.mp hv
            obtain ⟨dd, g1, g2⟩ := rvs.at' (i := i) (v := v) (by rw [List.getElem?_eq_getElem hi, e2])
            have hm : dd ∈ ts.map tupD := by rw [← ex]; exact List.mem_of_getElem? g1
            obtain ⟨t2, m1, m2⟩ := List.mem_map.mp hm
            subst m2
            have f1 := List.all_eq_true.mp q t2 m1
            cases g2 with
            | tup h r => exact ⟨t2, ⟨_, rfl, by rw [← hK, ← r.ints (intsOf_ints t2)]; exact h.sq⟩, fun z => by subst z; simp at f1⟩
          · obtain ⟨ys, py, ry⟩ := rvs.perm pm
            rw [ex] at py
            obtain ⟨ms, e5, pms⟩ := perm_tups py
            subst e5
            have pw3 := tups_pwL ry (by rw [hK]; exact pw)
            rw [uniq_tups pms pw3] at ry
            exact h2 p us n ry
        · cases e
      · split at e
        · rename_i ss e1
          cases e
          exact .inr (.inr ⟨a, ss, rfl, by rw [← rvs.strs e1]; exact hs, fun p n => h2 p _ n (.of_strs _)⟩)
        · cases e
theorem z_sortR {kw : List Keyword} (hK : c.K = X.K) (hg : Gl X "sorted") (hm : X.mg "sorted" = none) (h : PE X e (tL c W qa)) (hk : PK X kw (fun _ H Q => Q [.bl true] H)) (he : backTo pos (starEach [e] X.env) = (false, eval e X.env) :: backTo pos (starEach [] X.env) := by rfl)
    (hs : starEach [e] X.env = (false, eval e X.env) :: starEach [] X.env := by rfl) (hpl : (backTo pos (starEach [e] X.env)).any (·.1) = false := by rfl)
    (hall : (backToKw pos (keywordEach kw X.env)).all (·.1.isSome) = true := by rfl) (hnone : (backToKw pos (keywordEach kw X.env)).any (·.1.isNone) = false := by rfl) (hks : (backToKw pos (keywordEach kw X.env)).filterMap (·.1) = [Str.ofString "reverse"] := by rfl) :
    PE X (.Call (.Name "sorted" p) [e] kw pos) (tN c W (zsortR qa)) :=
  (pe_callBK cr_sortSR hg hm boot_sorted (pa1 h hs) hk (by decide) (by decide) he hpl hall hnone hks).zm fun σ H Q ⟨ρ, A, σd, R, S, h⟩ => show tL c W qa σ H (fun x H1 => rSortSR X.K [x] [.bl true] H1 Q) from oneL R S h fun xs a vs ρ1 A1 H1 R1 s1 S1 hs rvs h1 => by
    obtain ⟨r, e, h2⟩ := moL R1 h1
    unfold sortRD at e
    rw [hK] at hs
    split at e
    · rename_i ss e1
      cases e
      exact ⟨a, ss, rfl, rfl, by rw [← rvs.strs e1]; exact hs, fun p n => h2 p _ n (.of_strs _)⟩
    · cases e
end
end Z

noncomputable section
set_option maxHeartbeats 2000000
namespace Z
open PySem PySem.Spec PyProof.Rows L2

section
variable {X : Cx}
def rSetL (K : PySem.W.Frag) (w : World) : List V → Hp → VK → Prop := fun xs H Q => ∃ (a : Addr) (ns : List Int), xs = [.ref a] ∧ SqL K H a (ns.map V.int) ∧ ns.length < 64 ∧
  ∀ p n, H p = none → n ≤ ns.length → Q (.ref p) (upd H p (SetO w p (fun j => decide (j ∈ ns)) n))
theorem cr_setL (hc : X.calm = true) : CallR X (.type "set") (rSetL X.K X.w) := by
  intro pins s σ H xs us Q I r h
  obtain ⟨a, ns, rfl, hs, hz, q⟩ := h
  obtain ⟨its, rv, hl, _⟩ := I.list hs
  rw [Vals.ref1 r]
  refine set_of_list (I.ok.hd hc) hl.isList (by simpa using rv.ints) (by unfold scanBound; omega) fun h2 t2 n R2 hn hk => ?_
  exact ⟨.ref _, _, I.laid (t' := t2) hk (Nat.le_refl _) (setO_new R2), rfl, q _ _ (I.hok.fresh (Nat.le_refl _)) hn⟩
end

inductive Ty0 where | int | bool | tuple | str | list
  deriving DecidableEq
inductive Ty1 where | non | bl | int | str | tup | lst | dic
  deriving DecidableEq
def Ty0.n : Ty0 → String
  | .int => "int"
  | .bool => "bool"
  | .tuple => "tuple"
  | .str => "str"
  | .list => "list"
def Ty1.n : Ty1 → String
  | .non => "NoneType"
  | .bl => "bool"
  | .int => "int"
  | .str => "str"
  | .tup => "tuple"
  | .lst => "list"
  | .dic => "dict"
def isiB : Ty1 → Ty0 → Bool
  | .bl, .int => true
  | .bl, .bool => true
  | .int, .int => true
  | .str, .str => true
  | .tup, .tuple => true
  | .lst, .list => true
  | _, _ => false
theorem isi_kit (a : Ty1) (b : Ty0) : kitB a.n b.n = some (isiB a b) := by cases a <;> cases b <;> decide +kernel
theorem boot_ty (b : Ty0) : bootBuiltins (Str.ofString b.n) = some (.type b.n) := by cases b <;> decide +kernel
def tyD (A : Hh) : D → Option Ty1
  | .non => some .non
  | .bl _ => some .bl
  | .int _ => some .int
  | .str _ => some .str
  | .tup _ => some .tup
  | .lst _ => some .lst
  | .ref n => match A[n]? with
    | some (.lst _) => some .lst
    | _ => none
  | .emp => some .dic
  | .exc _ => none
def zisi (T : Ty0) (a : Ev D) : Ev D := fun σ => mb (a σ) fun x A => (tyD A x).map fun k => .ok (.bl (isiB k T)) A
theorem tyD_ok {c : Cn} {ρ : List Addr} {A : Hh} {H : Hp} {x : D} {v : V} {k : Ty1} (R : Rel c ρ A H) (r : Rv c ρ H x v) (e : tyD A x = some k) : TyX c.K H v (.type k.n) := by
  cases r with
  | non => cases e; exact .base .non
  | bl b => cases e; exact .base (.bl b)
  | int i => cases e; exact .base (.int i)
  | str y => cases e; exact .base (.str y)
  | tup h t =>
    cases e
    rcases h with ⟨o, h, _⟩ | ⟨o, its, n, h1, h2, _⟩
    · exact .fTuple h
    · exact .kTuple h1 h2
  | lst h t =>
    cases e
    rcases h with ⟨o, h⟩ | ⟨o, its, n, h1, h2, _⟩
    · exact .base (.frz h)
    · exact .kList h1 h2
  | ref h =>
    simp only [tyD] at e
    split at e
    · rename_i xs hA
      cases e
      obtain ⟨ho, h1, vs, rfl, h3⟩ := R.obj _ _ _ hA h
      exact .base (.lst h1)
    · cases e
  | exc h t => cases e
  | emp h t => cases e; exact .fDict h

section
variable {X : Cx} {c : Cn} {W : WX} {a b d e e1 e2 : Expr} {fa fb fd : Ev D} {qa qb : Ev (List D)} {ua ub : Ev (List D × Wt)} {pos p p1 p2 apos cpos : Pos} {x : Str} {es : List Expr} {fs : Ev (List D)}
theorem z_sortset (hK : c.K = X.K) (hcm : X.calm = true) (hg : Gl X "sorted") (hm : X.mg "sorted" = none) (hg2 : Gl X "set") (hm2 : X.mg "set" = none) (h : PE X e (tL c W qa)) (hs : starEach [e] X.env = (false, eval e X.env) :: starEach [] X.env := by rfl)
    (hpl : (backTo p2 (starEach [] X.env)).any (·.1) = false := by rfl) (hs2 : starEach [.Call (.Name "set" p1) [e] [] p2] X.env = (false, eval (.Call (.Name "set" p1) [e] [] p2) X.env) :: starEach [] X.env := by rfl)
    (hpl2 : (backTo pos (starEach [] X.env)).any (·.1) = false := by rfl) :
    PE X (.Call (.Name "sorted" p) [.Call (.Name "set" p1) [e] [] p2] [] pos) (tN c W (zsortset qa)) :=
  (pe_callB (cr_sortedSet hcm) hg hm boot_sorted (pa1 (pe_callTy (cr_setL hcm) hg2 hm2 boot_set (pa1 h hs) (he := hs) (hpl := hpl)) hs2) (he := hs2) (hpl := hpl2)).zm fun σ H Q ⟨ρ, A, σd, R, S, h⟩ => arg1 <| arg1 <| oneL R S h fun xs a vs ρ1 A1 H1 R1 s1 S1 hs rvs h1 => by
    split at h1
    · rename_i ns e
      obtain ⟨hz, h2⟩ := iteP R1 h1.later
      refine ⟨a, ns, rfl, by rw [← hK, ← rvs.ints e]; exact hs, hz, fun p n hp hn => ⟨p, _, n, rfl, upd_same, by omega, fun ms q pw mem hl nq => ?_⟩⟩
      obtain ⟨R2, s2, _⟩ := R1.laid (ho := SetO X.w p (fun j => decide (j ∈ ns)) n) hp
      have e2 : ms = (dd ns).mergeSort leZ := by
        refine List.Perm.eq_of_pairwise (le := fun a b => leZ a b = true) (fun a b _ _ h3 h4 => ?_) (pw.imp fun h3 => ?_) (List.pairwise_mergeSort leZ_trans leZ_total _) ?_
        · unfold leZ at h3 h4
          simp only [decide_eq_true_eq] at h3 h4
          omega
        · unfold leZ
          exact decide_eq_true (by omega)
        · refine List.Perm.trans ?_ (List.mergeSort_perm _ _).symm
          refine (List.perm_ext_iff_of_nodup (pw.imp fun h3 => by omega) (nodup_dd ns)).mpr fun j => ?_
          rw [mem j, decide_eq_true_eq, mem_dd]
      subst e2
      exact h2 ρ1 _ R2 s2 q _ nq (.of_ints _)
    · exact False.elim h1
theorem z_isi (T : Ty0) (hK : c.K = X.K) (hg : Gl X "isinstance") (hm : X.mg "isinstance" = none) (hg2 : Gl X (Str.ofString T.n)) (hm2 : X.mg (Str.ofString T.n) = none) (h : PE X e (tE c W fa))
    (na : starEach [e, .Name (Str.ofString T.n) p2] X.env = (false, eval e X.env) :: starEach [.Name (Str.ofString T.n) p2] X.env := by rfl) (nb : starEach [.Name (Str.ofString T.n) p2] X.env = (false, eval (.Name (Str.ofString T.n) p2) X.env) :: starEach [] X.env := by rfl)
    (hpl : (backTo pos (starEach [.Name (Str.ofString T.n) p2] X.env)).any (·.1) = false := by rfl) :
    PE X (.Call (.Name "isinstance" p) [e, .Name (Str.ofString T.n) p2] [] pos) (tE c W (zisi T fa)) :=
  (pe_callB call_isi hg hm boot_isinstance (pa_cons h (pa1 (pe_bltn hg2 hm2 (boot_ty T) (show RelV (.ty T.n) (.type T.n) from rfl) (by cases T <;> decide) (by cases T <;> decide)) nb) na) (he := na) (hpl := hpl)).zm fun σ H Q ⟨ρ, A, σd, R, S, h⟩ =>
    show tE c W fa σ H _ from one R S h fun x v ρ1 A1 H1 R1 s1 S1 rv h1 => by
    obtain ⟨k, e, h2⟩ := mapL (g := fun k => D.bl (isiB k T)) R1 h1
    exact ⟨v, .ty T.n, .type k.n, .type T.n, isiB k T, rfl, .ty _, by rw [← hK]; exact tyD_ok R1 rv e, kit_ty (isi_kit k T), h2 _ (.bl _)⟩

theorem arg2 {t t2 : TE} {r : List V → Hp → VK → Prop} {σ : L2.St} {H : Hp} {Q : VK} (h : t σ H fun x H1 => t2 σ H1 fun y H2 => r [x, y] H2 Q) : tCB r (tCons t (tCons t2 tNil)) σ H Q := h
def zlen (a : Ev D) : Ev D := fun σ => mb (a σ) fun x A => (biD .len [x] A).map fun d => .ok d A
theorem z_len (hK : c.K = X.K) (hg : Gl X "len") (hm : X.mg "len" = none) (h : PE X e (tE c W fa)) (hs : starEach [e] X.env = (false, eval e X.env) :: starEach [] X.env := by rfl) (hpl : (backTo pos (starEach [] X.env)).any (·.1) = false := by rfl) :
    PE X (.Call (.Name "len" p) [e] [] pos) (tE c W (zlen fa)) :=
  (pe_callB (call_len_seq.or call_len_str) hg hm boot_len (pa1 h hs) (he := hs) (hpl := hpl)).zm fun σ H Q ⟨ρ, A, σd, R, S, h⟩ => arg1 <| one R S h fun x v ρ1 A1 H1 R1 s1 S1 rv h1 => by
    obtain ⟨r, e, h2⟩ := mapL (g := fun d => d) R1 h1
    have key : ∀ q, seqD A1 x = some q → r = .int q.1.length → (∃ p ys, [v] = [V.ref p] ∧ (SqL X.K H1 p ys ∨ SqT X.K H1 p ys) ∧ Q (.int ys.length) H1) := fun q e2 e3 => by
      obtain ⟨a, vs, rfl, hs, rvs⟩ := seqD_ok R1 rv e2
      subst e3
      refine ⟨a, vs, rfl, by rw [← hK]; exact hs.sq, ?_⟩
      rw [← rvs.length]
      exact h2 _ (.int _)
    cases x with
    | str y =>
      cases rv
      simp only [biD] at e
      split at e
      · rename_i hz
        cases e
        exact .inr ⟨y, rfl, by have := SZ_le; omega, h2 _ (.int _)⟩
      · cases e
    | tup xs =>
      cases e
      exact .inl (key _ rfl rfl)
    | lst xs =>
      cases e
      exact .inl (key _ rfl rfl)
    | ref n =>
      simp only [biD] at e
      obtain ⟨q, e2, e3⟩ := Option.map_eq_some_iff.mp e
      exact .inl (key q e2 e3.symm)
    | non => simp [biD, seqD] at e
    | bl b => simp [biD, seqD] at e
    | int i => simp [biD, seqD] at e
    | exc _ => simp [biD, seqD] at e
    | emp => simp [biD, seqD] at e
def zabs (a : Ev D) : Ev D := fun σ => mb (a σ) fun x => match x with
  | .int i => ok (.int (if i < 0 then -i else i))
  | _ => fun _ => none
theorem z_abs (hg : Gl X "abs") (hm : X.mg "abs" = none) (h : PE X e (tE c W fa)) (hs : starEach [e] X.env = (false, eval e X.env) :: starEach [] X.env := by rfl) (hpl : (backTo pos (starEach [] X.env)).any (·.1) = false := by rfl) :
    PE X (.Call (.Name "abs" p) [e] [] pos) (tE c W (zabs fa)) :=
  (pe_callB call_abs hg hm (by decide +kernel) (pa1 h hs) (he := hs) (hpl := hpl)).zm fun σ H Q ⟨ρ, A, σd, R, S, h⟩ => arg1 <| one R S h fun x v ρ1 A1 H1 R1 s1 S1 rv h1 => by
    cases rv <;> first | exact False.elim h1 | skip
    exact ⟨_, rfl, h1 ρ1 H1 R1 .refl _ (.int _)⟩
def zdvm (a b : Ev D) : Ev D := fun σ => mb (a σ) fun x => mb (b σ) fun y => match x, y with
  | .int i, .int j => fun A => if decide (0 < j) && small i then some (.ok (.tup [.int (i / j), .int (i % j)]) A) else none
  | _, _ => fun _ => none
set_option exponentiation.threshold 4000 in
theorem z_dvm (hg : Gl X "divmod") (hm : X.mg "divmod" = none) (ha : PE X e1 (tE c W fa)) (hb : PE X e2 (tE c W fb)) (na : starEach [e1, e2] X.env = (false, eval e1 X.env) :: starEach [e2] X.env := by rfl) (nb : starEach [e2] X.env = (false, eval e2 X.env) :: starEach [] X.env := by rfl)
    (hpl : (backTo pos (starEach [e2] X.env)).any (·.1) = false := by rfl) : PE X (.Call (.Name "divmod" p) [e1, e2] [] pos) (tE c W (zdvm fa fb)) :=
  (pe_callB call_divF hg hm boot_divmod (pa_cons ha (pa1 hb nb) na) (he := na) (hpl := hpl)).zm fun σ H Q ⟨ρ, A, σd, R, S, h⟩ => arg2 <| two R S h fun x y v u ρ1 A1 H1 R1 s1 S1 rv ru h1 => by
    cases rv <;> cases ru <;> first | exact False.elim h1 | skip
    obtain ⟨e, h2⟩ := ite_none h1
    rw [Bool.and_eq_true] at e
    refine ⟨_, _, rfl, divp_ok (of_decide_eq_true e.1) (Nat.le_trans (intBits_le (small_lt e.2)) (by omega)), newTup R1 (.cons (.int _) (.cons (.int _) .nil)) h2⟩
def zmx2 (a b : Ev D) : Ev D := fun σ => mb (a σ) fun x => mb (b σ) fun y => match x, y with
  | .int i, .int j => ok (.int (max i j))
  | _, _ => fun _ => none
def zmn2 (a b : Ev D) : Ev D := fun σ => mb (a σ) fun x => mb (b σ) fun y => match x, y with
  | .int i, .int j => ok (.int (min i j))
  | _, _ => fun _ => none
theorem z_mx2 (hcm : X.calm = true) (hg : Gl X "max") (hm : X.mg "max" = none) (ha : PE X e1 (tE c W fa)) (hb : PE X e2 (tE c W fb)) (na : starEach [e1, e2] X.env = (false, eval e1 X.env) :: starEach [e2] X.env := by rfl) (nb : starEach [e2] X.env = (false, eval e2 X.env) :: starEach [] X.env := by rfl)
    (hpl : (backTo pos (starEach [e2] X.env)).any (·.1) = false := by rfl) : PE X (.Call (.Name "max" p) [e1, e2] [] pos) (tE c W (zmx2 fa fb)) :=
  (pe_callB (call_max2 hcm) hg hm boot_max (pa_cons ha (pa1 hb nb) na) (he := na) (hpl := hpl)).zm fun σ H Q ⟨ρ, A, σd, R, S, h⟩ => arg2 <| two R S h fun x y v u ρ1 A1 H1 R1 s1 S1 rv ru h1 => by
    cases rv <;> cases ru <;> first | exact False.elim h1 | skip
    rename_i i j
    have e : (if j > i then j else i) = max i j := by split <;> omega
    refine ⟨i, j, rfl, ?_⟩
    rw [e]
    exact h1 ρ1 H1 R1 .refl _ (.int _)
theorem z_mn2 (hcm : X.calm = true) (hg : Gl X "min") (hm : X.mg "min" = none) (ha : PE X e1 (tE c W fa)) (hb : PE X e2 (tE c W fb)) (na : starEach [e1, e2] X.env = (false, eval e1 X.env) :: starEach [e2] X.env := by rfl) (nb : starEach [e2] X.env = (false, eval e2 X.env) :: starEach [] X.env := by rfl)
    (hpl : (backTo pos (starEach [e2] X.env)).any (·.1) = false := by rfl) : PE X (.Call (.Name "min" p) [e1, e2] [] pos) (tE c W (zmn2 fa fb)) :=
  (pe_callB (call_min2 hcm) hg hm boot_min (pa_cons ha (pa1 hb nb) na) (he := na) (hpl := hpl)).zm fun σ H Q ⟨ρ, A, σd, R, S, h⟩ => arg2 <| two R S h fun x y v u ρ1 A1 H1 R1 s1 S1 rv ru h1 => by
    cases rv <;> cases ru <;> first | exact False.elim h1 | skip
    rename_i i j
    have e : (if j < i then j else i) = min i j := by split <;> omega
    refine ⟨i, j, rfl, ?_⟩
    rw [e]
    exact h1 ρ1 H1 R1 .refl _ (.int _)
def zint (a : Ev D) : Ev D := fun σ => mb (a σ) fun x => match x with
  | .int i => ok (.int i)
  | .bl b => ok (.int (if b then 1 else 0))
  | _ => fun _ => none
theorem z_toint (hg : Gl X "int") (hm : X.mg "int" = none) (h : PE X e (tE c W fa)) (hs : starEach [e] X.env = (false, eval e X.env) :: starEach [] X.env := by rfl) (hpl : (backTo pos (starEach [] X.env)).any (·.1) = false := by rfl) :
    PE X (.Call (.Name "int" p) [e] [] pos) (tE c W (zint fa)) :=
  (pe_callTy call_int1 hg hm boot_int (pa1 h hs) (he := hs) (hpl := hpl)).zm fun σ H Q ⟨ρ, A, σd, R, S, h⟩ => arg1 <| one R S h fun x v ρ1 A1 H1 R1 s1 S1 rv h1 => by
    cases rv <;> first | exact False.elim h1 | skip
    · exact .inr ⟨_, rfl, h1 ρ1 H1 R1 .refl _ (.int _)⟩
    · exact .inl ⟨_, rfl, h1 ρ1 H1 R1 .refl _ (.int _)⟩

/-- a method of a list of this moment -/
def zm1 (m : Bm) (o e : Ev D) : Ev D := fun σ => mb (o σ) fun x => mb (fun A => (lstD A x).map fun _ => .ok () A) fun _ => mb (e σ) fun y => bmD m x [y]
def zm0 (m : Bm) (o : Ev D) : Ev D := fun σ => mb (o σ) fun x => bmD m x []
theorem lst_ty {ρ : List Addr} {A : Hh} {H : Hp} {x : D} {v : V} {q : List D} (R : Rel c ρ A H) (r : Rv c ρ H x v) (e : lstD A x = some q) : tyV c.K "list" v H := by
  obtain ⟨a, vs, rfl, h, _⟩ := lstD_ok R r e
  exact .inl ⟨rfl, vs, h⟩
theorem findIdx_at : ∀ {ns : List Int} {k : Int} {j : Nat}, ns.findIdx? (fun m => decide (m = k)) = some j → ns[j]? = some k ∧ ∀ m : Nat, m < j → ns[m]? ≠ some k := by
  intro ns k j h
  obtain ⟨h1, h2, h3⟩ := List.findIdx?_eq_some_iff_getElem.mp h
  refine ⟨by rw [List.getElem?_eq_getElem h1, of_decide_eq_true h2], fun m hm e => ?_⟩
  have h4 := h3 m hm
  rw [List.getElem?_eq_getElem (by omega)] at e
  cases e
  simp at h4
end
section
variable {X : Cx} {c : Cn} {W : WX} {o e : Expr} {fo fa : Ev D} {pos p apos cpos : Pos}
theorem m1_ok {m : Bm} {r : V → List V → Hp → VK → Prop} {id : String} (hm : MtR X id r) {name : Str} (slot : Slot "list" name id) (hty : typeOf (.builtin id) = pure (.type "method_descriptor")) (hK : c.K = X.K)
    (ok : ∀ ρ A H (σ : L2.St) x y v u (Q : VK), Rel c ρ A H → Rv c ρ H x v → Rv c ρ H y u → Ld c ρ H σ W (bmD m x [y] A) (fun d ρ' _ H' => ∀ v, Rv c ρ' H' d v → Q v H') → r v [u] H Q)
    (ho : PE X o (tE c W fo)) (ha : PE X e (tE c W fa)) (hbase : attributeBase o name X.env (eval o X.env) = eval o X.env := by rfl)
    (hfew : ((backTo cpos (starEach [e] X.env)).all (fun x => !x.1) && (backToKw cpos (keywordEach [] X.env)).all (fun x => x.1.isSome)
      && decide (([e]).length + ([] : List Keyword).length + (if ([] : List Keyword).isEmpty then 0 else 1) < 30)) = true := by rfl)
    (hline : (apos.endLine == cpos.line) = true := by rfl) (hs : starEach [e] X.env = (false, eval e X.env) :: starEach [] X.env := by rfl) (hplain : (backTo cpos (starEach [] X.env)).any (·.1) = false := by rfl) :
    PE X (.Call (.Attribute o name apos) [e] [] cpos) (tE c W (zm1 m fo fa)) :=
  (pe_bm PySem.F.plainAttrs_list slot hty hm ho (pa1 ha hs) hbase hfew hline hs hplain).zm fun σ H Q ⟨ρ, A, σd, R, S, h⟩ => show tE c W fo σ H _ from one R S h fun x v ρ1 A1 H1 R1 s1 S1 rv h1 => by
    obtain ⟨q, e, h2⟩ := mapL (g := fun _ => ()) R1 (Ld.bind h1)
    rw [← hK]
    exact ⟨lst_ty R1 rv e, show tE c W fa σ H1 _ from one R1 S1 h2 fun y u ρ2 A2 H2 R2 s2 S2 ru h3 => ok ρ2 A2 H2 σ x y v u Q R2 (rv.to R1 s2) ru h3⟩
theorem z_append (hK : c.K = X.K) (ho : PE X o (tE c W fo)) (ha : PE X e (tE c W fa)) (hbase : attributeBase o "append" X.env (eval o X.env) = eval o X.env := by rfl)
    (hfew : ((backTo cpos (starEach [e] X.env)).all (fun x => !x.1) && (backToKw cpos (keywordEach [] X.env)).all (fun x => x.1.isSome)
      && decide (([e]).length + ([] : List Keyword).length + (if ([] : List Keyword).isEmpty then 0 else 1) < 30)) = true := by rfl)
    (hline : (apos.endLine == cpos.line) = true := by rfl) (hs : starEach [e] X.env = (false, eval e X.env) :: starEach [] X.env := by rfl) (hplain : (backTo cpos (starEach [] X.env)).any (·.1) = false := by rfl) :
    PE X (.Call (.Attribute o "append" apos) [e] [] cpos) (tE c W (zm1 .append fo fa)) :=
  m1_ok mt_append PySem.F.slot_list_append PySem.F.type_list_append hK (fun ρ A H σ x y v u Q R rv ru h => by
    cases x <;> first | exact False.elim h | skip
    rename_i n
    simp only [bmD] at h
    split at h
    · rename_i xs hA
      obtain ⟨a, vs, rfl, h1, h2, h3⟩ := R.lst hA rv
      split at h
      · rename_i hz
        have hl := h3.length
        have := SZ_le
        obtain ⟨R2, s2⟩ := R.wrote (o := .lst (xs ++ [y])) h1 (ho := .lst (vs ++ [u])) ⟨_, rfl, h3.append (.cons ru .nil)⟩
        exact ⟨a, vs, u, rfl, rfl, h2, by omega, h _ _ R2 s2 _ .non⟩
      · exact False.elim h
    · exact False.elim h) ho ha hbase hfew hline hs hplain
theorem z_remove (hK : c.K = X.K) (ho : PE X o (tE c W fo)) (ha : PE X e (tE c W fa)) (hbase : attributeBase o "remove" X.env (eval o X.env) = eval o X.env := by rfl)
    (hfew : ((backTo cpos (starEach [e] X.env)).all (fun x => !x.1) && (backToKw cpos (keywordEach [] X.env)).all (fun x => x.1.isSome)
      && decide (([e]).length + ([] : List Keyword).length + (if ([] : List Keyword).isEmpty then 0 else 1) < 30)) = true := by rfl)
    (hline : (apos.endLine == cpos.line) = true := by rfl) (hs : starEach [e] X.env = (false, eval e X.env) :: starEach [] X.env := by rfl) (hplain : (backTo cpos (starEach [] X.env)).any (·.1) = false := by rfl) :
    PE X (.Call (.Attribute o "remove" apos) [e] [] cpos) (tE c W (zm1 .remove fo fa)) :=
  m1_ok mt_remove PySem.F.slot_list_remove PySem.F.type_list_remove hK (fun ρ A H σ x y v u Q R rv ru h => by
    cases x <;> first | exact False.elim h | skip
    cases y <;> first | exact False.elim h | skip
    rename_i n k
    simp only [bmD] at h
    split at h
    · rename_i xs hA
      obtain ⟨a, vs, rfl, h1, h2, h3⟩ := R.lst hA rv
      split at h
      · rename_i ns e1
        split at h
        · rename_i j e2
          have ev := h3.ints e1
          have ex := intsOf_map e1
          subst ev
          obtain ⟨g1, g2⟩ := findIdx_at e2
          cases ru
          have r4 := h3.eraseIdx j
          rw [erase_mapI] at r4
          obtain ⟨R2, s2⟩ := R.wrote (o := .lst (xs.eraseIdx j)) h1 (ho := .lst ((ns.eraseIdx j).map V.int)) ⟨_, rfl, r4⟩
          exact ⟨a, ns, k, j, rfl, rfl, h2, g1, g2, h _ _ R2 s2 _ .non⟩
        · exact False.elim h
      · exact False.elim h
    · exact False.elim h) ho ha hbase hfew hline hs hplain
theorem z_pop (hK : c.K = X.K) (ho : PE X o (tE c W fo)) (hbase : attributeBase o "pop" X.env (eval o X.env) = eval o X.env := by rfl) (hline : (apos.endLine == cpos.line) = true := by rfl) :
    PE X (.Call (.Attribute o "pop" apos) [] [] cpos) (tE c W (zm0 .pop fo)) :=
  (pe_bm0 PySem.F.plainAttrs_list PySem.F.slot_list_pop PySem.F.type_list_pop mt_pop ho hbase hline).zm fun σ H Q ⟨ρ, A, σd, R, S, h⟩ => show tE c W fo σ H _ from one R S h fun x v ρ1 A1 H1 R1 s1 S1 rv h1 => by
    cases x <;> first | exact False.elim h1 | skip
    rename_i n
    simp only [bmD] at h1
    split at h1
    · rename_i xs hA
      obtain ⟨a, vs, rfl, g1, g2, g3⟩ := R1.lst hA rv
      split at h1
      · rename_i y hy
        obtain ⟨u, hu, ru⟩ := g3.get hy
        rw [g3.length] at hu
        obtain ⟨R2, s2⟩ := R1.wrote (o := .lst xs.dropLast) g1 (ho := .lst vs.dropLast) ⟨_, rfl, g3.dropLast⟩
        exact ⟨.inl ⟨rfl, vs, .of g2⟩, a, vs, u, rfl, rfl, g2, hu, h1 _ _ R2 s2 _ (ru.to R1 s2)⟩
      · exact False.elim h1
    · exact False.elim h1
def rCntT (K : PySem.W.Frag) : V → List V → Hp → VK → Prop := fun x xs H Q => ∃ (p : Addr) (ns : List Int) (k : Int), x = .ref p ∧ xs = [.int k] ∧ SqT K H p (ns.map V.int) ∧ Q (.int (ns.count k : Nat)) H
theorem mt_tcount : MtR X "tuple.count" (rCntT X.K) := by
  intro pins s σ H x xs v us Q I rx rxs h
  obtain ⟨p, ns, k, rfl, rfl, hs, q⟩ := h
  cases rx
  obtain ⟨u, rfl, t, rfl⟩ := rxs.one
  obtain ⟨its, rv, ⟨⟨c1, dd, data, sl⟩, ho, hc, n, hd⟩, _⟩ := I.tuple hs
  dsimp only at hc hd
  cases hc
  cases hd
  have hi := ints_of_vals rv
  refine call_meets PySem.F.slot_tuple_count ⟨_, ho, rfl⟩ PySem.F.entry_tuple_count (PySem.F.args_tuple_count_2 _ _) (SeqAt.tuple_countAt p its.toArray n dd sl (.int k t) (eqk k)) ⟨ho, fun y hy => (eqk_gives hi y (by simpa using hy)).at _ _, ?_⟩
  refine ⟨.int (ns.count k : Nat), H, I.tok _, ⟨s.toks, ?_⟩, q⟩
  have := eqk_count (k := k) hi
  rw [← this]
def zcnt (o e : Ev D) : Ev D := fun σ => mb (o σ) fun x => mb (fun A => match x with | .tup _ => some (.ok () A) | _ => none) fun _ => mb (e σ) fun y => bmD .count x [y]
theorem z_count (hK : c.K = X.K) (ho : PE X o (tE c W fo)) (ha : PE X e (tE c W fa)) (hbase : attributeBase o "count" X.env (eval o X.env) = eval o X.env := by rfl)
    (hfew : ((backTo cpos (starEach [e] X.env)).all (fun x => !x.1) && (backToKw cpos (keywordEach [] X.env)).all (fun x => x.1.isSome)
      && decide (([e]).length + ([] : List Keyword).length + (if ([] : List Keyword).isEmpty then 0 else 1) < 30)) = true := by rfl)
    (hline : (apos.endLine == cpos.line) = true := by rfl) (hs : starEach [e] X.env = (false, eval e X.env) :: starEach [] X.env := by rfl) (hplain : (backTo cpos (starEach [] X.env)).any (·.1) = false := by rfl) :
    PE X (.Call (.Attribute o "count" apos) [e] [] cpos) (tE c W (zcnt fo fa)) :=
  (pe_mG (fun pins σ H s x v => tyT_ok) PySem.F.plainAttrs_tuple PySem.F.slot_tuple_count PySem.F.type_tuple_count mt_tcount ho (pa1 ha hs) hbase hfew hline hs hplain).zm fun σ H Q ⟨ρ, A, σd, R, S, h⟩ => show tE c W fo σ H _ from one R S h fun x v ρ1 A1 H1 R1 s1 S1 rv h1 => by
    cases rv <;> first | exact False.elim h1 | skip
    rename_i a xs vs t r
    rw [← hK]
    refine ⟨⟨_, _, rfl, t⟩, show tE c W fa σ H1 _ from one R1 S1 (h1 : Ld c ρ1 H1 σ W (mb (fa σd) (fun y => bmD .count (.tup xs) [y]) A1) _) fun y u ρ2 A2 H2 R2 s2 S2 ru h3 => ?_⟩
    cases y <;> first | exact False.elim h3 | skip
    rename_i k
    cases ru
    simp only [bmD] at h3
    have rv2 := (Rv.tup t r).to R1 s2
    cases rv2 with
    | tup t2 r2 =>
      split at h3
      · rename_i ns e1
        exact ⟨_, ns, k, rfl, rfl, by rw [← r2.ints e1]; exact t2.sq, h3 ρ2 H2 R2 .refl _ (.int _)⟩
      · exact False.elim h3
end
end Z

noncomputable section
set_option maxHeartbeats 2000000
namespace Z
open PySem PySem.Spec PyProof.Rows L2

/-- nothing may be raised -/
def WN : WX := fun _ _ _ _ => False
/-- but for these, the slots are the same -/
def Same (vs : List Nat) (σ σ' : L2.St) : Prop := σ'.length = σ.length ∧ ∀ i, i ∉ vs → σ'[i]? = σ[i]?
theorem Same.refl (vs : List Nat) (σ : L2.St) : Same vs σ σ := ⟨rfl, fun _ _ => rfl⟩
theorem Same.trans {vs us : List Nat} {σ1 σ2 σ3 : L2.St} (a : Same vs σ1 σ2) (b : Same us σ2 σ3) : Same (vs ++ us) σ1 σ3 := ⟨b.1.trans a.1, fun i h => by
  rw [List.mem_append] at h
  rw [b.2 i fun z => h (.inr z), a.2 i fun z => h (.inl z)]⟩
theorem same_set (σ : L2.St) (i : Nat) (o : Option V) : Same [i] σ (σ.set i o) := ⟨List.length_set .., fun j h => by
  rw [List.getElem?_set_ne (fun e => h (by rw [e]; exact List.mem_singleton_self _))]⟩
theorem wipe_get : ∀ (vs : List Nat) (σ : L2.St) (i : Nat), (L2.wipe σ vs)[i]? = if i ∈ vs then (if i < σ.length then some none else none) else σ[i]?
  | [], σ, i => by simp [L2.wipe]
  | v :: vs, σ, i => by
    have hl : (L2.wipe σ vs).length = σ.length := by
      clear wipe_get
      induction vs with
      | nil => rfl
      | cons u us ih => simp only [L2.wipe, List.length_set, ih]
    show ((L2.wipe σ vs).set v none)[i]? = _
    by_cases e : v = i
    · subst e
      rw [List.getElem?_set, if_pos rfl, hl]
      simp
    · rw [List.getElem?_set_ne e, wipe_get vs σ i]
      have : (i ∈ v :: vs) ↔ i ∈ vs := by rw [List.mem_cons]; exact ⟨fun h => h.elim (fun z => absurd z.symm e) id, .inr⟩
      by_cases m : i ∈ vs
      · rw [if_pos m, if_pos (this.mpr m)]
      · rw [if_neg m, if_neg fun z => m (this.mp z)]
theorem Same.wipe {vs us : List Nat} {σ σ' : L2.St} (s : Same us (L2.wipe σ vs) σ') (h : ∀ i ∈ us, i ∈ vs) : L2.wipe σ' vs = L2.wipe σ vs := by
  have hl : ∀ (vs : List Nat) (σ : L2.St), (L2.wipe σ vs).length = σ.length := fun vs σ => by
    induction vs with
    | nil => rfl
    | cons u us ih => simp only [L2.wipe, List.length_set, ih]
  apply List.ext_getElem?
  intro i
  rw [wipe_get, wipe_get]
  have h2 := s.2 i
  rw [wipe_get] at h2
  have h1 := s.1
  rw [hl] at h1
  by_cases m : i ∈ vs
  · rw [if_pos m, if_pos m, h1]
  · rw [if_neg m, if_neg m, h2 fun z => m (h i z), if_neg m]

/-- a target's reading: weak, if the thing is only taken apart -/
def tG (c : Cn) (wk : Bool) (vs : List Nat) (g : Gv) : TG := fun v σ H Q => ∃ d ρ A σd, Rel c ρ A H ∧ Rsl c ρ H σd σ ∧ (if wk = true then Rw c ρ H d v else Rv c ρ H d v) ∧
  Ld c ρ H σ WN (g d σd A) fun σd' ρ' _ H' => ∀ σ', Rsl c ρ' H' σd' σ' → Same vs σ σ' → Q σ' H'
def tGs (c : Cn) (vs : List Nat) (g : Gsv) : TGs := fun us σ H Q => ∃ ds ρ A σd, Rel c ρ A H ∧ Rsl c ρ H σd σ ∧ Rvs c ρ H ds us ∧
  Ld c ρ H σ WN (g ds σd A) fun σd' ρ' _ H' => ∀ σ', Rsl c ρ' H' σd' σ' → Same vs σ σ' → Q σ' H'
theorem _root_.L2.PG.zm {X : Cx} {e : Expr} {t t' : TG} (p : PG X e t') (h : ∀ v σ H Q, t v σ H Q → t' v σ H Q) : PG X e t := ⟨fun pins s σ H v u Q I r w => p.run pins s σ H v u Q I r (h v σ H Q w)⟩
theorem _root_.L2.PGs.zm {X : Cx} {e : List Expr} {t t' : TGs} (p : PGs X e t') (h : ∀ v σ H Q, t v σ H Q → t' v σ H Q) : PGs X e t := ⟨fun pins s σ H v u Q I r w => p.run pins s σ H v u Q I r (h v σ H Q w)⟩
section
variable {c : Cn} {ρ ρ' : List Addr} {A : Hh} {H H' : Hp} {σd : Sl} {σ : L2.St} {W : WX}
/-- where nothing is raised, the slots are no matter -/
theorem Ld.wn {α : Type} {σ2 : L2.St} {W2 : WX} {r : Option (R α)} {P : α → List Addr → Hh → Hp → Prop} (h : Ld c ρ H σ WN r P) (hx : ∀ x A' ρ' H', r = some (.ex x A') → Rel c ρ' A' H' → St' ρ H ρ' H' → False) : Ld c ρ H σ2 W2 r P := by
  revert h hx
  cases r with
  | none => exact fun h _ => h
  | some r =>
    cases r with
    | ok a A1 => exact fun h _ => h
    | ex x A1 => exact fun _ hx ρ' H' R' s' cls d _ => (hx x A1 ρ' H' rfl R' s').elim
/-- the same run from slots that are no matter -/
theorem Ld.sl {α : Type} {σ2 : L2.St} {r : Option (R α)} {P : α → List Addr → Hh → Hp → Prop} (h : Ld c ρ H σ WN r P) : Ld c ρ H σ2 WN r P := by
  revert h
  cases r with
  | none => exact fun h => h
  | some r =>
    cases r with
    | ok a A1 => exact fun h => h
    | ex x A1 => exact fun h => h
end
section
variable {X : Cx} {c : Cn} {tg o i : Expr} {es : List Expr} {g : Gv} {gs : Gsv} {wk : Bool} {vs us : List Nat} {pos : Pos} {fo fi : Ev D}
theorem g_wk (h : PG X tg (tG c true vs g)) : PG X tg (tG c false vs g) := h.zm fun v σ H Q ⟨d, ρ, A, σd, R, S, r, h⟩ => ⟨d, ρ, A, σd, R, S, .inl (by simpa using r), h⟩
theorem g_nm {x : Str} (k : Nat) (hN : X.N.Nodup) (hi : X.N[k]? = some x) (hx : Loc X.env.scope x) (hf : X.fn x = true ∨ X.env.scope.names.lookup x = some .local) : PG X (.Name x pos) (tG c false [k] (gnm k)) :=
  (pg_name (i := k) hN hi hx hf).zm fun v σ H Q ⟨d, ρ, A, σd, R, S, r, h⟩ => by
    have r' : Rv c ρ H d v := by simpa using r
    exact h ρ H R .refl _ (S.set r' k) (same_set σ k _)
theorem g_nil : PGs X [] (tGs c [] gnil) := pgs_nil.zm fun v σ H Q ⟨ds, ρ, A, σd, R, S, r, h⟩ => by
  cases r with
  | nil => exact ⟨rfl, h ρ H R .refl _ S (Same.refl _ _)⟩
  | cons _ _ => exact h.elim
theorem g_cons (h1 : PG X tg (tG c false vs g)) (h2 : PGs X es (tGs c us gs)) (hs : (assignEach (tg :: es) X.env).map (·.2) = assign tg X.env :: (assignEach es X.env).map (·.2) := by rfl) : PGs X (tg :: es) (tGs c (vs ++ us) (gcons g gs)) :=
  (pgs_cons h1 h2 hs).zm fun v σ H Q ⟨ds, ρ, A, σd, R, S, r, h⟩ => by
    cases r with
    | nil => exact h.elim
    | cons r rs =>
      rename_i d ds vs0 v0
      refine ⟨_, _, rfl, _, ρ, A, σd, R, S, by simpa using r, (Ld.bind (h : Ld c ρ H σ WN (Z.R.andThen (g _ σd A) fun σ' A' => gs _ σ' A') _)).imp fun σd1 ρ1 A1 H1 R1 s1 h1 σ1 S1 m1 => ?_⟩
      exact ⟨_, ρ1, A1, σd1, R1, S1, rs.to R s1, h1.sl.imp fun σd2 ρ2 A2 H2 R2 s2 h2 σ2 S2 m2 => h2 σ2 S2 (m1.trans m2)⟩
theorem g_tup {k n : Nat} (hK : c.K = X.K) (hc : X.calm = true) (h : PGs X es (tGs c vs gs)) (hn : (assignEach es X.env).length = n := by rfl) (hst : (assignEach es X.env).findIdx? (·.1) = none := by rfl) : PG X (.Tuple es k pos) (tG c true vs (gtup n gs)) :=
  (pg_tup hc h hn hst).zm fun v σ H Q ⟨d, ρ, A, σd, R, S, r, h⟩ => by
    have r' : Rw c ρ H d v := by simpa using r
    cases d with
    | tup xs =>
      obtain ⟨a, us, rfl, hs, rvs⟩ := r'.tup
      simp only [gtup] at h
      split at h
      · rename_i hl
        rw [hK] at hs
        exact ⟨a, us, rfl, hs, by rw [← rvs.length]; exact hl, xs, ρ, A, σd, R, S, rvs, h⟩
      · exact h.elim
    | _ => exact h.elim
theorem g_sub (hK : c.K = X.K) (ho : PE X o (tE c WN fo)) (hi : PE X i (tE c WN fi))
    (ha : ∀ v, assign (.Subscript o i pos) X.env v = (do
      let ov ← holding [v] (eval o X.env)
      let iv ← holding [v, ov] (eval i X.env)
      standAt pos
      holding [v, ov, iv] (setItem ov iv v)
      release [v, ov, iv] []) := by intro _; rfl) : PG X (.Subscript o i pos) (tG c false [] (gsub fo fi)) :=
  (pg_sub ho hi set_list ha).zm fun v σ H Q ⟨d, ρ, A, σd, R, S, r, h⟩ => by
    have r' : Rv c ρ H d v := by simpa using r
    refine show tE c WN fo σ H _ from one R S h fun x xv ρ1 A1 H1 R1 s1 S1 rx h1 => show tE c WN fi σ H1 _ from one R1 S1 h1 fun y yv ρ2 A2 H2 R2 s2 S2 ry h2 => ?_
    have rx2 := rx.to R1 s2
    have rv2 := (r'.to R s1).to R1 s2
    cases q : setD A2 x y d with
    | none => rw [q] at h2; exact h2.elim
    | some A3 =>
      rw [q] at h2
      unfold setD at q
      split at q
      · rename_i n k
        split at q
        · rename_i xs hA
          split at q
          · rename_i j hj
            cases q
            obtain ⟨a, us, rfl, h3, h4, h5⟩ := R2.lst hA rx2
            cases ry
            obtain ⟨R3, s3⟩ := R2.wrote (o := .lst (xs.set j d)) h3 (ho := .lst (us.set j v)) ⟨_, rfl, h5.set rv2 j⟩
            exact ⟨a, us, k, j, rfl, rfl, h4, by rw [← h5.length]; exact hj, h2 _ _ R3 s3 σ (S2.to R2 s3) (Same.refl _ _)⟩
          · cases q
        · cases q
      · cases q
end

/-- a walk gives these, while the lists watched stay as they are -/
def Walk (c : Cn) (ρ0 : List Addr) (H0 : Hp) (J : It) (xs : List D) (w : Wt) (wk : Bool) : Prop := ∀ ρ A H, Rel c ρ A H → St' ρ0 H0 ρ H → wOk w A = true →
  (∀ i d, xs[i]? = some d → J.go i H ∧ ∀ x H', J.yld i H x H' → Rel c ρ A H' ∧ St' ρ H ρ H' ∧ if wk = true then Rw c ρ H' d x else Rv c ρ H' d x) ∧ J.stop xs.length H
def tI (c : Cn) (W : WX) (wk : Bool) (u : Ev (List D × Wt)) : TI := fun σ H R => ∃ ρ A σd, Rel c ρ A H ∧ Rsl c ρ H σd σ ∧ Ld c ρ H σ W (u σd A) fun p ρ' _ H' => ∀ J, Walk c ρ' H' J p.1 p.2 wk → R J H'
theorem _root_.L2.PI.zm {X : Cx} {tg e : Expr} {t t' : TI} (p : PI X tg e t') (h : ∀ σ H R, t σ H R → t' σ H R) : PI X tg e t := ⟨fun pins s σ H R I w => p.run pins s σ H R I (h σ H R w)⟩
section
variable {c : Cn} {ρ ρ' : List Addr} {A : Hh} {H H' : Hp} {σd : Sl} {σ : L2.St} {W : WX}
theorem wOk_at {n : Nat} {xs : List D} (h : wOk [(n, xs)] A = true) : A[n]? = some (.lst xs) := by
  unfold wOk at h
  simp only [List.all_cons, List.all_nil, Bool.and_true] at h
  cases q : A[n]? with
  | none => rw [q] at h; cases h
  | some o =>
    rw [q] at h
    cases o with
    | ins k fs => cases h
    | dct kvs => cases h
    | dck kvs => cases h
    | lst ys =>
      have := (D.deqs_iff ys xs).mp h
      rw [this]
/-- what a row's place holds later -/
theorem Stw.later {a : Addr} {vs : List V} {xs : List D} {w : Wt} {ρ2 : List Addr} {A2 : Hh} {H2 : Hp} (h : Stw c ρ H a vs xs w) (r : Rvs c ρ H xs vs) (R : Rel c ρ A H) (s : St' ρ H ρ2 H2) (R2 : Rel c ρ2 A2 H2) (hw : wOk w A2 = true) :
    ∃ us, Stw c ρ2 H2 a us xs w ∧ Rvs c ρ2 H2 xs us := by
  rcases h with ⟨h | h | ⟨h, hn⟩, e⟩ | ⟨n, hn, h, e⟩
  · exact ⟨vs, .inl ⟨.inl (R.fzt s.fr _ _ h), e⟩, r.to R s⟩
  · exact ⟨vs, .inl ⟨.inr (.inl (R.fzs s.fr _ _ h)), e⟩, r.to R s⟩
  · refine ⟨vs, .inl ⟨.inr (.inr ⟨s.fr _ _ h hn, fun m => ?_⟩), e⟩, r.to R s⟩
    have := s.new _ m hn
    rw [h] at this; cases this
  · subst e
    have hA := wOk_at hw
    have hr : ρ2[n]? = some a := by
      obtain ⟨t, rfl⟩ := s.pre
      rw [List.getElem?_append_left (List.getElem?_eq_some_iff.mp hn).1]
      exact hn
    obtain ⟨ho, h1, us, rfl, h3⟩ := R2.obj n _ a hA hr
    exact ⟨us, .inr ⟨n, hr, h1, rfl⟩, h3⟩
theorem walk_l {K : PySem.W.Frag} {a : Addr} {vs : List V} {xs : List D} {w : Wt} {ρ0 : List Addr} {A0 : Hh} {H0 : Hp} (hK : c.K = K) (R0 : Rel c ρ0 A0 H0) (h : Stw c ρ0 H0 a vs xs w) (r : Rvs c ρ0 H0 xs vs) (hl : SqL K H0 a vs)
    (keep : ∀ ρ A H us, Rel c ρ A H → St' ρ0 H0 ρ H → Stw c ρ H a us xs w → Rvs c ρ H xs us → SqL K H a us) : Walk c ρ0 H0 (Itl K a) xs w false := fun ρ A H R s hw => by
  obtain ⟨us, h2, r2⟩ := h.later r R0 s R hw
  have hq := keep ρ A H us R s h2 r2
  refine ⟨fun i d hd => ?_, us, hq, by rw [r2.length]; exact Nat.le_refl _⟩
  obtain ⟨v, hv, rv⟩ := r2.get hd
  refine ⟨⟨us, v, hq, hv⟩, fun x H' ⟨e, hx⟩ => ?_⟩
  subst e
  have := hx us hq
  rw [hv] at this
  cases this
  exact ⟨R, .refl, by simpa using rv⟩
theorem walk_t {K : PySem.W.Frag} {a : Addr} {vs : List V} {xs : List D} {ρ0 : List Addr} {A0 : Hh} {H0 : Hp} (hK : c.K = K) (R0 : Rel c ρ0 A0 H0) (h : FzT c.K H0 a vs) (r : Rvs c ρ0 H0 xs vs) : Walk c ρ0 H0 (Itt K a) xs [] false := fun ρ A H R s hw => by
  have hq : SqT K H a vs := by rw [← hK]; exact (R0.fzt s.fr _ _ h).sq
  have r2 := r.to R0 s
  refine ⟨fun i d hd => ?_, vs, hq, by rw [r2.length]; exact Nat.le_refl _⟩
  obtain ⟨v, hv, rv⟩ := r2.get hd
  refine ⟨⟨vs, v, hq, hv⟩, fun x H' ⟨e, hx⟩ => ?_⟩
  subst e
  have := hx vs hq
  rw [hv] at this
  cases this
  exact ⟨R, .refl, by simpa using rv⟩
/-- a list stays a list -/
def LstAt (c : Cn) (ρ0 : List Addr) (H0 : Hp) (a : Addr) (xs : List D) (w : Wt) : Prop := ∃ vs, Rvs c ρ0 H0 xs vs ∧ ((FzL c.K H0 a vs ∧ w = []) ∨ (H0 a = some (.lst vs) ∧ a ∉ ρ0 ∧ w = []) ∨ ∃ n, ρ0[n]? = some a ∧ H0 a = some (.lst vs) ∧ w = [(n, xs)])
theorem LstAt.later {a : Addr} {xs : List D} {w : Wt} {ρ0 : List Addr} {A0 : Hh} {H0 : Hp} (h : LstAt c ρ0 H0 a xs w) (R0 : Rel c ρ0 A0 H0) (s : St' ρ0 H0 ρ H) (R : Rel c ρ A H) (hw : wOk w A = true) : LstAt c ρ H a xs w := by
  obtain ⟨vs, r, ⟨h, e⟩ | ⟨h, hn, e⟩ | ⟨n, hn, h, e⟩⟩ := h
  · exact ⟨vs, r.to R0 s, .inl ⟨R0.fzs s.fr _ _ h, e⟩⟩
  · refine ⟨vs, r.to R0 s, .inr (.inl ⟨s.fr _ _ h hn, fun m => ?_, e⟩)⟩
    have := s.new _ m hn
    rw [h] at this; cases this
  · subst e
    have hA := wOk_at hw
    have hr : ρ[n]? = some a := by
      obtain ⟨t, rfl⟩ := s.pre
      rw [List.getElem?_append_left (List.getElem?_eq_some_iff.mp hn).1]
      exact hn
    obtain ⟨ho, h1, us, rfl, h3⟩ := R.obj n _ a hA hr
    exact ⟨us, h3, .inr (.inr ⟨n, hr, h1, rfl⟩)⟩
theorem LstAt.sq {a : Addr} {xs : List D} {w : Wt} (h : LstAt c ρ H a xs w) : ∃ vs, SqL c.K H a vs ∧ Rvs c ρ H xs vs := by
  obtain ⟨vs, r, ⟨h, e⟩ | ⟨h, hn, e⟩ | ⟨n, hn, h, e⟩⟩ := h
  · exact ⟨vs, h.sq, r⟩
  · exact ⟨vs, .of h, r⟩
  · exact ⟨vs, .of h, r⟩
theorem LstAt.walk {a : Addr} {xs : List D} {w : Wt} {ρ0 : List Addr} {A0 : Hh} {H0 : Hp} (h : LstAt c ρ0 H0 a xs w) (R0 : Rel c ρ0 A0 H0) : Walk c ρ0 H0 (Itl c.K a) xs w false := fun ρ A H R s hw => by
  obtain ⟨us, hq, r2⟩ := (h.later R0 s R hw).sq
  refine ⟨fun i d hd => ?_, us, hq, by rw [r2.length]; exact Nat.le_refl _⟩
  obtain ⟨v, hv, rv⟩ := r2.get hd
  refine ⟨⟨us, v, hq, hv⟩, fun x H' ⟨e, hx⟩ => ?_⟩
  subst e
  have := hx us hq
  rw [hv] at this
  cases this
  exact ⟨R, .refl, by simpa using rv⟩
theorem Stw.cases {a : Addr} {vs : List V} {xs : List D} {w : Wt} (h : Stw c ρ H a vs xs w) (r : Rvs c ρ H xs vs) : (FzT c.K H a vs ∧ w = []) ∨ LstAt c ρ H a xs w := by
  rcases h with ⟨h | h | ⟨h, hn⟩, e⟩ | ⟨n, hn, h, e⟩
  · exact .inl ⟨h, e⟩
  · exact .inr ⟨vs, r, .inl ⟨h, e⟩⟩
  · exact .inr ⟨vs, r, .inr (.inl ⟨h, hn, e⟩)⟩
  · exact .inr ⟨vs, r, .inr (.inr ⟨n, hn, h, e⟩)⟩
theorem wOk_app {w w2 : Wt} {A : Hh} (h : wOk (w ++ w2) A = true) : wOk w A = true ∧ wOk w2 A = true := by
  unfold wOk at h ⊢
  rw [List.all_append, Bool.and_eq_true] at h
  exact h
theorem zip_at {xs ys : List D} {i : Nat} {d : D} (h : (zipD xs ys)[i]? = some d) : ∃ x y, xs[i]? = some x ∧ ys[i]? = some y ∧ d = .tup [x, y] := by
  unfold zipD at h
  rw [List.getElem?_map] at h
  obtain ⟨z, h1, h2⟩ := Option.map_eq_some_iff.mp h
  obtain ⟨h3, h4⟩ := List.getElem?_zip_eq_some.mp h1
  exact ⟨_, _, h3, h4, h2.symm⟩
/-- a new pair, taken apart at once -/
theorem pair_ok {x y : D} {v u : V} {T : Addr} (R : Rel c ρ A H) (n : H T = none) (rv : Rv c ρ H x v) (ru : Rv c ρ H y u) : Rel c ρ A (upd H T (.tup [v, u])) ∧ St' ρ H ρ (upd H T (.tup [v, u])) ∧ Rw c ρ (upd H T (.tup [v, u])) (.tup [x, y]) (.ref T) := by
  obtain ⟨R1, s1, _⟩ := R.laid (ho := .tup [v, u]) n
  exact ⟨R1, s1, .inr ⟨T, [x, y], [v, u], rfl, rfl, .inl (.inl upd_same), .cons (rv.to R s1) (.cons (ru.to R s1) .nil)⟩⟩
theorem walk_zl {a b : Addr} {xs ys : List D} {w w2 : Wt} {ρ0 : List Addr} {A0 : Hh} {H0 : Hp} (h : LstAt c ρ0 H0 a xs w) (h2 : LstAt c ρ0 H0 b ys w2) (R0 : Rel c ρ0 A0 H0) :
    Walk c ρ0 H0 (Itz c.K a b) (zipD xs ys) (w ++ w2) true := fun ρ A H R s hw => by
  obtain ⟨hw1, hw2⟩ := wOk_app hw
  obtain ⟨vs, hq, r⟩ := (h.later R0 s R hw1).sq
  obtain ⟨us, hq2, r2⟩ := (h2.later R0 s R hw2).sq
  refine ⟨fun i d hd => ?_, vs, us, hq, hq2, ?_⟩
  · obtain ⟨x, y, hx, hy, rfl⟩ := zip_at hd
    obtain ⟨v, hv, rv⟩ := r.get hx
    obtain ⟨u, hu, ru⟩ := r2.get hy
    refine ⟨⟨vs, us, v, u, hq, hq2, hv, hu⟩, fun z H' ⟨T, x', y', e1, n, e2, k1, k2⟩ => ?_⟩
    have e3 := k1 vs hq
    have e4 := k2 us hq2
    rw [hv] at e3
    rw [hu] at e4
    cases e3
    cases e4
    subst e1 e2
    have := pair_ok R n rv ru
    simpa using this
  · unfold zipD
    rw [List.length_map, List.length_zip, r.length, r2.length]
    omega
theorem walk_zt {a b : Addr} {vs us : List V} {xs ys : List D} {ρ0 : List Addr} {A0 : Hh} {H0 : Hp} (h : FzT c.K H0 a vs) (h2 : FzT c.K H0 b us) (r0 : Rvs c ρ0 H0 xs vs) (r1 : Rvs c ρ0 H0 ys us) (R0 : Rel c ρ0 A0 H0) :
    Walk c ρ0 H0 (RZ.ItzT c.K a b) (zipD xs ys) [] true := fun ρ A H R s hw => by
  have hq := (R0.fzt s.fr _ _ h).sq
  have hq2 := (R0.fzt s.fr _ _ h2).sq
  have r := r0.to R0 s
  have r2 := r1.to R0 s
  refine ⟨fun i d hd => ?_, vs, us, hq, hq2, ?_⟩
  · obtain ⟨x, y, hx, hy, rfl⟩ := zip_at hd
    obtain ⟨v, hv, rv⟩ := r.get hx
    obtain ⟨u, hu, ru⟩ := r2.get hy
    refine ⟨⟨vs, us, v, u, hq, hq2, hv, hu⟩, fun z H' ⟨T, x', y', e1, n, e2, k1, k2⟩ => ?_⟩
    have e3 := k1 vs hq
    have e4 := k2 us hq2
    rw [hv] at e3
    rw [hu] at e4
    cases e3
    cases e4
    subst e1 e2
    have := pair_ok R n rv ru
    simpa using this
  · unfold zipD
    rw [List.length_map, List.length_zip, r.length, r2.length]
    omega
theorem walk_r {i : Int} {n : Nat} {ρ0 : List Addr} {H0 : Hp} : Walk c ρ0 H0 (Itr i n) ((List.range n).map fun (k : Nat) => D.int (i + (k : Int))) [] false := fun ρ A H R s hw => by
  refine ⟨fun k d hd => ?_, ?_⟩
  · rw [List.getElem?_map] at hd
    obtain ⟨m, h1, h2⟩ := Option.map_eq_some_iff.mp hd
    obtain ⟨h3, h4⟩ := List.getElem?_eq_some_iff.mp h1
    rw [List.length_range] at h3
    rw [List.getElem_range] at h4
    subst h4 h2
    refine ⟨h3, fun x H' ⟨e1, e2⟩ => ?_⟩
    subst e1 e2
    exact ⟨R, .refl, by simpa using Rv.int _⟩
  · show n ≤ _
    rw [List.length_map, List.length_range]
    exact Nat.le_refl _
end
section
variable {X : Cx} {c : Cn} {W : WX} {tg e a b : Expr} {elts : List Expr} {kk : Nat} {p pos tpos : Pos} {fa fb : Ev D} {qa : Ev (List D)} {ua ub : Ev (List D × Wt)}
theorem i_of (hK : c.K = X.K) (h : PE X e (tE c W fa)) : PI X tg e (tI c W false (zof fa)) := ⟨fun pins s σ H R I ⟨ρ, A, σd, Rl, S, hl⟩ => by
  have key : (iTup X.K (tE c W fa) σ H R ∨ iList X.K (tE c W fa) σ H R) := by
    have hl0 : Ld c ρ H σ W (mb (fa σd) (fun x A => (seqD A x).map fun p => .ok p A) A) _ := hl
    cases q : fa σd A with
    | none =>
      unfold mb at hl0
      rw [q] at hl0
      exact hl0.elim
    | some r =>
      cases r with
      | ex x A1 =>
        refine .inl ⟨ρ, A, σd, Rl, S, ?_⟩
        unfold mb at hl0
        rw [q] at hl0 ⊢
        exact hl0
      | ok d A1 =>
        have h1 := Ld.bind hl0
        rw [q] at h1
        cases d with
        | tup xs =>
          refine .inl ⟨ρ, A, σd, Rl, S, ?_⟩
          rw [q]
          intro ρ' H' R' s' v rv
          cases rv with
          | tup h t =>
            refine ⟨_, rfl, ⟨_, by rw [← hK]; exact h.sq⟩, ?_⟩
            exact h1 ρ' H' R' s' ρ' H' R' .refl _ (walk_t hK R' h t)
        | lst xs =>
          refine .inr ⟨ρ, A, σd, Rl, S, ?_⟩
          rw [q]
          intro ρ' H' R' s' v rv
          cases rv with
          | lst h t =>
            refine ⟨_, rfl, ⟨_, by rw [← hK]; exact h.sq⟩, ?_⟩
            have h2 := h1 ρ' H' R' s' ρ' H' R' .refl _ (LstAt.walk ⟨_, t, .inl ⟨h, rfl⟩⟩ R')
            rw [hK] at h2
            exact h2
        | ref n =>
          refine .inr ⟨ρ, A, σd, Rl, S, ?_⟩
          rw [q]
          intro ρ' H' R' s' v rv
          have h2 := h1 ρ' H' R' s'
          obtain ⟨p, e, h3⟩ := mapL (g := fun p => p) R' h2
          simp only [seqD] at e
          split at e
          · rename_i xs hA
            cases e
            cases rv with
            | ref hr =>
              obtain ⟨ho, g1, us, rfl, g3⟩ := R'.obj n _ _ hA hr
              refine ⟨_, rfl, ⟨us, .of g1⟩, ?_⟩
              have h4 := h3 _ (LstAt.walk ⟨us, g3, .inr (.inr ⟨n, hr, g1, rfl⟩)⟩ R')
              rw [hK] at h4
              exact h4
          · cases e
        | non => exact .inl ⟨ρ, A, σd, Rl, S, by rw [q]; exact fun ρ' H' R' s' => (h1 ρ' H' R' s').elim⟩
        | bl _ => exact .inl ⟨ρ, A, σd, Rl, S, by rw [q]; exact fun ρ' H' R' s' => (h1 ρ' H' R' s').elim⟩
        | int _ => exact .inl ⟨ρ, A, σd, Rl, S, by rw [q]; exact fun ρ' H' R' s' => (h1 ρ' H' R' s').elim⟩
        | str _ => exact .inl ⟨ρ, A, σd, Rl, S, by rw [q]; exact fun ρ' H' R' s' => (h1 ρ' H' R' s').elim⟩
        | exc _ => exact .inl ⟨ρ, A, σd, Rl, S, by rw [q]; exact fun ρ' H' R' s' => (h1 ρ' H' R' s').elim⟩
        | emp => exact .inl ⟨ρ, A, σd, Rl, S, by rw [q]; exact fun ρ' H' R' s' => (h1 ρ' H' R' s').elim⟩
  rcases key with k | k
  · exact (pi_tup h).run pins s σ H R I k
  · exact (pi_list h).run pins s σ H R I k⟩
theorem i_st (hK : c.K = X.K) (h : PE X e (tN c W qa)) : PI X tg e (tI c W false (zst qa)) := (pi_list h).zm fun σ H R ⟨ρ, A, σd, Rl, S, hl⟩ => ⟨ρ, A, σd, Rl, S, (Ld.bind hl).later.imp fun xs ρ1 A1 H1 R1 s1 h1 a vs n rvs => by
  obtain ⟨R2, s2, hp⟩ := R1.laid (ho := .lst vs) n
  refine ⟨a, rfl, ⟨vs, .of upd_same⟩, ?_⟩
  have h2 := h1 ρ1 _ R2 s2 ρ1 _ R2 .refl _ (LstAt.walk ⟨vs, rvs.to R1 s2, .inr (.inl ⟨upd_same, hp, rfl⟩)⟩ R2)
  rw [hK] at h2
  exact h2⟩
theorem i_rng (hg : Gl X "range") (hm : X.mg "range" = none) (ha : PE X a (tE c W fa)) (hs : starEach [a] X.env = [(false, eval a X.env)] := by rfl) : PI X tg (.Call (.Name "range" p) [a] [] pos) (tI c W false (zst (zrng (zc (.int 0)) fa))) :=
  (pi_range1 hg hm (pa1 ha hs) hs).zm fun σ H R ⟨ρ, A, σd, Rl, S, hl⟩ => by
    have e : zst (zrng (zc (.int 0)) fa) σd = mb (fa σd) fun y => mb (rngM (.int 0) y) fun xs => ok (xs, []) := by
      unfold zst zrng
      rw [mb_mb]
      show mb (mb (fa σd) _) _ = _
      rw [mb_mb]
    rw [e] at hl
    refine show tE c W fa σ H _ from one Rl S hl fun y u ρ1 A1 H1 R1 s1 S1 ru h1 => ?_
    cases ru <;> first | exact False.elim h1 | skip
    rename_i j
    have h2 := Ld.bind h1
    unfold rngM at h2
    dsimp only at h2
    obtain ⟨q, h3⟩ := iteL R1 h2
    simp only [Bool.and_eq_true, decide_eq_true_eq] at q
    refine ⟨j, rfl, by omega, by omega, ?_⟩
    have h4 := h3 ρ1 H1 R1 .refl (Itr 0 j.toNat)
    refine h4 ?_
    have := walk_r (c := c) (i := 0) (n := j.toNat) (ρ0 := ρ1) (H0 := H1)
    unfold rngI
    rw [Int.sub_zero]
    exact this
theorem i_rng2 (hg : Gl X "range") (hm : X.mg "range" = none) (ha : PE X a (tE c W fa)) (hb : PE X b (tE c W fb)) (hs : starEach [a, b] X.env = [(false, eval a X.env), (false, eval b X.env)] := by rfl) (hs2 : starEach [b] X.env = [(false, eval b X.env)] := by rfl)
    (na : starEach [a, b] X.env = (false, eval a X.env) :: starEach [b] X.env := by rfl) : PI X tg (.Call (.Name "range" p) [a, b] [] pos) (tI c W false (zst (zrng fa fb))) :=
  (pi_range2 hg hm (pa_cons ha (pa1 hb hs2) na) hs hs2).zm fun σ H R ⟨ρ, A, σd, Rl, S, hl⟩ => by
    have e : zst (zrng fa fb) σd = mb (fa σd) fun x => mb (fb σd) fun y => mb (rngM x y) fun xs => ok (xs, []) := by
      unfold zst zrng
      rw [mb_mb]
      congr 1
      funext x
      rw [mb_mb]
    rw [e] at hl
    refine show tE c W fa σ H _ from two Rl S hl fun x y v u ρ1 A1 H1 R1 s1 S1 rv ru h1 => ?_
    cases rv <;> cases ru <;> first | exact False.elim h1 | skip
    rename_i i j
    have h2 := Ld.bind h1
    unfold rngM at h2
    dsimp only at h2
    obtain ⟨q, h3⟩ := iteL R1 h2
    simp only [Bool.and_eq_true, decide_eq_true_eq] at q
    refine ⟨i, j, rfl, by omega, ?_⟩
    exact h3 ρ1 H1 R1 .refl (Itr i (j - i).toNat) walk_r
theorem wtD_at {ρ : List Addr} {A : Hh} {H : Hp} {x : D} {v : V} {xs : List D} (R : Rel c ρ A H) (r : Rv c ρ H x v) (e : lstD A x = some xs) : ∃ a, v = .ref a ∧ LstAt c ρ H a xs (wtD x xs) := by
  cases r with
  | non => cases e
  | bl b => cases e
  | int i => cases e
  | str y => cases e
  | tup h t => cases e
  | lst h t => cases e; exact ⟨_, rfl, _, t, .inl ⟨h, rfl⟩⟩
  | ref h =>
    simp only [lstD] at e
    split at e
    · rename_i ys hA
      cases e
      obtain ⟨ho, h1, vs, rfl, h3⟩ := R.obj _ _ _ hA h
      exact ⟨_, rfl, vs, h3, .inr (.inr ⟨_, h, h1, rfl⟩)⟩
    · cases e
  | exc h t => cases e
  | emp h t => cases e
theorem i_zip (hK : c.K = X.K) (hg : Gl X "zip") (hm : X.mg "zip" = none) (ha : PE X a (tE c W fa)) (hb : PE X b (tE c W fb)) (hs : starEach [a, b] X.env = (false, eval a X.env) :: starEach [b] X.env := by rfl) (hs2 : starEach [b] X.env = (false, eval b X.env) :: starEach [] X.env := by rfl)
    (hpl : (backTo pos (starEach [b] X.env)).any (·.1) = false := by rfl) : PI X (.Tuple elts kk tpos) (.Call (.Name "zip" p) [a, b] [] pos) (tI c W true (zzip fa fb)) :=
  (RZ.pi_zipA hg hm (pa_cons ha (pa1 hb hs2) hs) hs hpl).zm fun σ H R ⟨ρ, A, σd, Rl, S, hl⟩ => show tE c W fa σ H _ from two Rl S hl fun x y v u ρ1 A1 H1 R1 s1 S1 rv ru h1 => by
    have key : ∀ xs ys, lstD A1 x = some xs → lstD A1 y = some ys → (∀ J, Walk c ρ1 H1 J (zipD xs ys) (wtD x xs ++ wtD y ys) true → R J H1) → ∃ a b xs ys, [v, u] = [V.ref a, V.ref b] ∧ ((SqL X.K H1 a xs ∧ SqL X.K H1 b ys ∧ R (Itz X.K a b) H1) ∨ (SqT X.K H1 a xs ∧ SqT X.K H1 b ys ∧ R (RZ.ItzT X.K a b) H1)) := fun xs ys e1 e2 h2 => by
      obtain ⟨a, rfl, l1⟩ := wtD_at R1 rv e1
      obtain ⟨b, rfl, l2⟩ := wtD_at R1 ru e2
      obtain ⟨vs, q1, _⟩ := l1.sq
      obtain ⟨us, q2, _⟩ := l2.sq
      rw [hK] at q1 q2
      refine ⟨a, b, vs, us, rfl, .inl ⟨q1, q2, ?_⟩⟩
      have h3 := h2 _ (walk_zl l1 l2 R1)
      rw [hK] at h3
      exact h3
    have key2 : Ld c ρ1 H1 σ W (match lstD A1 x, lstD A1 y with
      | some xs, some ys => some (.ok (zipD xs ys, wtD x xs ++ wtD y ys) A1)
      | _, _ => none) (fun p ρ' _ H' => ∀ J, Walk c ρ' H' J p.1 p.2 true → R J H') → ∃ a b xs ys, [v, u] = [V.ref a, V.ref b] ∧ ((SqL X.K H1 a xs ∧ SqL X.K H1 b ys ∧ R (Itz X.K a b) H1) ∨ (SqT X.K H1 a xs ∧ SqT X.K H1 b ys ∧ R (RZ.ItzT X.K a b) H1)) := fun h2 => by
      split at h2
      · rename_i xs ys e1 e2
        exact key xs ys e1 e2 (h2 ρ1 H1 R1 .refl)
      · exact h2.elim
    cases x with
    | tup xs =>
      cases y with
      | tup ys =>
        cases rv with
        | tup t1 r1 =>
          cases ru with
          | tup t2 r2 =>
            refine ⟨_, _, _, _, rfl, .inr ⟨by rw [← hK]; exact t1.sq, by rw [← hK]; exact t2.sq, ?_⟩⟩
            have h3 := h1 ρ1 H1 R1 .refl _ (walk_zt t1 t2 r1 r2 R1)
            rw [hK] at h3
            exact h3
      | _ => exact key2 h1
    | _ => exact key2 h1
end
end Z

noncomputable section
set_option maxHeartbeats 2000000
namespace Z
open PySem PySem.Spec PyProof.Rows L2

/-- without p -/
def del (H : Hp) (p : Addr) : Hp := fun b => if b = p then none else H b
theorem upd_del {H : Hp} {p : Addr} {o : HO} : upd (del H p) p o = upd H p o := by
  funext b
  unfold upd del
  split <;> rfl
theorem del_upd {H : Hp} {p : Addr} {o : HO} (n : H p = none) : del (upd H p o) p = H := by
  funext b
  unfold upd del
  split
  · rename_i e; rw [e, n]
  · rename_i e; exact if_neg e
section
variable {c : Cn} {ρ ρ' : List Addr} {A : Hh} {H H' : Hp} {σd : Sl} {σ : L2.St} {W : WX}
theorem del_ne {p b : Addr} (h : b ≠ p) : del H p b = H b := by unfold del; rw [if_neg h]
theorem frz_del {p : Addr} {ys : List V} (h : H p = some (.lst ys)) : ∀ a o u, H a = some (.frz o u) → del H p a = some (.frz o u) := fun a o u t => by
  rw [del_ne fun z => by rw [z, h] at t; cases t]
  exact t
theorem Rvs.del {p : Addr} {ys : List V} (h : H p = some (.lst ys)) {ds : List D} {vs : List V} (r : Rvs c ρ H ds vs) : Rvs c ρ (del H p) ds vs := r.mono (List.prefix_refl _) (frz_del h)
theorem Rv.del {p : Addr} {ys : List V} (h : H p = some (.lst ys)) {d : D} {v : V} (r : Rv c ρ H d v) : Rv c ρ (del H p) d v := r.mono (List.prefix_refl _) (frz_del h)
theorem Rel.del {p : Addr} {ys : List V} (h : H p = some (.lst ys)) (n : p ∉ ρ) (R : Rel c ρ A H) : Rel c ρ A (del H p) := ⟨R.len, R.nd, fun k o a h1 h2 => by
  obtain ⟨ho, h3, h4⟩ := R.obj k o a h1 h2
  refine ⟨ho, ?_, h4.mono (List.prefix_refl _) (frz_del h)⟩
  rw [del_ne fun e => n (by rw [← e]; exact List.mem_of_getElem? h2)]
  exact h3⟩
theorem Rsl.del {p : Addr} {ys : List V} (h : H p = some (.lst ys)) (S : Rsl c ρ H σd σ) : Rsl c ρ (del H p) σd σ := ⟨S.len, fun i d e => by
  obtain ⟨v, h1, h2⟩ := S.get i d e
  exact ⟨v, h1, h2.del h⟩⟩
/-- a step in the presence of a list at p that no one knows -/
theorem St'.del {p : Addr} {vs : List V} {ρ2 : List Addr} {A2 : Hh} {H2 : Hp} (n : H p = none) (hp : p ∉ ρ) (s : St' ρ (upd H p (.lst vs)) ρ2 H2) : H2 p = some (.lst vs) ∧ p ∉ ρ2 ∧ St' ρ H ρ2 (Z.del H2 p) := by
  have h1 : H2 p = some (.lst vs) := s.fr p _ upd_same hp
  have h2 : p ∉ ρ2 := fun m => by
    have := s.new p m hp
    rw [upd_same] at this
    cases this
  refine ⟨h1, h2, s.pre, fun b m hb => ?_, fun b o e hb => ?_⟩
  · have := s.new b m hb
    rw [upd_ne (fun e => h2 (by rw [← e]; exact m))] at this
    exact this
  · have hne : b ≠ p := ne_of_none e n
    rw [del_ne hne]
    exact s.fr b o (by rw [upd_ne hne]; exact e) hb
end
/-- no further test, or one -/
def tTs (c : Cn) (f : Ev Bool) : TT := tT c WN f
theorem _root_.L2.PTs.zm {X : Cx} {e : List Expr} {t t' : TT} (p : PTs X e t') (h : ∀ σ H Q, t σ H Q → t' σ H Q) : PTs X e t := ⟨fun pins s σ H Q I w => p.run pins s σ H Q I (h σ H Q w)⟩
section
variable {X : Cx} {c : Cn} {W : WX} {elt tg iter e : Expr} {ifs : List Expr} {scope : Scope} {own : List (Str × Nat)} {pos : Pos} {wk : Bool} {vs us : List Nat} {u : Ev (List D × Wt)} {g : Gv} {t : Ev Bool} {fe : Ev D}
theorem ts_nil : PTs X [] (tT c WN ztt) := pts_nil.zm fun σ H Q ⟨ρ, A, σd, R, S, h⟩ => h ρ H R .refl
theorem ts_one (h : PT X e (tT c WN t)) : PTs X [e] (tT c WN t) := pts_one h
theorem comp_read {σ : L2.St} {H : Hp} {Q : VK} (hus : ∀ i ∈ us, i ∈ vs) (hm : tN c W (zcomp vs g u t fe) σ H Q) : tLc (tI c W wk u) (tG c wk us g) (tT c WN t) (tE c WN fe) vs σ H Q := by
  obtain ⟨ρ, A, σd, R, S, h⟩ := hm
  refine ⟨ρ, A, σd, R, S, (Ld.bind h).imp fun p ρ1 A1 H1 R1 s1 h1 J wJ => fun p0 hp0 => ?_⟩
  have hp1 : p0 ∉ ρ1 := fun m => by
    obtain ⟨ho, e, _⟩ := R1.at m
    rw [hp0] at e; cases e
  have S1 := S.to R s1
  refine ⟨fun i m H => m = p.1.length - i ∧ i ≤ p.1.length ∧ ∃ Hb ρ A acc av, Hb p0 = none ∧ H = upd Hb p0 (.lst av) ∧ p0 ∉ ρ ∧ Rel c ρ A Hb ∧ St' ρ1 H1 ρ Hb ∧ Rvs c ρ Hb acc av ∧
      Ld c ρ Hb σ W (compL (wipeD σd vs) p.2 g t fe (p.1.drop i) acc A) (fun ds ρ' _ H' => ∀ a vs, H' a = none → Rvs c ρ' H' ds vs → Q (.ref a) (upd H' a (.lst vs))), ?_, ?_⟩
  · exact ⟨_, rfl, Nat.zero_le _, H1, ρ1, A1, [], [], hp0, rfl, hp1, R1, .refl, .nil, h1⟩
  · rintro i m H' ⟨em, hi, Hb, ρ2, A2, acc, av, hn, eH, hp2, R2, s2, rav, h2⟩
    subst eH
    obtain ⟨R3, s3, _⟩ := R2.laid (ho := .lst av) hn
    have hw : wOk p.2 A2 = true := by
      cases q : wOk p.2 A2 with
      | true => rfl
      | false => cases q2 : p.1.drop i with
        | nil => rw [q2] at h2; simp only [compL, q] at h2; exact h2.elim
        | cons x xs => rw [q2] at h2; simp only [compL, q] at h2; exact h2.elim
    obtain ⟨wg, ws⟩ := wJ ρ2 A2 _ R3 (s2.trans s3) hw
    cases q : p.1.drop i with
    | nil =>
      have e : i = p.1.length := by
        have := congrArg List.length q
        rw [List.length_drop, List.length_nil] at this
        omega
      rw [q] at h2
      simp only [compL, hw, if_true] at h2
      refine .inl ⟨by rw [e]; exact ws, h2 ρ2 Hb R2 .refl p0 av hn rav⟩
    | cons x xs =>
      have hlt : i < p.1.length := by
        have := congrArg List.length q
        rw [List.length_drop, List.length_cons] at this
        omega
      have hx : p.1[i]? = some x := by
        have := List.getElem?_drop (xs := p.1) (i := i) (j := 0)
        rw [q] at this
        simpa using this.symm
      have hxs : p.1.drop (i + 1) = xs := by
        rw [← List.drop_drop, q]
        rfl
      rw [q] at h2
      simp only [compL, hw, if_true] at h2
      obtain ⟨g1, g2⟩ := wg i x hx
      refine .inr ⟨g1, fun H' => (∃ Hb ρ A acc av, Hb p0 = none ∧ H' = upd Hb p0 (.lst av) ∧ p0 ∉ ρ ∧ Rel c ρ A Hb ∧ St' ρ1 H1 ρ Hb ∧ Rvs c ρ Hb acc av ∧
        Ld c ρ Hb σ W (compL (wipeD σd vs) p.2 g t fe xs acc A) (fun ds ρ' _ H' => ∀ a vs, H' a = none → Rvs c ρ' H' ds vs → Q (.ref a) (upd H' a (.lst vs)))), ?_, ?_⟩
      · rintro H'' ⟨Hb', ρ', A', acc', av', k1, k2, k3, k4, k5, k6, k7⟩
        exact ⟨p.1.length - (i + 1), by omega, rfl, hlt, Hb', ρ', A', acc', av', k1, k2, k3, k4, k5, k6, by rw [hxs]; exact k7⟩
      · intro y H3 hy
        obtain ⟨R4, s4, ry⟩ := g2 y H3 hy
        have s14 := (s2.trans s3).trans s4
        have S4 : Rsl c ρ2 H3 (wipeD σd vs) (L2.wipe σ vs) := (S1.to R1 s14).wipe vs
        cases qg : g x (wipeD σd vs) A2 with
        | none => rw [qg] at h2; exact h2.elim
        | some r =>
          cases r with
          | ex _ _ => rw [qg] at h2; exact h2.elim
          | ok σ5 A5 =>
            rw [qg] at h2
            dsimp only at h2
            refine ⟨x, ρ2, A2, wipeD σd vs, R4, S4, ry, ?_⟩
            rw [qg]
            intro ρ5 H5 R5 s5 σ5' S5 m5
            refine ⟨m5.wipe hus, ?_⟩
            cases qt : t σ5 A5 with
            | none => rw [qt] at h2; exact h2.elim
            | some r =>
              cases r with
              | ex _ _ => rw [qt] at h2; exact h2.elim
              | ok b A6 =>
                rw [qt] at h2
                refine ⟨ρ5, A5, σ5, R5, S5, ?_⟩
                rw [qt]
                intro ρ6 H6 R6 s6
                have s26 := (s4.trans s5).trans s6
                have s36 : St' ρ2 (upd Hb p0 (.lst av)) ρ6 H6 := s26
                cases b with
                | false =>
                  dsimp only at h2 ⊢
                  rw [if_neg (by decide)]
                  obtain ⟨d1, d2, d3⟩ := St'.del (A2 := A6) hn hp2 s36
                  refine ⟨Z.del H6 p0, ρ6, A6, acc, av, by unfold Z.del; rw [if_pos rfl], ?_, d2, R6.del d1 d2, s2.trans d3, rav.to R2 d3, h2.to d3⟩
                  rw [upd_del]
                  funext b
                  unfold upd
                  split
                  · rename_i e; rw [e, d1]
                  · rfl
                | true =>
                  dsimp only at h2 ⊢
                  rw [if_pos rfl]
                  cases qe : fe σ5 A6 with
                  | none => rw [qe] at h2; exact h2.elim
                  | some r =>
                    cases r with
                    | ex _ _ => rw [qe] at h2; exact h2.elim
                    | ok z A7 =>
                      rw [qe] at h2
                      dsimp only at h2
                      refine ⟨ρ6, A6, σ5, R6, S5.to R5 s6, ?_⟩
                      rw [qe]
                      intro ρ7 H7 R7 s7 w rw7
                      have s37 := s36.trans s7
                      obtain ⟨d1, d2, d3⟩ := St'.del (A2 := A7) hn hp2 s37
                      split at h2
                      · rename_i hz
                        have hl := rav.length
                        have := SZ_le
                        refine ⟨av, d1, by omega, Z.del H7 p0, ρ7, A7, acc ++ [z], av ++ [w], by unfold Z.del; rw [if_pos rfl], ?_, d2, R7.del d1 d2, s2.trans d3, (rav.to R2 d3).append (.cons (rw7.del d1) .nil), h2.to d3⟩
                        rw [upd_del]
                      · exact h2.elim
theorem z_comp (hc : X.calm = true) (hN : X.N.Nodup) (hi : PI X tg iter (tI c W wk u)) (ok : BlkOk X.N X.env.scope scope own)
    (hg : ∀ (s : Shared) (H : Hp) (C : Addr) (cl : List (Str × Addr)) (fp : List Addr), PG (X.blk s H scope (compEnvC scope cl C X.env) fp) tg (tG c wk us g)) (ht : ∀ (s : Shared) (H : Hp) (C : Addr) (cl : List (Str × Addr)) (fp : List Addr), PTs (X.blk s H scope (compEnvC scope cl C X.env) fp) ifs (tT c WN t))
    (he : ∀ (s : Shared) (H : Hp) (C : Addr) (cl : List (Str × Addr)) (fp : List Addr), PE (X.blk s H scope (compEnvC scope cl C X.env) fp) elt (tE c WN fe)) (hus : ∀ i ∈ us, i ∈ own.map (·.2)) (hs : ∀ x, foldedSetIterable iter X.env x = pure x := by intro _; rfl) :
    PE X (.ListComp elt [⟨tg, iter, ifs, 0⟩] scope pos) (tN c W (zcomp (own.map (·.2)) g u t fe)) :=
  (pe_lc hc hN hi ok hg ht he hs).zm fun σ H Q h => comp_read hus h
end
end Z

noncomputable section
set_option maxHeartbeats 2000000
namespace Z
open PySem PySem.Spec PyProof.Rows L2

/-- a block's result leads on -/
def LdS (c : Cn) (ρ : List Addr) (H : Hp) (D : Ends) (W : WX) (r : Option RS) : Prop :=
  match r with
  | none => False
  | some (.nx σd A) => ∀ ρ' H' σ', Rel c ρ' A H' → St' ρ H ρ' H' → Rsl c ρ' H' σd σ' → D.nx σ' H'
  | some (.bk σd A) => ∀ ρ' H' σ', Rel c ρ' A H' → St' ρ H ρ' H' → Rsl c ρ' H' σd σ' → D.bk σ' H'
  | some (.ct σd A) => ∀ ρ' H' σ', Rel c ρ' A H' → St' ρ H ρ' H' → Rsl c ρ' H' σd σ' → D.ct σ' H'
  | some (.rt d A) => ∀ ρ' H' v, Rel c ρ' A H' → St' ρ H ρ' H' → Rv c ρ' H' d v → D.rt v H'
  | some (.ex x σd A) => ∀ ρ' H' σ', Rel c ρ' A H' → St' ρ H ρ' H' → Rsl c ρ' H' σd σ' → ∀ cls d, IsX c x cls d → W cls d σ' H'
def tS (c : Cn) (W : WX) (f : Sv) : L2.TS := fun D σ H => ∃ ρ A σd, Rel c ρ A H ∧ Rsl c ρ H σd σ ∧ LdS c ρ H D W (f σd A)
section
variable {c : Cn} {ρ ρ' ρ1 : List Addr} {A : Hh} {H H' H1 : Hp} {σd : Sl} {σ : L2.St} {W : WX} {D D' : Ends}
theorem LdS.to {r : Option RS} (h : LdS c ρ H D W r) (s : St' ρ H ρ' H') : LdS c ρ' H' D W r := by
  revert h
  cases r with
  | none => exact fun h => h
  | some r => cases r with
    | nx σd A => exact fun h ρ2 H2 σ2 R2 s2 => h ρ2 H2 σ2 R2 (s.trans s2)
    | bk σd A => exact fun h ρ2 H2 σ2 R2 s2 => h ρ2 H2 σ2 R2 (s.trans s2)
    | ct σd A => exact fun h ρ2 H2 σ2 R2 s2 => h ρ2 H2 σ2 R2 (s.trans s2)
    | rt d A => exact fun h ρ2 H2 v R2 s2 => h ρ2 H2 v R2 (s.trans s2)
    | ex x σd A => exact fun h ρ2 H2 σ2 R2 s2 => h ρ2 H2 σ2 R2 (s.trans s2)
theorem LdS.of {α : Type} {m : Option (R α)} {f : α → Hh → Option RS} (R0 : Rel c ρ A H) (S : Rsl c ρ H σd σ) (h : LdS c ρ H D W (RS.of σd m f)) : Ld c ρ H σ W m fun a ρ1 A1 H1 => LdS c ρ1 H1 D W (f a A1) := by
  revert h
  cases m with
  | none => exact fun h => h
  | some r => cases r with
    | ok a A1 => exact fun h ρ1 H1 R1 s1 => LdS.to h s1
    | ex x A1 => exact fun h ρ1 H1 R1 s1 => h ρ1 H1 σ R1 s1 (S.to R0 s1)
/-- what comes behind -/
theorem LdS.seq {r : Option RS} {t : Sv} (h : LdS c ρ H D W (RS.andThen r t)) : LdS c ρ H { D with nx := tS c W t D } W r := by
  revert h
  cases r with
  | none => exact fun h => h
  | some r => cases r with
    | nx σd A => exact fun h ρ1 H1 σ1 R1 s1 S1 => ⟨ρ1, A, σd, R1, S1, LdS.to h s1⟩
    | bk σd A => exact fun h => h
    | ct σd A => exact fun h => h
    | rt d A => exact fun h => h
    | ex x σd A => exact fun h => h
end
theorem _root_.L2.PS.zm {X : Cx} {e : Stmt} {t t' : L2.TS} (p : PS X e t') (h : ∀ D σ H, t D σ H → t' D σ H) : PS X e t := ⟨fun pins s σ H D I w => p.run pins s σ H D I (h D σ H w)⟩
theorem _root_.L2.PSs.zm {X : Cx} {e : List Stmt} {t t' : L2.TS} (p : PSs X e t') (h : ∀ D σ H, t D σ H → t' D σ H) : PSs X e t := ⟨fun pins s σ H D I w => p.run pins s σ H D I (h D σ H w)⟩
section
variable {X : Cx} {c : Cn} {W : WX} {a b e tg iter cond : Expr} {st : Stmt} {body rest ba bb : List Stmt} {fe fo fi : Ev D} {g : Gv} {ft : Ev Bool} {s t : Sv} {wk : Bool} {vs us : List Nat} {u : Ev (List D × Wt)} {pos pos' p apos : Pos} {q : Ev (List D)}
theorem s_nil : PSs X [] (tS c W snil) := pss_nil.zm fun D σ H ⟨ρ, A, σd, R, S, h⟩ => h ρ H σ R .refl S
theorem s_cons (h1 : PS X st (tS c W s)) (h2 : PSs X rest (tS c W t)) : PSs X (st :: rest) (tS c W (sseq s t)) :=
  (pss_cons h1 h2).zm fun D σ H ⟨ρ, A, σd, R, S, h⟩ => ⟨ρ, A, σd, R, S, LdS.seq h⟩
theorem s_pass : PS X (.Pass pos) (tS c W spass) := ps_pass.zm fun D σ H ⟨ρ, A, σd, R, S, h⟩ => h ρ H σ R .refl S
theorem s_brk : PS X (.Break pos) (tS c W sbrk) := ps_break.zm fun D σ H ⟨ρ, A, σd, R, S, h⟩ => h ρ H σ R .refl S
theorem s_cnt : PS X (.Continue pos) (tS c W scnt) := ps_continue.zm fun D σ H ⟨ρ, A, σd, R, S, h⟩ => h ρ H σ R .refl S
theorem s_bad : PS X st (tS c W sbad) := ps_never.zm fun D σ H ⟨ρ, A, σd, R, S, h⟩ => h
theorem s_doc {x : Str} {j : Nat} : PS X (.Expr (.Constant (.str x) j pos) pos') (tS c W spass) := ps_doc.zm fun D σ H ⟨ρ, A, σd, R, S, h⟩ => h ρ H σ R .refl S
theorem s_exp (he : PE X e (tE c W fe)) (hs : swapsWith e none pos.line X.env = pure false := by rfl) : PS X (.Expr e pos) (tS c W (sexp fe)) :=
  (ps_expr he hs).zm fun D σ H ⟨ρ, A, σd, R, S, h⟩ => ⟨ρ, A, σd, R, S, (LdS.of R S h).imp fun d ρ1 A1 H1 R1 s1 h1 v _ => h1 ρ1 H1 σ R1 .refl (S.to R s1)⟩
theorem s_ret (he : PE X e (tE c W fe)) : PS X (.Return (some e) pos) (tS c W (sret fe)) :=
  (ps_ret he).zm fun D σ H ⟨ρ, A, σd, R, S, h⟩ => ⟨ρ, A, σd, R, S, (LdS.of R S h).imp fun d ρ1 A1 H1 R1 s1 h1 v rv => h1 ρ1 H1 v R1 .refl rv⟩
theorem s_retN : PS X (.Return none pos) (tS c W (sret (zc .non))) :=
  ps_retN.zm fun D σ H ⟨ρ, A, σd, R, S, h⟩ => h ρ H .non R .refl .non
theorem s_if (hc : PT X cond (tT c W ft)) (ha : PSs X ba (tS c W s)) (hb : PSs X bb (tS c W t)) : PS X (.If cond ba bb pos) (tS c W (sif ft s t)) :=
  (ps_if hc ha hb).zm fun D σ H ⟨ρ, A, σd, R, S, h⟩ => ⟨ρ, A, σd, R, S, (LdS.of R S h).imp fun k ρ1 A1 H1 R1 s1 h1 => by
    cases k with
    | true => rw [if_pos rfl] at h1 ⊢; exact ⟨ρ1, A1, σd, R1, S.to R s1, h1⟩
    | false => rw [if_neg (by decide)] at h1 ⊢; exact ⟨ρ1, A1, σd, R1, S.to R s1, h1⟩⟩
theorem asg_ok {D : Ends} {σ : L2.St} {H : Hp} {ρ : List Addr} {A : Hh} {σd : Sl} (R : Rel c ρ A H) (S : Rsl c ρ H σd σ) (h : LdS c ρ H D W (sasg g fe σd A)) : tE c W fe σ H fun v H1 => tG c false vs g v σ H1 D.nx :=
  ⟨ρ, A, σd, R, S, (LdS.of R S h).imp fun d ρ1 A1 H1 R1 s1 h1 v rv => ⟨d, ρ1, A1, σd, R1, S.to R s1, by simpa using rv, by
    cases qg : g d σd A1 with
    | none => rw [qg] at h1; exact h1.elim
    | some r => cases r with
      | ex _ _ => rw [qg] at h1; exact h1.elim
      | ok σ2 A2 =>
        rw [qg] at h1
        exact fun ρ2 H2 R2 s2 σ2' S2 _ => h1 ρ2 H2 σ2' R2 s2 S2⟩⟩
theorem s_asg (he : PE X e (tE c W fe)) (hg : PG X tg (tG c false vs g)) (hs : swapsWithSole [tg] e pos.line X.env = pure false := by rfl) (hw : swappedStores [tg] e X.env = pure none := by rfl)
    (h1 : (assignEach [tg] X.env).map (·.2) = [assign tg X.env] := by rfl) : PS X (.Assign [tg] e pos) (tS c W (sasg g fe)) :=
  (ps_asg he hg hs hw h1).zm fun D σ H ⟨ρ, A, σd, R, S, h⟩ => asg_ok R S h
theorem s_set {x : Str} (i : Nat) (hN : X.N.Nodup) (hi : X.N[i]? = some x) (hx : Loc X.env.scope x) (he : PE X e (tE c W fe)) (hf : X.fn x = true ∨ X.env.scope.names.lookup x = some .local) (hs : swapsWith e (some (.Name x pos')) pos.line X.env = pure false := by rfl) :
    PS X (.Assign [.Name x pos'] e pos) (tS c W (sasg (gnm i) fe)) :=
  (ps_set hN hi hx he hs hf).zm fun D σ H ⟨ρ, A, σd, R, S, h⟩ => ⟨ρ, A, σd, R, S, (LdS.of R S h).imp fun d ρ1 A1 H1 R1 s1 h1 v rv => h1 ρ1 H1 _ R1 .refl ((S.to R s1).set rv i)⟩
/-- a comprehension's list, by a name -/
theorem s_setLc {elt : Expr} {ifs : List Expr} {scope : Scope} {own : List (Str × Nat)} {spos : Pos} {y : Str} {ftt : Ev Bool} (i : Nat) (hc : X.calm = true) (hN : X.N.Nodup) (hy : X.N[i]? = some y) (hyl : X.env.scope.names.lookup y = some .local)
    (hsw : swapsWith (.ListComp elt [⟨tg, iter, ifs, 0⟩] scope pos) (some (.Name y p)) spos.line X.env = pure true) (hi : PI X tg iter (tI c W wk u)) (ok : BlkOk X.N X.env.scope scope own)
    (hg : ∀ (s : Shared) (H : Hp) (C : Addr) (cl : List (Str × Addr)) (fp : List Addr), PG (X.blk s H scope (compEnvC scope cl C X.env) fp) tg (tG c wk us g)) (ht : ∀ (s : Shared) (H : Hp) (C : Addr) (cl : List (Str × Addr)) (fp : List Addr), PTs (X.blk s H scope (compEnvC scope cl C X.env) fp) ifs (tT c WN ftt))
    (he : ∀ (s : Shared) (H : Hp) (C : Addr) (cl : List (Str × Addr)) (fp : List Addr), PE (X.blk s H scope (compEnvC scope cl C X.env) fp) elt (tE c WN fe)) (hus : ∀ i ∈ us, i ∈ own.map (·.2)) (hs : ∀ x, foldedSetIterable iter X.env x = pure x := by intro _; rfl) :
    PS X (.Assign [.Name y p] (.ListComp elt [⟨tg, iter, ifs, 0⟩] scope pos) spos) (tS c W (sasg (gnm i) (znew (zcomp (own.map (·.2)) g u ftt fe)))) :=
  (ps_setLc hc hN hy hyl hsw hi ok hg ht he hs).zm fun D σ H ⟨ρ, A, σd, R, S, h⟩ => by
    refine comp_read hus ⟨ρ, A, σd, R, S, ?_⟩
    have h1 := LdS.of R S h
    refine (Ld.bind h1).imp fun xs ρ1 A1 H1 R1 s1 h2 a vs n rvs => ?_
    obtain ⟨R2, s2⟩ := R1.made (o := .lst xs) n ⟨vs, rfl, rvs⟩
    have h3 := h2 _ _ R2 s2
    refine h3 _ _ _ R2 .refl (((S.to R s1).to R1 s2).set (.ref ?_) i)
    rw [← R1.len, List.getElem?_append_right (Nat.le_refl _), Nat.sub_self]
    rfl
/-- a, b = c, d -/
theorem s_par {x y : Str} {px py pt pt2 : Pos} {kt k2} (i j : Nat) (hc : X.calm = true) (hN : X.N.Nodup) (hi : X.N[i]? = some x) (hj : X.N[j]? = some y) (hij : i ≠ j)
    (hx : X.env.scope.names.lookup x = some .local) (hy : X.env.scope.names.lookup y = some .local) (ha : PA X [a, b] (tA c W q))
    (hw : swappedStores [.Tuple [.Name x px, .Name y py] kt pt] (.Tuple [a, b] k2 pt2) X.env = pure (some [x, y]) := by rfl)
    (hs : swapsWithSole [.Tuple [.Name x px, .Name y py] kt pt] (.Tuple [a, b] k2 pt2) pos.line X.env = pure false := by rfl) :
    PS X (.Assign [.Tuple [.Name x px, .Name y py] kt pt] (.Tuple [a, b] k2 pt2) pos) (tS c W (spar i j q)) :=
  (ps_par hc hN hi hj hij hx hy ha hw hs).zm fun D σ H ⟨ρ, A, σd, R, S, h⟩ => ⟨ρ, A, σd, R, S, (LdS.of R S h).imp fun ds ρ1 A1 H1 R1 s1 h1 vs rvs => by
    cases rvs with
    | nil => exact h1.elim
    | cons r rs => cases rs with
      | nil => exact h1.elim
      | cons r2 rs2 => cases rs2 with
        | cons _ _ => exact h1.elim
        | nil => exact ⟨_, _, rfl, h1 ρ1 H1 _ R1 .refl (((S.to R s1).set r i).set r2 j)⟩⟩
theorem body_end {c : Cn} {ρ : List Addr} {H : Hp} {D : Ends} {W : WX} {r : Option RS} {k : Sl → Hh → Option RS} {N : L2.St → Hp → Prop}
    (h : LdS c ρ H D W (match r with
      | some (.nx σ3 A3) => k σ3 A3
      | some (.ct σ3 A3) => k σ3 A3
      | some (.bk σ3 A3) => some (.nx σ3 A3)
      | r => r))
    (hN : ∀ σ3 A3 ρ' H' σ', LdS c ρ H D W (k σ3 A3) → Rel c ρ' A3 H' → St' ρ H ρ' H' → Rsl c ρ' H' σ3 σ' → N σ' H') : LdS c ρ H { D with nx := N, ct := N, bk := D.nx } W r := by
  revert h
  cases r with
  | none => exact fun h => h
  | some r => cases r with
    | nx σd A => exact fun h ρ1 H1 σ1 R1 s1 S1 => hN _ _ _ _ _ h R1 s1 S1
    | bk σd A => exact fun h => h
    | ct σd A => exact fun h ρ1 H1 σ1 R1 s1 S1 => hN _ _ _ _ _ h R1 s1 S1
    | rt d A => exact fun h => h
    | ex x σd A => exact fun h => h
theorem s_for (hp : PassesOwn (model X.prog X.w) X.A X.env X.xe) (hc : X.calm = true) (hi : PI X tg iter (tI c W wk u)) (hg : PG X tg (tG c wk vs g)) (hb : PSs X body (tS c W s))
    (hs : ∀ x, foldedSetIterable iter X.env x = pure x := by intro _; rfl) : PS X (.For tg iter body [] pos) (tS c W (sfor g u s)) :=
  (ps_for hp hc hi hg hb hs).zm fun D σ H ⟨ρ, A, σd, R, S, h⟩ => ⟨ρ, A, σd, R, S, (LdS.of R S h).imp fun p ρ1 A1 H1 R1 s1 h1 J wJ => by
    refine ⟨fun i m σ H => m = p.1.length - i ∧ i ≤ p.1.length ∧ ∃ ρ A σd, Rel c ρ A H ∧ St' ρ1 H1 ρ H ∧ Rsl c ρ H σd σ ∧ LdS c ρ H D W (forL p.2 g s (p.1.drop i) σd A), ?_, ?_⟩
    · exact ⟨_, rfl, Nat.zero_le _, ρ1, A1, σd, R1, .refl, S.to R s1, h1⟩
    · rintro i m σ2 H2 ⟨em, hi, ρ2, A2, σd2, R2, s2, S2, h2⟩
      have hw : wOk p.2 A2 = true := by
        cases q : wOk p.2 A2 with
        | true => rfl
        | false => cases q2 : p.1.drop i with
          | nil => rw [q2] at h2; simp only [forL, q] at h2; exact h2.elim
          | cons x xs => rw [q2] at h2; simp only [forL, q] at h2; exact h2.elim
      obtain ⟨wg, ws⟩ := wJ ρ2 A2 H2 R2 s2 hw
      cases q : p.1.drop i with
      | nil =>
        have e : i = p.1.length := by
          have := congrArg List.length q
          rw [List.length_drop, List.length_nil] at this
          omega
        rw [q] at h2
        simp only [forL, hw, if_true] at h2
        exact .inl ⟨by rw [e]; exact ws, h2 ρ2 H2 σ2 R2 .refl S2⟩
      | cons x xs =>
        have hlt : i < p.1.length := by
          have := congrArg List.length q
          rw [List.length_drop, List.length_cons] at this
          omega
        have hx : p.1[i]? = some x := by
          have := List.getElem?_drop (xs := p.1) (i := i) (j := 0)
          rw [q] at this
          simpa using this.symm
        have hxs : p.1.drop (i + 1) = xs := by
          rw [← List.drop_drop, q]
          rfl
        rw [q] at h2
        simp only [forL, hw, if_true] at h2
        obtain ⟨g1, g2⟩ := wg i x hx
        refine .inr ⟨g1, fun σ' H' => ∃ ρ A σd, Rel c ρ A H' ∧ St' ρ1 H1 ρ H' ∧ Rsl c ρ H' σd σ' ∧ LdS c ρ H' D W (forL p.2 g s xs σd A), ?_, ?_⟩
        · rintro σ' H' ⟨ρ', A', σd', k1, k2, k3, k4⟩
          exact ⟨p.1.length - (i + 1), by omega, rfl, hlt, ρ', A', σd', k1, k2, k3, by rw [hxs]; exact k4⟩
        · intro y H3 hy
          obtain ⟨R3, s3, ry⟩ := g2 y H3 hy
          refine ⟨x, ρ2, A2, σd2, R3, S2.to R2 s3, ry, ?_⟩
          cases qg : g x σd2 A2 with
          | none => rw [qg] at h2; exact h2.elim
          | some r => cases r with
            | ex _ _ => rw [qg] at h2; exact h2.elim
            | ok σ4 A4 =>
              rw [qg] at h2
              dsimp only at h2
              intro ρ4 H4 R4 s4 σ4' S4 _
              have s24 := s3.trans s4
              refine ⟨ρ4, A4, σ4, R4, S4, body_end (h2.to s24) fun σ5 A5 ρ5 H5 σ5' h5 R5 s5 S5 => ?_⟩
              exact ⟨ρ5, A5, σ5, R5, (s2.trans s24).trans s5, S5, h5.to s5⟩⟩
theorem s_while (hp : PassesOwn (model X.prog X.w) X.A X.env X.xe) (hc : PT X cond (tT c W ft)) (hb : PSs X body (tS c W s)) : PS X (.While cond body [] pos) (tS c W (swhile ft s)) :=
  (ps_while hp hc hb).zm fun D σ H ⟨ρ, A, σd, R, S, h⟩ => by
    unfold swhile at h
    split at h
    · rename_i hx
      generalize hx.choose = n at h
      refine ⟨fun m σ H => ∃ ρ A σd, Rel c ρ A H ∧ Rsl c ρ H σd σ ∧ LdS c ρ H D W (whileN ft s m σd A), ⟨n, ρ, A, σd, R, S, h⟩, ?_⟩
      rintro m σ1 H1 ⟨ρ1, A1, σd1, R1, S1, h1⟩
      cases m with
      | zero => exact h1.elim
      | succ m =>
        refine ⟨ρ1, A1, σd1, R1, S1, (LdS.of R1 S1 h1).imp fun k ρ2 A2 H2 R2 s2 h2 => ?_⟩
        have S2 := S1.to R1 s2
        cases k with
        | false =>
          rw [if_neg (by decide)] at h2
          show if false = true then _ else _
          rw [if_neg (by decide)]
          exact h2 ρ2 H2 σ1 R2 .refl S2
        | true =>
          rw [if_pos rfl] at h2
          show if true = true then _ else _
          rw [if_pos rfl]
          refine ⟨fun σ' H' => ∃ ρ A σd, Rel c ρ A H' ∧ Rsl c ρ H' σd σ' ∧ LdS c ρ H' D W (whileN ft s m σd A), fun σ' H' k => ⟨m, Nat.lt_succ_self _, k⟩, ρ2, A2, σd1, R2, S2, body_end h2 fun σ5 A5 ρ5 H5 σ5' h5 R5 s5 S5 => ?_⟩
          exact ⟨ρ5, A5, σ5, R5, S5, h5.to s5⟩
    · exact h.elim
end
end Z

noncomputable section
set_option maxHeartbeats 2000000
namespace Z
open PySem PySem.Spec PyProof.Rows L2

/-- what a def promises, by its meaning -/
def spF (c : Cn) (m : List D → M D) : Sp := fun vs H Q E => ∃ ρ A ds, Rel c ρ A H ∧ Rvs c ρ H ds vs ∧ Ld c ρ H [] (fun cls d _ H' => E cls d H') (m ds A) fun d ρ' _ H' => ∀ v, Rv c ρ' H' d v → Q v H'
section
variable {c : Cn} {ρ ρ' : List Addr} {A : Hh} {H H' : Hp}
theorem Ld.wsl {α : Type} {σ σ2 : L2.St} {W W2 : WX} {r : Option (R α)} {P : α → List Addr → Hh → Hp → Prop} (h : Ld c ρ H σ W r P) (hw : ∀ cls d H', W cls d σ H' → W2 cls d σ2 H') : Ld c ρ H σ2 W2 r P := by
  revert h
  cases r with
  | none => exact fun h => h
  | some r =>
    cases r with
    | ok a A1 => exact fun h => h
    | ex x A1 => exact fun h ρ' H' R' s' cls d hx => hw _ _ _ (h ρ' H' R' s' cls d hx)
section
variable {X : Cx} {W : WX} {x : Str} {f : Addr} {fd : FuncData} {ps : List Str} {k i : Nat} {o : Orc} {e : Expr} {es : List Expr} {fs : Ev (List D)} {p pos : Pos}
theorem z_call (F : FnOk X.prog X.w X.K X.mg X.base (L2.CX X.prog X.w) k f fd ps (spF c (o.call i))) (tk : Takes X W) (hr : Room k X.A) (hg : Gl X x) (hm : X.mg x = some (.ref f)) (hk : PySem.W.keepIn X.K (.ref f) = true) (hb : Binds X.K fd ps [])
    (ha : PA X (e :: es) (tA c W fs)) (hdb : (x == ("__debug__" : Str)) = false := by decide) (he : starEach (e :: es) X.env = (false, eval e X.env) :: starEach es X.env := by rfl) (hpl : (backTo pos (starEach es X.env)).any (·.1) = false := by rfl) :
    PE X (.Call (.Name x p) (e :: es) [] pos) (tE c W (zcall o i fs)) :=
  (pe_callS F hr hg hm hk hb (fun σ => passAt tk σ) ha hdb he hpl).zm fun σ H Q ⟨ρ, A, σd, R, S, h⟩ => show tA c W fs σ H _ from oneA R S h fun ds vs ρ1 A1 H1 R1 s1 S1 rvs h1 =>
    ⟨ρ1, A1, ds, R1, rvs, h1.wsl fun _ _ _ h => h⟩
end

mutual
theorem Rv.lo : ∀ {d : D} {v : V}, Rv c ρ H d v → D.lo ρ.length d = true
  | _, _, .non => rfl
  | _, _, .bl b => rfl
  | _, _, .int i => rfl
  | _, _, .str x => rfl
  | _, _, .tup h t => Rvs.los t
  | _, _, .lst h t => Rvs.los t
  | _, _, .ref h => decide_eq_true (List.getElem?_eq_some_iff.mp h).1
  | _, _, .exc _ _ => rfl
  | _, _, .emp _ _ => rfl
theorem Rvs.los : ∀ {ds : List D} {vs : List V}, Rvs c ρ H ds vs → D.los ρ.length ds = true
  | _, _, .nil => rfl
  | _, _, .cons r t => by
    show (D.lo _ _ && D.los _ _) = true
    rw [Rv.lo r, Rvs.los t]
    rfl
end
mutual
theorem Rv.down (hp : ρ <+: ρ') : ∀ {d : D} {v : V}, Rv c ρ' H d v → D.lo ρ.length d = true → Rv c ρ H d v
  | _, _, .non, _ => .non
  | _, _, .bl b, _ => .bl b
  | _, _, .int i, _ => .int i
  | _, _, .str x, _ => .str x
  | _, _, .tup h t, l => .tup h (Rvs.down hp t l)
  | _, _, .lst h t, l => .lst h (Rvs.down hp t l)
  | .ref n, _, .ref h, l => .ref (by
    have l' : n < ρ.length := of_decide_eq_true l
    obtain ⟨t, rfl⟩ := hp
    rw [List.getElem?_append_left l'] at h
    exact h)
  | _, _, .exc h e, _ => .exc h e
  | _, _, .emp h e, _ => .emp h e
theorem Rvs.down (hp : ρ <+: ρ') : ∀ {ds : List D} {vs : List V}, Rvs c ρ' H ds vs → D.los ρ.length ds = true → Rvs c ρ H ds vs
  | _, _, .nil, _ => .nil
  | _, _, .cons r t, l => by
    have l' : (D.lo _ _ && D.los _ _) = true := l
    rw [Bool.and_eq_true] at l'
    exact .cons (Rv.down hp r l'.1) (Rvs.down hp t l'.2)
end
theorem Rfs.lo : ∀ {fs : List (Str × D)} {gs : List (Str × V)}, Rfs c ρ H fs gs → D.los ρ.length (fs.map (·.2)) = true
  | _, _, .nil => rfl
  | _, _, .cons r t => by
    show (D.lo _ _ && D.los _ _) = true
    rw [r.lo, Rfs.lo t]
    rfl
theorem Rfs.down (hp : ρ <+: ρ') : ∀ {fs : List (Str × D)} {gs : List (Str × V)}, Rfs c ρ' H fs gs → D.los ρ.length (fs.map (·.2)) = true → Rfs c ρ H fs gs
  | _, _, .nil, _ => .nil
  | _, _, .cons r t, l => by
    have l' : (D.lo _ _ && D.los _ _) = true := l
    rw [Bool.and_eq_true] at l'
    exact .cons (r.down hp l'.1) (Rfs.down hp t l'.2)
theorem Rkv.lo : ∀ {fs : List (List Int × D)} {gs : List (List Int × Addr × V)}, Rkv c ρ H fs gs → D.los ρ.length (fs.map fun p => .tup (p.1.map .int)) = true ∧ D.los ρ.length (fs.map (·.2)) = true
  | _, _, .nil => ⟨rfl, rfl⟩
  | _, _, .cons r r2 t => by
    refine ⟨?_, ?_⟩
    · show (D.lo _ _ && D.los _ _) = true
      rw [r.lo, (Rkv.lo t).1]
      rfl
    · show (D.lo _ _ && D.los _ _) = true
      rw [r2.lo, (Rkv.lo t).2]
      rfl
theorem Rkv.down (hp : ρ <+: ρ') : ∀ {fs : List (List Int × D)} {gs : List (List Int × Addr × V)}, Rkv c ρ' H fs gs → D.los ρ.length (fs.map fun p => .tup (p.1.map .int)) = true → D.los ρ.length (fs.map (·.2)) = true → Rkv c ρ H fs gs
  | _, _, .nil, _, _ => .nil
  | _, _, .cons r r2 t, l, m => by
    have l' : (D.lo _ _ && D.los _ _) = true := l
    have m' : (D.lo _ _ && D.los _ _) = true := m
    rw [Bool.and_eq_true] at l' m'
    exact .cons (r.down hp l'.1) (r2.down hp m'.1) (Rkv.down hp t l'.2 m'.2)
theorem Rck.lo : ∀ {fs : List (Key × D)} {gs : List (Key × V)}, Rck c ρ H fs gs → D.los ρ.length (fs.map (·.2)) = true
  | _, _, .nil => rfl
  | _, _, .cons r t => by
    show (D.lo _ _ && D.los _ _) = true
    rw [r.lo, Rck.lo t]
    rfl
theorem Rck.down (hp : ρ <+: ρ') : ∀ {fs : List (Key × D)} {gs : List (Key × V)}, Rck c ρ' H fs gs → D.los ρ.length (fs.map (·.2)) = true → Rck c ρ H fs gs
  | _, _, .nil, _ => .nil
  | _, _, .cons r t, l => by
    have l' : (D.lo _ _ && D.los _ _) = true := l
    rw [Bool.and_eq_true] at l'
    exact .cons (r.down hp l'.1) (Rck.down hp t l'.2)
theorem Ro.lo {a : Addr} : ∀ {o : O} {ho : HO}, Ro c ρ H a o ho → O.lo ρ.length o = true
  | .lst _, _, ⟨_, _, r⟩ => r.los
  | .ins _ _, _, ⟨_, _, _, r⟩ => r.lo
  | .dct _, _, ⟨_, _, r⟩ => by
    show (D.los _ _ && D.los _ _) = true
    rw [r.lo.1, r.lo.2]
    rfl
  | .dck _, _, ⟨_, _, r⟩ => r.lo
theorem Ro.down (hp : ρ <+: ρ') {a : Addr} : ∀ {o : O} {ho : HO}, Ro c ρ' H a o ho → O.lo ρ.length o = true → Ro c ρ H a o ho
  | .lst _, _, ⟨vs, e, r⟩, l => ⟨vs, e, r.down hp l⟩
  | .ins _ _, _, ⟨dx, gs, e, r⟩, l => ⟨dx, gs, e, r.down hp l⟩
  | .dct _, _, ⟨ks, e, r⟩, l => by
    have l' : (D.los _ _ && D.los _ _) = true := l
    rw [Bool.and_eq_true] at l'
    exact ⟨ks, e, r.down hp l'.1 l'.2⟩
  | .dck _, _, ⟨ks, e, r⟩, l => ⟨ks, e, r.down hp l⟩
theorem gc_ok {d : D} {A' : Hh} (R : Rel c ρ A H) (R' : Rel c ρ' A' H') (s : St' ρ H ρ' H') : ∃ ρ2, Rel c ρ2 (gc A A' d) H' ∧ St' ρ H ρ2 H' ∧ ∀ v, Rv c ρ' H' d v → Rv c ρ2 H' d v := by
  unfold gc
  split
  · rename_i g
    unfold gcOk at g
    rw [Bool.and_eq_true, Bool.and_eq_true] at g
    obtain ⟨⟨g1, g2⟩, g3⟩ := g
    have g2 := of_decide_eq_true g2
    refine ⟨ρ, ⟨?_, R.nd, fun k o a h1 h2 => ?_⟩, ⟨List.prefix_refl _, fun b h n => absurd h n, s.fr⟩, fun v r => r.down s.pre (by rw [R.len]; exact g1)⟩
    · rw [List.length_take, R.len]
      omega
    · have hk : k < A.length := by rw [← R.len]; exact (List.getElem?_eq_some_iff.mp h2).1
      rw [List.getElem?_take, if_pos hk] at h1
      have h2' : ρ'[k]? = some a := by
        obtain ⟨t, rfl⟩ := s.pre
        rw [List.getElem?_append_left (by rw [R.len]; exact hk)]
        exact h2
      obtain ⟨ho, h3, h4⟩ := R'.obj k o a h1 h2'
      refine ⟨ho, h3, h4.down s.pre ?_⟩
      have g4 := List.all_eq_true.mp g3 k (List.mem_range.mpr hk)
      rw [List.getElem?_eq_getElem hk, h1] at g4
      dsimp only at g4
      rw [Bool.or_eq_true] at g4
      rw [R.len]
      rcases g4 with g4 | g4
      · have e := of_decide_eq_true g4
        obtain ⟨ho2, _, h5⟩ := R.obj k _ a (List.getElem?_eq_getElem hk) h2
        rw [← R.len, ← e]
        exact h5.lo
      · exact g4
  · exact ⟨ρ', R', s, fun v r => r⟩
/-- a block, run from the start of a call -/
theorem end_ok {Q : VK} {E : XK} {r : Option RS} (R0 : Rel c ρ A H) (h : Ld c ρ H [] (fun cls d _ H' => E cls d H') (endD A r) fun d ρ' _ H' => ∀ v, Rv c ρ' H' d v → Q v H') :
    LdS c ρ H { nx := fun _ H' => Q .non H', rt := Q } (fun cls d _ H' => E cls d H') r := by
  revert h
  cases r with
  | none => exact fun h => h.elim
  | some r => cases r with
    | nx σd A1 =>
      intro h ρ1 H1 σ1 R1 s1 _
      obtain ⟨ρ2, R2, s2, k⟩ := gc_ok (d := .non) R0 R1 s1
      exact h ρ2 H1 R2 s2 .non .non
    | bk σd A1 => exact fun h => h.elim
    | ct σd A1 => exact fun h => h.elim
    | rt d A1 =>
      intro h ρ1 H1 v R1 s1 rv
      obtain ⟨ρ2, R2, s2, k⟩ := gc_ok (d := d) R0 R1 s1
      exact h ρ2 H1 R2 s2 v (k v rv)
    | ex x σd A1 =>
      intro h ρ1 H1 σ1 R1 s1 _ cls d hx
      obtain ⟨ρ2, R2, s2, _⟩ := gc_ok (d := .non) R0 R1 s1
      exact h ρ2 H1 R2 s2 cls d hx
theorem start_ok {N : List Str} {ds : List D} {vs : List V} (r : Rvs c ρ H ds vs) (hl : vs.length ≤ N.length) : Rsl c ρ H (startD N.length ds) (L2.start N vs) := by
  refine ⟨?_, fun i d h => ?_⟩
  · unfold startD L2.start
    have := r.length
    simp only [List.length_append, List.length_map, List.length_replicate]
    omega
  · unfold startD at h
    unfold L2.start
    by_cases hi : i < ds.length
    · rw [List.getElem?_append_left (by simpa using hi), List.getElem?_map] at h
      obtain ⟨e, h1, h2⟩ := Option.map_eq_some_iff.mp h
      cases h2
      obtain ⟨v, h3, h4⟩ := r.get h1
      refine ⟨v, ?_, h4⟩
      have hi2 : i < vs.length := by rw [← r.length]; exact hi
      rw [List.getElem?_append_left (by simpa using hi2), List.getElem?_map, h3]
      rfl
    · rw [List.getElem?_append_right (by simpa using hi)] at h
      rw [List.getElem?_replicate] at h
      split at h
      · cases h
      · cases h
end
/-- a def keeps its meaning -/
theorem fn_means {P : Program} {w : World} {K : PySem.W.Frag} {mg : Str → Option Value} {base : Heap} {x qual : Str} {params : Arguments} {body : List Stmt} {scope : Scope} {dvs : List V} {kws : List (Str × V)} {f : Addr} {fd : FuncData} {N ps : List Str} {c : Cn} {Pg : List Fn} {k i : Nat} {F : Fn}
    (Fd : FunD K x qual params body scope dvs kws f fd) (S : FnScope N ps scope) (hF : Pg[i]? = some F) (hn : F.n = N.length) (hp : F.np = ps.length) (hpn : ps.length ≤ N.length)
    (hbody : ∀ (cdv : Value) (A : Around) (outer : List Env) (s : Shared) (H : Hp) (E : XK), Room k (A.deeper (envOfC qual scope s.heap.objs.size f cdv)) →
      PSs (cxOf (L2.CX P w) P w K mg base N qual scope f cdv A outer s H E) body (tS c (fun cls d _ H' => E cls d H') (F.body ⟨callN Pg k⟩))) :
    FnOk P w K mg base (L2.CX P w) (k + 1) f fd ps (spF c (callN Pg (k + 1) i)) := by
  have key : ∀ ds A, callN Pg (k + 1) i ds A = if ds.length = F.np then endD A (F.body ⟨callN Pg k⟩ (startD F.n ds) A) else none := fun ds A => by
    simp only [callN, hF]
  refine Fd.ok S (fun vs H Q E ⟨ρ, A, ds, R, r, h⟩ => ?_) fun cdv A outer s H vs Q E hr ⟨ρ, A', ds, R, r, h⟩ => ?_
  · rw [key] at h
    split at h
    · rename_i e
      rw [← r.length, e, hp]
    · exact h.elim
  · rw [key] at h
    split at h
    · rename_i e
      refine ⟨_, hbody cdv A outer s H E hr, ρ, A', startD F.n ds, R, ?_, end_ok R h⟩
      rw [hn]
      exact start_ok r (by rw [← r.length, e, hp]; exact hpn)
    · exact h.elim
end Z

noncomputable section
set_option maxHeartbeats 2000000
namespace Z
open PySem PySem.Spec PyProof.Rows L2

/-- a callee, by its name -/
def Cal (P : Program) (w : World) (K : PySem.W.Frag) (mg : Str → Option Value) (base : Heap) (c : Cn) (Pg : List Fn) (k : Nat) (x : Str) (i : Nat) : Prop :=
  ∃ f fd ps, mg x = some (.ref f) ∧ PySem.W.keepIn K (.ref f) = true ∧ Binds K fd ps [] ∧ FnOk P w K mg base (L2.CX P w) k f fd ps (spF c (callN Pg k i))
section
variable {X : Cx} {c : Cn} {W : WX} {x : Str} {k i : Nat} {Pg : List Fn} {e : Expr} {es : List Expr} {fs : Ev (List D)} {p pos : Pos}
theorem z_cal (C : Cal X.prog X.w X.K X.mg X.base c Pg k x i) (tk : Takes X W) (hr : Room k X.A) (hg : Gl X x) (ha : PA X (e :: es) (tA c W fs))
    (hdb : (x == ("__debug__" : Str)) = false := by decide) (he : starEach (e :: es) X.env = (false, eval e X.env) :: starEach es X.env := by rfl) (hpl : (backTo pos (starEach es X.env)).any (·.1) = false := by rfl) :
    PE X (.Call (.Name x p) (e :: es) [] pos) (tE c W (zcall ⟨callN Pg k⟩ i fs)) := by
  obtain ⟨f, fd, ps, h1, h2, h3, h4⟩ := C
  exact z_call h4 tk hr hg h1 h2 h3 ha hdb he hpl
end
theorem room_u {k : Nat} {A : Around} (h : Room k A) : A.units + 65 < cLine := by
  have := h.un
  omega
/-- nothing holds of a call that has no room -/
theorem fn_zero {P : Program} {w : World} {K : PySem.W.Frag} {mg : Str → Option Value} {base : Heap} {c : Cn} {Pg : List Fn} {f : Addr} {fd : FuncData} {ps : List Str} {i : Nat} : FnOk P w K mg base (L2.CX P w) 0 f fd ps (spF c (callN Pg 0 i)) :=
  ⟨fun _ _ _ _ ⟨_, _, _, _, _, h⟩ => h.elim, fun _ _ _ _ _ _ _ _ _ _ _ _ _ ⟨_, _, _, _, _, h⟩ => h.elim⟩
section
variable {X : Cx} {c : Cn} {W : WX} {elt tg iter : Expr} {ifs : List Expr} {scope : Scope} {own : List (Str × Nat)} {pos spos p : Pos} {y : Str} {wk : Bool} {us : List Nat} {u : Ev (List D × Wt)} {g : Gv} {ftt : Ev Bool} {fe : Ev D}
/-- a comprehension's list by a name, that stays as it is -/
theorem s_setLcF (i : Nat) (hc : X.calm = true) (hN : X.N.Nodup) (hy : X.N[i]? = some y) (hyl : X.env.scope.names.lookup y = some .local)
    (hsw : swapsWith (.ListComp elt [⟨tg, iter, ifs, 0⟩] scope pos) (some (.Name y p)) spos.line X.env = pure true) (hi : PI X tg iter (tI c W wk u)) (ok : BlkOk X.N X.env.scope scope own)
    (hg : ∀ (s : Shared) (H : Hp) (C : Addr) (cl : List (Str × Addr)) (fp : List Addr), PG (X.blk s H scope (compEnvC scope cl C X.env) fp) tg (tG c wk us g)) (ht : ∀ (s : Shared) (H : Hp) (C : Addr) (cl : List (Str × Addr)) (fp : List Addr), PTs (X.blk s H scope (compEnvC scope cl C X.env) fp) ifs (tT c WN ftt))
    (he : ∀ (s : Shared) (H : Hp) (C : Addr) (cl : List (Str × Addr)) (fp : List Addr), PE (X.blk s H scope (compEnvC scope cl C X.env) fp) elt (tE c WN fe)) (hus : ∀ i ∈ us, i ∈ own.map (·.2)) (hs : ∀ x, foldedSetIterable iter X.env x = pure x := by intro _; rfl) :
    PS X (.Assign [.Name y p] (.ListComp elt [⟨tg, iter, ifs, 0⟩] scope pos) spos) (tS c W (sasg (gnm i) (zfz (zcomp (own.map (·.2)) g u ftt fe)))) := by
  refine ⟨fun pins s σ H D I ⟨ρ, A, σd, R, S, h⟩ => ?_⟩
  refine thn ((ps_setLc hc hN hy hyl hsw hi ok hg ht he hs).run pins s σ H { D with nx := fun σ' H1 => ∃ a vs, H1 a = some (.lst vs) ∧ ∀ ob, D.nx σ' (upd H1 a (.frz ob (.lst vs))) } I ?_) fun f s1 h1 => ?_
  · refine comp_read hus ⟨ρ, A, σd, R, S, ?_⟩
    have h1 := LdS.of R S h
    refine (Ld.bind h1).imp fun xs ρ1 A1 H1 R1 s1 h2 a vs n rvs => ⟨a, vs, upd_same, fun ob => ?_⟩
    rw [upd_upd]
    obtain ⟨R2, s2, _⟩ := R1.laid (ho := .frz ob (.lst vs)) n
    have h3 := h2 ρ1 _ R2 s2
    exact h3 ρ1 _ _ R2 .refl (((S.to R s1).to R1 s2).set (.lst (.inl ⟨ob, upd_same⟩) (rvs.to R1 s2)) i)
  · cases f with
    | next =>
      obtain ⟨σ', H', I', a, vs, ha, q⟩ := h1
      obtain ⟨z, its, n, rv, hob⟩ := I'.hok a _ ha
      exact ⟨σ', _, I'.write (x := a) (e := a) (t' := s1.toks) (h' := s1.heap) (by rw [ha]; trivial) (.inl rfl) (fun b u _ h => h) ⟨_, hob⟩ (o := .frz _ (.lst vs)) ⟨hob, z, its, n, rv, hob⟩, q _⟩
    | ret v => exact h1
    | brk => exact h1
    | cont => exact h1
end
theorem law_start {K : PySem.W.Frag} {H : Hp} {a : Addr} {ns : List Int} {eA cA : Nat → Addr} {m : List D → M D} {P : Program} {w : World} (hO : Only H) (hS : SqL K H a (ns.map V.int)) (h : ∃ A', m [.lst (ns.map .int)] [] = some (.ok (.bl true) A')) :
    spF ⟨K, cA, eA, P, w⟩ m [.ref a] H (fun v _ => v = .bl true) fun _ _ _ => False := by
  obtain ⟨A', h⟩ := h
  refine ⟨[], [], [.lst (ns.map .int)], ⟨rfl, .nil, fun n o a e => by simp at e⟩, .cons (.lst ?_ (.of_ints ns)) .nil, ?_⟩
  · rcases hS with (h1 | ⟨o, h1⟩) | h1
    · rcases hO a with h2 | ⟨o, xs, h2⟩
      · rw [h1] at h2; cases h2
      · rw [h1] at h2; cases h2
    · exact .inl ⟨o, h1⟩
    · exact .inr h1
  · rw [h]
    intro ρ' H' _ _ v rv
    cases rv
    rfl
theorem walkZ {l : PySem.W.OpenLaw} {q : Program} {loose : List Str} {XP : (Str → Option Value) → Heap → Prop} {YP : World → Heap → Prop} {d : DefRec} {n k : Nat} {x : Str}
    (most : l.most = some n) (small : n ≤ sizeLine) (plain : d.params.defaults = []) (room : Room k callerA)
    (go : ∀ (w : World) (mg : Str → Option Value) (fa : Addr) (h : Heap), YP w h → h.Ns mainGlobals mg → mg d.name = some (.ref fa) →
      ∃ (K : PySem.W.Frag) (fd : FuncData) (sp : Sp), K.In h ∧ (∀ (s : Shared) (v : Value), BindsTo s fd ⟨[v], []⟩ [(x, v)]) ∧
        (∀ (H : Hp) (a : Addr) (ns : List Int), ns.length ≤ n → Only H → SqL K H a (ns.map V.int) → sp [.ref a] H (fun v _ => v = .bl true) fun _ _ _ => False) ∧
        ∀ b : Heap, K.In b → b.Ns mainGlobals mg → FnOk l.prog w K mg b (L2.CX l.prog w) k fa fd [x] sp) :
    PySem.W.WalkO q loose XP YP l.row.toRowW d [] (fun f vs => PySem.call f vs) := by
  refine Att.attach_call most plain ?_
  intro w s0 s1 mg mb fa o pm cd doc a vs ns G Y ho hd hcd hn hobj hin hlen hgen
  obtain ⟨K, fd, sp, k1, k2, k3, k4⟩ := go w mg fa _ Y G.T.g hn
  refine law_call k1 G.T.g G.T.b G.T.builtins G.T.nolimit hgen hobj hin (Nat.le_trans hlen small) room k4 k2 (fun H hO hS => k3 H a ns hlen hO hS) ?_
  rintro H e s2 ⟨_, _, _, _, _, _, _, _, _, _, _, _, z⟩
  exact z
end Z

noncomputable section
set_option maxHeartbeats 2000000
namespace Z
open PySem
theorem andThen_ok {α β : Type} (a : α) (A : Hh) (f : α → Hh → Option (R β)) : R.andThen (some (.ok a A)) f = f a A := rfl
theorem of_ok {α : Type} (σ : Sl) (a : α) (A : Hh) (f : α → Hh → Option RS) : RS.of σ (some (.ok a A)) f = f a A := rfl
theorem sthen_nx (σ : Sl) (A : Hh) (t : Sv) : RS.andThen (some (.nx σ A)) t = t σ A := rfl
theorem sthen_rt (d : D) (A : Hh) (t : Sv) : RS.andThen (some (.rt d A)) t = some (.rt d A) := rfl
theorem sthen_bk (σ : Sl) (A : Hh) (t : Sv) : RS.andThen (some (.bk σ A)) t = some (.bk σ A) := rfl
theorem sthen_ct (σ : Sl) (A : Hh) (t : Sv) : RS.andThen (some (.ct σ A)) t = some (.ct σ A) := rfl
theorem gc_len {A A' : Hh} {d : D} (h : A'.length = A.length) : gc A A' d = A' := by
  unfold gc
  split
  · rw [← h, List.take_length]
  · rfl
theorem gc_self (A : Hh) (d : D) : gc A A d = A := gc_len rfl
/-- what was made is dropped -/
theorem gc_drop {A A' B : Hh} {d : D} (hl : A'.length = A.length) (hd : D.lo A.length d = true) (ho : ∀ (i : Nat) o, A'[i]? = some o → A[i]? = some o ∨ O.lo A.length o = true) : gc A (A' ++ B) d = A' := by
  unfold gc
  have : gcOk A (A' ++ B) d = true := by
    unfold gcOk
    rw [hd, Bool.true_and, Bool.and_eq_true]
    refine ⟨decide_eq_true (by rw [List.length_append]; omega), List.all_eq_true.mpr fun i hi => ?_⟩
    have hi' : i < A.length := List.mem_range.mp hi
    rw [List.getElem?_eq_getElem hi', List.getElem?_append_left (by omega), List.getElem?_eq_getElem (by omega)]
    rcases ho i _ (List.getElem?_eq_getElem (by omega)) with h | h
    · rw [List.getElem?_eq_getElem hi'] at h
      have h2 := Option.some.inj h
      rw [h2]
      simp
    · simp [h]
  rw [if_pos this, ← hl, List.take_left]
theorem gc_app {A B : Hh} {d : D} (hd : D.lo A.length d = true) : gc A (A ++ B) d = A := gc_drop rfl hd fun i o h => .inl h
mutual
/-- no object is named -/
def D.flat : D → Bool
  | .tup xs => D.flats xs
  | .lst xs => D.flats xs
  | .ref _ => false
  | _ => true
def D.flats : List D → Bool
  | [] => true
  | x :: xs => D.flat x && D.flats xs
end
mutual
theorem D.flat_lo (n : Nat) : ∀ d : D, d.flat = true → D.lo n d = true
  | .non, _ => rfl
  | .bl _, _ => rfl
  | .int _, _ => rfl
  | .str _, _ => rfl
  | .tup xs, h => D.flats_lo n xs h
  | .lst xs, h => D.flats_lo n xs h
  | .exc _, _ => rfl
  | .emp, _ => rfl
theorem D.flats_lo (n : Nat) : ∀ xs : List D, D.flats xs = true → D.los n xs = true
  | [], _ => rfl
  | x :: xs, h => by
    have h' : (D.flat x && D.flats xs) = true := h
    rw [Bool.and_eq_true] at h'
    show (D.lo n x && D.los n xs) = true
    rw [D.flat_lo n x h'.1, D.flats_lo n xs h'.2]
    rfl
end
theorem flats_all : ∀ {xs : List D}, (∀ x ∈ xs, x.flat = true) → D.flats xs = true
  | [], _ => rfl
  | x :: xs, h => by
    show (D.flat x && D.flats xs) = true
    rw [h x (List.mem_cons_self ..), flats_all fun y hy => h y (List.mem_cons_of_mem _ hy)]
    rfl

mutual
def D.dep : D → Nat
  | .tup xs => D.deps xs + 1
  | .lst xs => D.deps xs + 1
  | _ => 0
def D.deps : List D → Nat
  | [] => 0
  | x :: xs => max (D.dep x) (D.deps xs)
end
mutual
/-- data without bools, texts, objects -/
def D.nob : D → Bool
  | .non => true
  | .int _ => true
  | .tup xs => D.nobs xs
  | .lst xs => D.nobs xs
  | _ => false
def D.nobs : List D → Bool
  | [] => true
  | x :: xs => D.nob x && D.nobs xs
end
mutual
theorem nob_py : ∀ d : D, d.nob = true → ∃ p, d.py = some p ∧ p.canLay0 = true ∧ p.depth = d.dep
  | .non, _ => ⟨_, rfl, by simp [PyData.canLay0], by simp [PyData.depth, D.dep]⟩
  | .int _, _ => ⟨_, rfl, by simp [PyData.canLay0], by simp [PyData.depth, D.dep]⟩
  | .tup xs, h => by
    obtain ⟨ps, e, h1, h2⟩ := nobs_py xs h
    exact ⟨.tuple ps, by simp [D.py, e], by simp [PyData.canLay0, h1], by simp [PyData.depth, D.dep, h2]⟩
  | .lst xs, h => by
    obtain ⟨ps, e, h1, h2⟩ := nobs_py xs h
    exact ⟨.list ps, by simp [D.py, e], by simp [PyData.canLay0, h1], by simp [PyData.depth, D.dep, h2]⟩
theorem nobs_py : ∀ xs : List D, D.nobs xs = true → ∃ ps, D.pys xs = some ps ∧ PyData.canLayAll0 ps = true ∧ PyData.depthAll ps = D.deps xs
  | [], _ => ⟨[], rfl, by simp [PyData.canLayAll0], by simp [PyData.depthAll, D.deps]⟩
  | x :: xs, h => by
    have h' : (D.nob x && D.nobs xs) = true := h
    rw [Bool.and_eq_true] at h'
    obtain ⟨p, e, h1, h2⟩ := nob_py x h'.1
    obtain ⟨ps, e', h3, h4⟩ := nobs_py xs h'.2
    exact ⟨p :: ps, by simp [D.pys, e, e'], by simp [PyData.canLayAll0, h1, h3], by simp [PyData.depthAll, D.deps, h2, h4]⟩
end
mutual
theorem nob_eqv : ∀ (x y : D) (p q : PyData), x.nob = true → y.nob = true → x.py = some p → y.py = some q → PyData.eqv p q = D.deq x y
  | .non, y, p, q, _, hy, e1, e2 => by
    cases e1
    cases y with
    | non => cases e2; rfl
    | int j => cases e2; rfl
    | tup ys => obtain ⟨z, e, _⟩ := nobs_py ys hy; simp only [D.py, e, Option.map_some, Option.some.injEq] at e2; subst e2; rfl
    | lst ys => obtain ⟨z, e, _⟩ := nobs_py ys hy; simp only [D.py, e, Option.map_some, Option.some.injEq] at e2; subst e2; rfl
    | bl _ => cases hy
    | str _ => cases hy
    | ref _ => cases hy
    | exc _ => cases hy
    | emp => cases hy
  | .int i, y, p, q, _, hy, e1, e2 => by
    cases e1
    cases y with
    | non => cases e2; rfl
    | int j => cases e2; simp only [PyData.eqv, D.deq]; rfl
    | tup ys => obtain ⟨z, e, _⟩ := nobs_py ys hy; simp only [D.py, e, Option.map_some, Option.some.injEq] at e2; subst e2; rfl
    | lst ys => obtain ⟨z, e, _⟩ := nobs_py ys hy; simp only [D.py, e, Option.map_some, Option.some.injEq] at e2; subst e2; rfl
    | bl _ => cases hy
    | str _ => cases hy
    | ref _ => cases hy
    | exc _ => cases hy
    | emp => cases hy
  | .tup xs, y, p, q, hx, hy, e1, e2 => by
    obtain ⟨ps, e, _⟩ := nobs_py xs hx
    simp only [D.py, e, Option.map_some, Option.some.injEq] at e1
    subst e1
    cases y with
    | non => cases e2; rfl
    | int j => cases e2; rfl
    | tup ys =>
      obtain ⟨z, e', _⟩ := nobs_py ys hy
      simp only [D.py, e', Option.map_some, Option.some.injEq] at e2
      subst e2
      rw [PyData.eqv, nobs_eqv xs ys ps z hx hy e e']
      rfl
    | lst ys => obtain ⟨z, e', _⟩ := nobs_py ys hy; simp only [D.py, e', Option.map_some, Option.some.injEq] at e2; subst e2; rfl
    | bl _ => cases hy
    | str _ => cases hy
    | ref _ => cases hy
    | exc _ => cases hy
    | emp => cases hy
  | .lst xs, y, p, q, hx, hy, e1, e2 => by
    obtain ⟨ps, e, _⟩ := nobs_py xs hx
    simp only [D.py, e, Option.map_some, Option.some.injEq] at e1
    subst e1
    cases y with
    | non => cases e2; rfl
    | int j => cases e2; rfl
    | lst ys =>
      obtain ⟨z, e', _⟩ := nobs_py ys hy
      simp only [D.py, e', Option.map_some, Option.some.injEq] at e2
      subst e2
      rw [PyData.eqv, nobs_eqv xs ys ps z hx hy e e']
      rfl
    | tup ys => obtain ⟨z, e', _⟩ := nobs_py ys hy; simp only [D.py, e', Option.map_some, Option.some.injEq] at e2; subst e2; rfl
    | bl _ => cases hy
    | str _ => cases hy
    | ref _ => cases hy
    | exc _ => cases hy
    | emp => cases hy
  | .bl _, _, _, _, hx, _, _, _ => by cases hx
  | .str _, _, _, _, hx, _, _, _ => by cases hx
  | .ref _, _, _, _, hx, _, _, _ => by cases hx
  | .exc _, _, _, _, hx, _, _, _ => by cases hx
  | .emp, _, _, _, hx, _, _, _ => by cases hx
theorem nobs_eqv : ∀ (xs ys : List D) (ps qs : List PyData), D.nobs xs = true → D.nobs ys = true → D.pys xs = some ps → D.pys ys = some qs → PyData.eqvAll ps qs = D.deqs xs ys
  | [], [], ps, qs, _, _, e1, e2 => by cases e1; cases e2; rfl
  | [], y :: ys, ps, qs, _, hy, e1, e2 => by
    cases e1
    obtain ⟨z, e', _⟩ := nobs_py (y :: ys) hy
    rw [e'] at e2
    cases e2
    cases hz : D.py y with
    | none => simp [D.pys, hz] at e'
    | some p => cases hz2 : D.pys ys with
      | none => simp [D.pys, hz, hz2] at e'
      | some ps => simp only [D.pys, hz, hz2, Option.some.injEq] at e'; subst e'; rfl
  | x :: xs, [], ps, qs, hx, _, e1, e2 => by
    cases e2
    cases hz : D.py x with
    | none => simp [D.pys, hz] at e1
    | some p => cases hz2 : D.pys xs with
      | none => simp [D.pys, hz, hz2] at e1
      | some ps => simp only [D.pys, hz, hz2, Option.some.injEq] at e1; subst e1; rfl
  | x :: xs, y :: ys, ps, qs, hx, hy, e1, e2 => by
    have hx' : (D.nob x && D.nobs xs) = true := hx
    have hy' : (D.nob y && D.nobs ys) = true := hy
    rw [Bool.and_eq_true] at hx' hy'
    obtain ⟨p, k1, _⟩ := nob_py x hx'.1
    obtain ⟨ps', k2, _⟩ := nobs_py xs hx'.2
    obtain ⟨q, k3, _⟩ := nob_py y hy'.1
    obtain ⟨qs', k4, _⟩ := nobs_py ys hy'.2
    simp only [D.pys, k1, k2, Option.some.injEq] at e1
    simp only [D.pys, k3, k4, Option.some.injEq] at e2
    subst e1 e2
    rw [PyData.eqvAll, nob_eqv x y p q hx'.1 hy'.1 k1 k3, nobs_eqv xs ys ps' qs' hx'.2 hy'.2 k2 k4]
    rfl
end
theorem eqD_nob {A : Hh} {x y : D} (hx : x.nob = true) (hy : y.nob = true) (dx : x.dep ≤ 64) (dy : y.dep ≤ 64) : eqD A x y = some (decide (x = y)) := by
  obtain ⟨p, k1, k2, k3⟩ := nob_py x hx
  obtain ⟨q, k4, k5, k6⟩ := nob_py y hy
  have hp : SeqAt.shaped p = true := by unfold SeqAt.shaped; rw [k2, k3]; simpa using dx
  have hq : SeqAt.shaped q = true := by unfold SeqAt.shaped; rw [k5, k6]; simpa using dy
  have key : eqP (pyA A x) (pyA A y) = some (decide (x = y)) := by
    have e1 : pyA A x = some p := by cases x <;> first | (simp [D.nob] at hx; done) | exact k1
    have e2 : pyA A y = some q := by cases y <;> first | (simp [D.nob] at hy; done) | exact k4
    rw [e1, e2]
    simp only [eqP, hp, hq, Bool.and_true, if_true, nob_eqv x y p q hx hy k1 k4]
    congr 1
    rw [Bool.eq_iff_iff, decide_eq_true_eq]
    exact D.deq_iff x y
  unfold eqD
  split
  · rename_i i j; simp
  · cases hx
  · cases hx
  · exact key

theorem tupsOf_tups : ∀ ts : List (List Int), tupsOf (ts.map tupD) = some ts
  | [] => rfl
  | t :: ts => by
    rw [List.map_cons]
    show (match intsOf (t.map D.int), tupsOf (ts.map tupD) with | some n, some ns => some (n :: ns) | _, _ => none) = _
    rw [intsOf_ints, tupsOf_tups ts]
theorem sortD_tups {ts : List (List Int)} (h : ∀ t ∈ ts, t ≠ []) : sortD (ts.map tupD) = some ((ts.mergeSort leL).map tupD) := by
  cases ts with
  | nil => simp [sortD, intsOf]
  | cons t ts =>
    have e1 : intsOf ((t :: ts).map tupD) = none := rfl
    have e2 := tupsOf_tups (t :: ts)
    unfold sortD
    rw [e1]
    dsimp only
    rw [e2]
    dsimp only
    rw [if_pos]
    refine List.all_eq_true.mpr fun u hu => ?_
    have := h u hu
    cases u with
    | nil => exact absurd rfl this
    | cons _ _ => rfl
theorem sortD_ints (ns : List Int) : sortD (ns.map .int) = some ((ns.mergeSort leZ).map .int) := by
  unfold sortD
  rw [intsOf_ints]
theorem compL_map {σ : Sl} {g : Gv} {c : Ev Bool} {e : Ev D} {A : Hh} (s : D → Sl) (p : D → Bool) (h : D → D) : ∀ (xs acc : List D), (∀ x ∈ xs, g x σ A = some (.ok (s x) A) ∧ c (s x) A = some (.ok (p x) A) ∧ (p x = true → e (s x) A = some (.ok (h x) A))) →
    acc.length + xs.length < SZ → compL σ [] g c e xs acc A = some (.ok (acc ++ (xs.filter p).map h) A)
  | [], acc, _, _ => by simp [compL, wOk]
  | x :: xs, acc, hx, hz => by
    obtain ⟨h1, h2, h3⟩ := hx x (List.mem_cons_self ..)
    have ih := fun acc => compL_map s p h xs acc fun y hy => hx y (List.mem_cons_of_mem _ hy)
    rw [List.length_cons] at hz
    cases q : p x with
    | false =>
      simp only [compL, wOk, List.all_nil, if_true, h1, h2, q]
      rw [ih acc (by omega), List.filter_cons, q]
      rfl
    | true =>
      simp only [compL, wOk, List.all_nil, if_true, h1, h2, q, h3 q]
      rw [if_pos (by omega), ih _ (by rw [List.length_append, List.length_singleton]; omega), List.filter_cons, q]
      simp
/-- a list watched: the same, while the heap stays -/
theorem compL_mapW {σ : Sl} {w : Wt} {g : Gv} {c : Ev Bool} {e : Ev D} {A : Hh} (hw : wOk w A = true) (s : D → Sl) (p : D → Bool) (h : D → D) : ∀ (xs acc : List D), (∀ x ∈ xs, g x σ A = some (.ok (s x) A) ∧ c (s x) A = some (.ok (p x) A) ∧ (p x = true → e (s x) A = some (.ok (h x) A))) →
    acc.length + xs.length < SZ → compL σ w g c e xs acc A = some (.ok (acc ++ (xs.filter p).map h) A)
  | [], acc, _, _ => by simp [compL, hw]
  | x :: xs, acc, hx, hz => by
    obtain ⟨h1, h2, h3⟩ := hx x (List.mem_cons_self ..)
    have ih := fun acc => compL_mapW hw s p h xs acc fun y hy => hx y (List.mem_cons_of_mem _ hy)
    rw [List.length_cons] at hz
    cases q : p x with
    | false =>
      simp only [compL, hw, if_true, h1, h2, q]
      rw [ih acc (by omega), List.filter_cons, q]
      rfl
    | true =>
      simp only [compL, hw, if_true, h1, h2, q, h3 q]
      rw [if_pos (by omega), ih _ (by rw [List.length_append, List.length_singleton]; omega), List.filter_cons, q]
      simp
/-- a loop that goes through: I tells what holds ahead of each turn -/
theorem forL_go {w : Wt} {g : Gv} {b : Sv} (I : List D → Sl → Hh → Prop) (hw : ∀ xs σ A, I xs σ A → wOk w A = true)
    (step : ∀ x xs σ A, I (x :: xs) σ A → ∃ σ2 A2, g x σ A = some (.ok σ2 A2) ∧ ∃ σ3 A3, (b σ2 A2 = some (.nx σ3 A3) ∨ b σ2 A2 = some (.ct σ3 A3)) ∧ I xs σ3 A3) :
    ∀ xs σ A, I xs σ A → ∃ σ' A', forL w g b xs σ A = some (.nx σ' A') ∧ I [] σ' A'
  | [], σ, A, h => ⟨σ, A, by simp [forL, hw _ _ _ h], h⟩
  | x :: xs, σ, A, h => by
    obtain ⟨σ2, A2, h1, σ3, A3, h2, h3⟩ := step x xs σ A h
    obtain ⟨σ', A', h4, h5⟩ := forL_go I hw step xs σ3 A3 h3
    refine ⟨σ', A', ?_, h5⟩
    rcases h2 with h2 | h2
    · simp only [forL, hw _ _ _ h, if_true, h1, h2, h4]
    · simp only [forL, hw _ _ _ h, if_true, h1, h2, h4]
/-- a loop that leaves the heap alone -/
theorem forL_pure {g : Gv} {b : Sv} (I : List D → Sl → Prop) (step : ∀ x xs σ, I (x :: xs) σ → ∃ σ2 σ3, (∀ A, g x σ A = some (.ok σ2 A)) ∧ (∀ A, b σ2 A = some (.nx σ3 A)) ∧ I xs σ3) :
    ∀ xs σ, I xs σ → ∃ σ', (∀ A, forL [] g b xs σ A = some (.nx σ' A)) ∧ I [] σ'
  | [], σ, h => ⟨σ, fun A => rfl, h⟩
  | x :: xs, σ, h => by
    obtain ⟨σ2, σ3, h1, h2, h3⟩ := step x xs σ h
    obtain ⟨σ', h4, h5⟩ := forL_pure I step xs σ3 h3
    exact ⟨σ', fun A => by simp only [forL, wOk, List.all_nil, if_true, h1, h2, h4], h5⟩
/-- the law's way: a while that ends -/
theorem swhile_go {c : Ev Bool} {b : Sv} {σ : Sl} {A : Hh} {r : RS} {n : Nat} (h : whileN c b n σ A = some r) : swhile c b σ A = some r := by
  have mono : ∀ (n m : Nat) (σ : Sl) (A : Hh) (r : RS), whileN c b n σ A = some r → n ≤ m → whileN c b m σ A = some r := by
    intro n
    induction n with
    | zero => intro m σ A r h; cases h
    | succ n ih =>
      intro m σ A r h hm
      obtain ⟨m, rfl⟩ : ∃ k, m = k + 1 := ⟨m - 1, by omega⟩
      simp only [whileN] at h ⊢
      cases hc : c σ A with
      | none => rw [hc] at h; cases h
      | some rc => cases rc with
        | ex x A1 => rw [hc] at h; exact h
        | ok k A1 =>
          rw [hc] at h
          simp only [of_ok] at h ⊢
          cases k with
          | false => exact h
          | true =>
            simp only [if_true] at h ⊢
            cases hb : b σ A1 with
            | none => rw [hb] at h; cases h
            | some rb =>
              rw [hb] at h
              cases rb with
              | nx σ2 A2 => exact ih m σ2 A2 r h (by omega)
              | ct σ2 A2 => exact ih m σ2 A2 r h (by omega)
              | bk σ2 A2 => exact h
              | rt d A2 => exact h
              | ex x σ2 A2 => exact h
  have hx : ∃ n, (whileN c b n σ A).isSome = true := ⟨n, by rw [h]; rfl⟩
  unfold swhile
  rw [dif_pos hx]
  have hs := hx.choose_spec
  cases q : whileN c b hx.choose σ A with
  | none => rw [q] at hs; cases hs
  | some r2 =>
    rcases Nat.le_total n hx.choose with hl | hl
    · rw [mono n _ σ A r h hl] at q
      exact q.symm
    · rw [mono _ n σ A r2 q hl] at h
      exact h
theorem seq_tup (A : Hh) (xs : List D) : seqD A (.tup xs) = some (xs, []) := rfl
theorem seq_lst (A : Hh) (xs : List D) : seqD A (.lst xs) = some (xs, []) := rfl
theorem seq_ref {A : Hh} {n : Nat} {xs : List D} (h : A[n]? = some (.lst xs)) : seqD A (.ref n) = some (xs, [(n, xs)]) := by simp only [seqD, h]
theorem lst_lst (A : Hh) (xs : List D) : lstD A (.lst xs) = some xs := rfl
theorem lst_ref {A : Hh} {n : Nat} {xs : List D} (h : A[n]? = some (.lst xs)) : lstD A (.ref n) = some xs := by simp only [lstD, h]
theorem ty_non (A : Hh) : tyD A .non = some .non := rfl
theorem ty_bl (A : Hh) (b : Bool) : tyD A (.bl b) = some .bl := rfl
theorem ty_int (A : Hh) (i : Int) : tyD A (.int i) = some .int := rfl
theorem ty_str (A : Hh) (x : Str) : tyD A (.str x) = some .str := rfl
theorem ty_tup (A : Hh) (xs : List D) : tyD A (.tup xs) = some .tup := rfl
theorem ty_lst (A : Hh) (xs : List D) : tyD A (.lst xs) = some .lst := rfl
theorem ty_ref {A : Hh} {n : Nat} {xs : List D} (h : A[n]? = some (.lst xs)) : tyD A (.ref n) = some .lst := by simp only [tyD, h]
theorem tru_non (A : Hh) : truD A .non = some false := rfl
theorem tru_bl (A : Hh) (b : Bool) : truD A (.bl b) = some b := rfl
theorem tru_int (A : Hh) (i : Int) : truD A (.int i) = some (decide (i ≠ 0)) := rfl
theorem tru_tup (A : Hh) (xs : List D) : truD A (.tup xs) = some (!xs.isEmpty) := rfl
theorem tru_lst (A : Hh) (xs : List D) : truD A (.lst xs) = some (!xs.isEmpty) := rfl
theorem tru_ref {A : Hh} {n : Nat} {xs : List D} (h : A[n]? = some (.lst xs)) : truD A (.ref n) = some (!xs.isEmpty) := by simp only [truD, h]
theorem len_tup (A : Hh) (xs : List D) : biD .len [.tup xs] A = some (.int xs.length) := rfl
theorem len_lst (A : Hh) (xs : List D) : biD .len [.lst xs] A = some (.int xs.length) := rfl
theorem len_ref {A : Hh} {n : Nat} {xs : List D} (h : A[n]? = some (.lst xs)) : biD .len [.ref n] A = some (.int xs.length) := by simp only [biD, seq_ref h, Option.map_some]
theorem ix_int (A : Hh) (x : D) (i : Int) : ixD A x (.int i) = (seqD A x).bind fun p => L2.atI p.1 i := by
  unfold ixD
  cases seqD A x <;> rfl
theorem at_nat (xs : List D) (i : Nat) : L2.atI xs (i : Int) = xs[i]? := by
  unfold L2.atI L2.ixN
  simp
  split
  · rfl
  · rename_i h
    rw [List.getElem?_eq_none (by omega)]
    rfl
theorem at_0 (xs : List D) : L2.atI xs 0 = xs[0]? := at_nat xs 0
theorem at_1 (xs : List D) : L2.atI xs 1 = xs[1]? := at_nat xs 1
theorem at_2 (xs : List D) : L2.atI xs 2 = xs[2]? := at_nat xs 2
theorem at_3 (xs : List D) : L2.atI xs 3 = xs[3]? := at_nat xs 3
theorem at_4 (xs : List D) : L2.atI xs 4 = xs[4]? := at_nat xs 4
theorem add_ii (i j : Int) : bopD .add (.int i) (.int j) = ok (.int (i + j)) := rfl
theorem sub_ii (i j : Int) : bopD .sub (.int i) (.int j) = ok (.int (i - j)) := rfl
theorem mul_ii (i j : Int) (A : Hh) : bopD .mul (.int i) (.int j) A = if small i && small j then some (.ok (.int (i * j)) A) else none := rfl
theorem fdiv_ii (i j : Int) (A : Hh) : bopD .fdiv (.int i) (.int j) A = if decide (0 < j) && small j then some (.ok (.int (i / j)) A) else none := rfl
theorem mod_ii (i j : Int) (A : Hh) : bopD .mod (.int i) (.int j) A = if decide (0 < j) then some (.ok (.int (i % j)) A) else none := rfl
theorem pow_ii (i j : Int) (A : Hh) : bopD .pow (.int i) (.int j) A = if decide (0 ≤ j) && decide (j ≤ 1000000) && decide (i.natAbs < 2 ^ 64) then some (.ok (.int (i ^ j.toNat)) A) else none := rfl
theorem add_tt (xs ys : List D) (A : Hh) : bopD .add (.tup xs) (.tup ys) A = if xs.length + ys.length ≤ SZ then some (.ok (.tup (xs ++ ys)) A) else none := rfl
theorem lt_ii (i j : Int) (A : Hh) : copD .lt (.int i) (.int j) A = some (decide (i < j)) := rfl
theorem le_ii (i j : Int) (A : Hh) : copD .le (.int i) (.int j) A = some (decide (i ≤ j)) := rfl
theorem gt_ii (i j : Int) (A : Hh) : copD .gt (.int i) (.int j) A = some (decide (j < i)) := rfl
theorem ge_ii (i j : Int) (A : Hh) : copD .ge (.int i) (.int j) A = some (decide (j ≤ i)) := rfl
theorem eq_ii (i j : Int) (A : Hh) : copD .eq (.int i) (.int j) A = some (decide (i = j)) := rfl
theorem ne_ii (i j : Int) (A : Hh) : copD .ne (.int i) (.int j) A = some (!decide (i = j)) := rfl
theorem eq_dd (x y : D) (A : Hh) : copD .eq x y A = eqD A x y := rfl
theorem ne_dd (x y : D) (A : Hh) : copD .ne x y A = (eqD A x y).map (!·) := rfl
theorem isN_d (x : D) (A : Hh) : copD .isN x .non A = some (D.deq x .non) := rfl
theorem notN_d (x : D) (A : Hh) : copD .notN x .non A = some (!D.deq x .non) := rfl
theorem wt_tup (xs ys : List D) : wtD (.tup xs) ys = [] := rfl
/-- a while's turn -/
theorem while_0 {c : Ev Bool} {b : Sv} {σ : Sl} {A A1 : Hh} {n : Nat} (h : c σ A = some (.ok false A1)) : whileN c b (n + 1) σ A = some (.nx σ A1) := by simp only [whileN, h, of_ok]; rfl
theorem while_1 {c : Ev Bool} {b : Sv} {σ σ2 : Sl} {A A1 A2 : Hh} {n : Nat} (h : c σ A = some (.ok true A1)) (h2 : b σ A1 = some (.nx σ2 A2) ∨ b σ A1 = some (.ct σ2 A2)) : whileN c b (n + 1) σ A = whileN c b n σ2 A2 := by
  simp only [whileN, h, of_ok, if_true]
  rcases h2 with h2 | h2 <;> rw [h2]
theorem mod_pos {j : Int} (h : 0 < j) (i : Int) (A : Hh) : bopD .mod (.int i) (.int j) A = some (.ok (.int (i % j)) A) := by rw [mod_ii, decide_eq_true h]; rfl
theorem mul_sm {i j : Int} (h : small i = true) (h2 : small j = true) (A : Hh) : bopD .mul (.int i) (.int j) A = some (.ok (.int (i * j)) A) := by rw [mul_ii, h, h2]; rfl
theorem fdiv_pos {j : Int} (h : 0 < j) (h2 : small j = true) (i : Int) (A : Hh) : bopD .fdiv (.int i) (.int j) A = some (.ok (.int (i / j)) A) := by rw [fdiv_ii, decide_eq_true h, h2]; rfl
end Z

noncomputable section
set_option maxHeartbeats 2000000
namespace L2
open PySem PySem.Spec PyProof.Rows
section
variable {X : Cx} {pins : List (Addr × Obj)} {σ : L2.St} {H : Hp} {s sI : Shared}
/-- an object that came while X ran is known from now on -/
theorem Inv.track (I : Inv X pins σ H s) {a : Addr} {oe : Obj} {vs : Array Value} (ha : s.heap.get? a = some oe) (hd : oe.data = .fields vs) (na : H a = none) (nL : a ≠ X.env.locals) (hp : ∀ p ∈ X.pn ++ pins, p.1 ≠ a)
    (h0 : ∀ o, X.s_0.heap.get? a = some o → a ∈ X.ex) : Inv X pins σ (upd H a (.frz oe (.ext fun _ => True))) s := by
  have nc : ∀ x c, X.env.cells.lookup x = some c → c ≠ a := fun x c e z => by
    subst z
    obtain ⟨v, o, h1, h2⟩ := I.cell x c e
    rw [ha] at h1
    cases h1
    rw [hd] at h2
    cases h2
  refine ⟨I.ok, I.os, I.bare, ⟨I.base.keep, I.base.slot, fun b o e n hx => ?_, I.base.there, fun b xs e => ?_, fun b o u e => ?_, fun b ps e => ?_⟩, I.loc, I.cell, ?_, fun x c e => ?_, fun p hp' => ?_, fun b u e => ?_, I.len⟩
  · rw [upd_ne (fun z => hx (by rw [z]; rw [z] at e; exact h0 _ e))]
    exact I.base.free b o e n hx
  · have := I.base.tups b xs e
    rw [upd_ne (ne_of_none this na)]
    exact this
  · have := I.base.frzs b o u e
    rw [upd_ne (ne_of_none this na)]
    exact this
  · obtain ⟨m, this⟩ := I.base.tbls b ps e
    exact ⟨m, by rw [upd_ne (ne_of_none this na)]; exact this⟩
  · rw [upd_ne (Ne.symm nL)]
    exact I.free
  · rw [upd_ne (nc x c e)]
    exact I.freeC x c e
  · obtain ⟨h1, h2, h3⟩ := I.pin p hp'
    exact ⟨h1, by rw [upd_ne (hp p hp')]; exact h2, h3⟩
  · by_cases hb : b = a
    · subst hb
      rw [upd_same] at e
      cases e
      exact ⟨ha, True.intro, ⟨_, ha⟩, fun _ _ _ _ => True.intro⟩
    · rw [upd_ne hb] at e
      exact (I.hok b u e).stay (fun _ _ _ q => q) (fun c q => by rw [upd_ne (ne_of_none q na)]; exact q) fun c xs q => by rw [upd_ne (ne_of_none q na)]; exact q
theorem Inv.suiteT {a : Addr} (I : Inv X pins σ H s) : Inv (X.suite a (X.pn ++ pins)) [] σ H s :=
  ⟨I.ok.suite _ _, I.os, I.bare, I.base, I.loc, I.cell, I.free, I.freeC, fun p hp => by
    rw [List.append_nil] at hp
    exact I.pin p hp, I.hok, I.len⟩
theorem Inv.unsuiteT {a : Addr} {pn' : List (Addr × Obj)} (I : Inv (X.suite a (X.pn ++ pins)) pn' σ H s) (ok : X.Ok) : Inv X pins σ H s :=
  ⟨ok, I.os, I.bare, I.base, I.loc, I.cell, I.free, I.freeC, fun p hp => I.pin p (List.mem_append_left _ hp), I.hok, I.len⟩
end
/-- what the clause 'except x as n' wishes of an exception of the body: the error is known -/
def wAsT (K : PySem.W.Frag) (c : Value) (i : Nat) (ts : TS) (Wout : WX) (D : Ends) : WX := fun cls d σ H =>
  ∃ b, PySem.W.exmOne K cls c = some b ∧ (b = true → ∀ a oe, H a = none → Zc cls d oe → (∃ vs, oe.data = .fields vs) → ts { nx := fun σ' H' => D.nx (σ'.set i none) H', rt := D.rt, bk := fun σ' H' => D.bk (σ'.set i none) H', ct := fun σ' H' => D.ct (σ'.set i none) H' } (σ.set i (some (.ref a))) (upd H a (.frz oe (.ext fun _ => True)))) ∧
    (b = false → Wout cls d σ H)
section
variable {X : Cx} {x n : Str} {c : Value} {i : Nat} {body suite : List Stmt} {b₀ : Stmt} {np pos pos' : Pos} {tb : WX → TS} {ts : TS} {Wout : WX}
theorem ps_try_asT (hs : X.stack = X.env :: X.outer) (hf : X.env.frame = some X.env.locals) (hex : X.ex = []) (hN : X.N.Nodup) (hi : X.N[i]? = some n) (hln : X.env.kindOf n = some .local) (hc : Names X x c) (tk : Takes X Wout)
    (hb : ∀ (W : WX) (pn : List (Addr × Obj)) (xe : Value → Shared → Prop), Takes (X.tr pn xe) W → PassesOwn (model X.prog X.w) X.A X.env xe → PSs (X.tr pn xe) body (tb W))
    (hsu : ∀ (a : Addr) (pn : List (Addr × Obj)), PSs (X.suite a pn) (b₀ :: suite) ts) :
    PS X (.Try body [.ExceptHandler (some (.Name x np)) (some n) (b₀ :: suite) pos'] [] [] pos) (fun D σ H => tb (wAsT X.K c i ts Wout D) D σ H) := by
  refine ⟨fun pins s σ H D I h => ?_⟩
  have ok := I.ok
  have hfr : X.A.frames = some (X.env :: X.outer) := by rw [ok.frames, hs]
  have hloc : Loc X.env.scope n := .inl hln
  refine wpAny_Try_except ?_
  refine wpAny_mono ((hb (wAsT X.K c i ts Wout D) (X.pn ++ pins) (fun e s₁ => wpAny (model X.prog X.w) X.A (noteFrame e X.env) (fun _ s₂ => wpAny (model X.prog X.w) X.A (setFlight e none) (fun _ s₃ =>
    wpAny (model X.prog X.w) X.A (handleBy e X.env [.ExceptHandler (some (.Name x np)) (some n) (b₀ :: suite) pos']) (SP X pins D) X.xe s₃) X.xe s₂) X.xe s₁) (fun u s' xx => ?_) PassesOwn.looking).run [] s σ H D (I.toTry _) h) (fun f s1 hsp => ?_) (fun e s1 he => he)
  · -- the catch
    obtain ⟨a, B, sI, pins', σ', H', cls, d, rfl, J', nb, up, sky, na, os, ag, b, hb1, hyes, hno⟩ := xx
    have J : Inv X pins σ' H' sI := J'.ofTry ok
    have sky' : Sky B (X.env :: X.outer) a (Zc cls d) X.env.locals s'.heap := by rw [← hs]; exact sky
    show wpAny (model X.prog X.w) X.A (noteFrame (.ref a) X.env) _ _ _
    refine Sky.land Zc.steady hfr hf sky' fun h3 fl3 up3 => ?_
    have J3 : Inv X pins σ' H' { s' with heap := h3 } := J.landed nb fl3.1 (up.trans up3) os ag
    obtain ⟨oe3, vs3, he3, hz3, hd3⟩ := fl3.there
    have notFr : ∀ {h : Heap} {o : Obj} {vs : Array Value}, h.FunFrames B (X.env :: X.outer) → h.get? a = some o → o.data = .fields vs → a ∉ frs (X.env :: X.outer) := fun {h o vs} ff e dd hm => by
      obtain ⟨_, o', e', hnf⟩ := ff.mem hm
      rw [e] at e'; cases e'
      exact hnf _ dd
    have nfr := notFr fl3.2.2.1 he3 hd3
    have nL : a ≠ X.env.locals := fun z => nfr (List.mem_filterMap.mpr ⟨X.env, List.mem_cons_self, by rw [hf, z]⟩)
    have nF : a ∉ X.fs := fun hm => by
      obtain ⟨e, he, q⟩ := List.mem_filterMap.mp hm
      exact nfr (List.mem_filterMap.mpr ⟨e, List.mem_cons_of_mem _ he, q⟩)
    have newI : sI.heap.get? a = none := by
      cases q : sI.heap.get? a with
      | none => rfl
      | some o =>
        have := nb a o q (by rw [hs]; exact nfr)
        rw [fl3.2.1] at this
        cases this
    have hp : ∀ p ∈ X.pn ++ pins, p.1 ≠ a := fun p hp z => by
      have := (J.pin p hp).1
      rw [z, newI] at this
      cases this
    have h0 : ∀ o, X.s_0.heap.get? a = some o → a ∈ X.ex := fun o e => by
      obtain ⟨o', e'⟩ := J.base.there a o e (by rw [hex]; exact List.not_mem_nil)
      rw [newI] at e'
      cases e'
    have S3 := J3.suite he3 hd3 na nL nF
    refine wpAny_handleBy_cons (codeAny_handlers_test ?_) (by intro q; cases q)
    have LT : PySem.W.Looks (model X.prog X.w) h3 (typeOf (.ref a)) cls := fun A Q E s k q => wpAny_typeOf_ref (k _ _ he3) (by rw [hz3.1]; exact q)
    have LM := PySem.W.exm_one (M := model X.prog X.w) (J3.kIn) LT hb1
    have test : ∀ {Q : Value → Shared → Prop} {E : Value → Shared → Prop}, Q c { s' with heap := h3 } → wpAny (model X.prog X.w) (X.A.mark (some (.ref a))) (eval (.Name x np) X.env) Q E { s' with heap := h3 } := fun {Q E} q => by
      obtain ⟨hg, hdbg, hm | ⟨hm, hv, hnn⟩⟩ := hc
      · exact ld_glob (X := X.suite a ((a, oe3) :: (X.pn ++ pins))) S3 hg hm q hdbg
      · exact ld_blt (X := X.suite a ((a, oe3) :: (X.pn ++ pins))) S3 hg hm hv q hnn hdbg
    refine test (LM.here ?_)
    cases b with
    | true =>
      refine codeAny_handlers_suite_as ?_
      refine HandSPX.lands_againZ fl3 fun h4 fl4 up4 => ?_
      have J4 : Inv X pins σ' H' { s' with heap := h4 } := J.landed nb fl4.1 ((up.trans up3).trans up4) os ag
      obtain ⟨oe4, vs4, he4, hz4, hd4⟩ := fl4.there
      have S4 : Inv (X.suite a (X.pn ++ pins)) [] σ' (upd H' a (.frz oe4 (.ext fun _ => True))) { s' with heap := h4 } := (J4.track he4 hd4 na nL hp h0).suiteT
      refine store_ok (X := X.suite a (X.pn ++ pins)) (v := .ref a) S4 hN hi hloc rfl (fun s5 S5 => ?_) (.inr hln)
      refine wpAny_mono ((hsu a (X.pn ++ pins)).run [] s5 _ _ _ S5 (hyes rfl a oe4 na hz4 ⟨_, hd4⟩)) (fun f s6 hsp => ?_) (fun _ _ z => False.elim z)
      have end_ : ∀ {σ6 : St} {H6 : Hp} {Q : Shared → Prop}, Inv (X.suite a (X.pn ++ pins)) [] σ6 H6 s6 → (∀ s7, Inv X pins (σ6.set i none) H6 s7 → Q s7) →
          wpAny (model X.prog X.w) X.A (do bindName X.env n .none; unbindBehindTheSuite X.env n pos') (fun _ s7 => Q s7) X.xe s6 := fun {σ6 H6 Q} S6 hq => gone_ok (S6.unsuiteT ok) hN hi hln hq
      cases f with
      | next =>
        obtain ⟨σ6, H6, S6, q6⟩ := hsp
        exact end_ S6 fun s7 J7 => ⟨_, _, J7, q6⟩
      | brk =>
        obtain ⟨σ6, H6, S6, q6⟩ := hsp
        exact end_ S6 fun s7 J7 => ⟨_, _, J7, q6⟩
      | cont =>
        obtain ⟨σ6, H6, S6, q6⟩ := hsp
        exact end_ S6 fun s7 J7 => ⟨_, _, J7, q6⟩
      | ret u =>
        obtain ⟨v6, σ6, H6, S6, r6, q6⟩ := hsp
        exact end_ S6 fun s7 J7 => ⟨_, _, _, J7, r6, q6⟩
    | false =>
      show wpAny _ X.A (handleBy (.ref a) X.env []) _ _ _
      refine wpAny_handleBy_nil ?_
      obtain ⟨k1, k2, k3, oe, vs, T, oT, ts', he, hz, hd, h1, hr⟩ := id fl3
      unfold PySem.passOn
      refine wpAny_bind (wpAny_field he hd h1 ?_)
      rw [if_neg (show ¬ ((Value.ref T == Value.none) = true) from by simp)]
      have fin : wpAny (model X.prog X.w) X.A (setFlight (.ref a) X.env.frame) (fun _ s4 => wpAny (model X.prog X.w) X.A (throw (.ref a) : Sem Flow) (SP X pins D) X.xe s4) X.xe { s' with heap := h3 } := by
        rw [hf]
        refine HandSPX.setFlight_upZ fl3 fun h4 hh4 up4 => wpAny_throw (tk _ _ ?_)
        exact ⟨a, B, sI, pins, σ', H', cls, d, rfl, J, nb, (up.trans up3).trans up4, .inr (.inr (by rw [hs]; exact hh4)), na, os, ag, hno rfl⟩
      first
        | exact wpAny_bind (wpAny_pure (wpAny_bind fin))
        | exact wpAny_bind fin
  · cases f with
    | next =>
      obtain ⟨σ', H', J', q⟩ := hsp
      exact wpAny_execs_nil ⟨σ', H', J'.ofTry ok, q⟩
    | brk =>
      obtain ⟨σ', H', J', q⟩ := hsp
      exact ⟨σ', H', J'.ofTry ok, q⟩
    | cont =>
      obtain ⟨σ', H', J', q⟩ := hsp
      exact ⟨σ', H', J'.ofTry ok, q⟩
    | ret u =>
      obtain ⟨v, σ', H', J', r, q⟩ := hsp
      exact ⟨v, σ', H', J'.ofTry ok, r, q⟩
end
end L2

namespace Z
open PySem PySem.Spec PyProof.Rows L2
/-- n is m, or under it -/
def subE (n m : Nat) : Bool := n == m || m == 0
def excCB (K : PySem.W.Frag) (D : Addr) : Bool :=
  He.eqO (PySem.W.findIn K (.ref D) "__getattribute__") (some (some (.builtin "BaseException.__getattribute__"))) && (He.eqO (PySem.W.findIn K (.ref D) "__getattr__") (some none) &&
  (decide (PySem.W.subIn K (.ref D) (.type "BaseException") = some true) && (PySem.W.hasDictIn K D && (He.eqO (PySem.W.findIn K (.ref D) "__class__") (some (some (.builtin "object.__class__"))) &&
  (He.eqO (PySem.W.specialIn K (.builtin "object.__class__") "__get__") (some (some (.builtin "getset_descriptor.__get__"))) && (decide (PySem.W.takesIn K (.builtin "object.__class__") = some true) && decide (PySem.W.mroIn K D (.type "object") = some true)))))))
theorem excCB_ok {K : PySem.W.Frag} {D : Addr} (h : excCB K D = true) : ExcC K D := by
  unfold excCB at h
  simp only [Bool.and_eq_true, decide_eq_true_eq] at h
  obtain ⟨h1, h2, h3, h4, h5, h6, h7, h8⟩ := h
  exact ⟨He.eqO_ok h1, He.eqO_ok h2, h3, h4, He.eqO_ok h5, He.eqO_ok h6, h7, h8⟩
def eAt (K : PySem.W.Frag) (ns : List Str) (n : Nat) : Addr := He.ga K (ns.getD n Str.empty)
/-- the facts of all own exceptions -/
def exB (ns : List Str) (K : PySem.W.Frag) : Bool := (List.range ns.length).all fun n => excCB K (eAt K ns n) && (decide (PySem.W.kitOne K (.ref (eAt K ns n)) (.type "ValueError") = some true) &&
  ((List.range ns.length).all fun m => decide (PySem.W.kitOne K (.ref (eAt K ns n)) (.ref (eAt K ns m)) = some (subE n m)) && decide (PySem.W.exmOne K (.ref (eAt K ns n)) (.ref (eAt K ns m)) = some (subE n m))))
structure ExF (K : PySem.W.Frag) (eA : Nat → Addr) (N : Nat) : Prop where
  cc : ∀ n, n < N → ExcC K (eA n)
  ve : ∀ n, n < N → PySem.W.kitOne K (.ref (eA n)) (.type "ValueError") = some true
  own : ∀ n m, n < N → m < N → PySem.W.kitOne K (.ref (eA n)) (.ref (eA m)) = some (subE n m)
  exm : ∀ n m, n < N → m < N → PySem.W.exmOne K (.ref (eA n)) (.ref (eA m)) = some (subE n m)
theorem exB_ok {ns : List Str} {K : PySem.W.Frag} (h : exB ns K = true) : ExF K (eAt K ns) ns.length := by
  have h1 : ∀ n, n < ns.length → excCB K (eAt K ns n) = true ∧ PySem.W.kitOne K (.ref (eAt K ns n)) (.type "ValueError") = some true ∧ ∀ m, m < ns.length → PySem.W.kitOne K (.ref (eAt K ns n)) (.ref (eAt K ns m)) = some (subE n m) ∧ PySem.W.exmOne K (.ref (eAt K ns n)) (.ref (eAt K ns m)) = some (subE n m) := fun n hn => by
    have := List.all_eq_true.mp h n (List.mem_range.mpr hn)
    simp only [Bool.and_eq_true, decide_eq_true_eq] at this
    refine ⟨this.1, this.2.1, fun m hm => ?_⟩
    have := List.all_eq_true.mp this.2.2 m (List.mem_range.mpr hm)
    simpa only [Bool.and_eq_true, decide_eq_true_eq] using this
  exact ⟨fun n hn => excCB_ok (h1 n hn).1, fun n hn => (h1 n hn).2.1, fun n m hn hm => ((h1 n hn).2.2 m hm).1, fun n m hn hm => ((h1 n hn).2.2 m hm).2⟩

/-- a class that can be raised, by its name -/
def Rsb (K : PySem.W.Frag) (mg : Str → Option Value) (c : Cn) (x : Str) (n : Nat) : Prop := mg x = some (.ref (c.eA n)) ∧ PySem.W.excIn K (c.eA n) He.veBase "ValueError.__new__" = true ∧ PySem.W.keepIn K (.ref (c.eA n)) = true ∧
  PySem.W.subIn K (.ref (c.eA n)) (.type "BaseException") = some true ∧ PySem.W.typeIn K (.ref (c.eA n)) = some (.type "type")
theorem Rsb.of {K : PySem.W.Frag} {mg : Str → Option Value} {c : Cn} {x : Str} {n : Nat} (g : mg x = some (.ref (c.eA n))) (e : c.eA n = He.ga K x) (f : (He.Fa.exc x).ok K = true) : Rsb K mg c x n := by
  obtain ⟨h1, h2, h3, h4⟩ := He.exc_ok f
  rw [← e] at h1 h2 h3 h4
  exact ⟨g, h1, h2, h3, h4⟩
abbrev AlZ : Type := He.AlD × Bool
def obsZ (fa : List He.Fa) (fn : List He.DefD) (ex : PySem.W.Frag → Bool) (K : PySem.W.Frag) : AlZ := (He.obsD fa fn K, ex K)
def valZ (fn : List He.DefD) : AlZ := (He.valD fn, true)
structure SaysZ (fa : List He.Fa) (fn : List He.DefD) (ex : PySem.W.Frag → Bool) (K : PySem.W.Frag) : Prop where
  d : He.SaysD fa fn K
  more : ex K = true
def obsZG (n : Nat) (fa : List He.Fa) (fn : List He.DefD) (ex : PySem.W.Frag → Bool) (g : Addr → Option Obj) : AlZ := obsZ fa fn ex (He.frG g (He.asD g n))
def hookZ (n : Nat) (fa : List He.Fa) (fn : List He.DefD) (ex : PySem.W.Frag → Bool) : PySem.W.Hook where
  α := AlZ
  obs := fun s => obsZG n fa fn ex s.heap.get?
  val := fun _ => valZ fn
  says := fun _ h => ∃ K : PySem.W.Frag, K.In h ∧ SaysZ fa fn ex K
  of := fun _ _ e => ⟨_, He.frG_in, ⟨congrArg (fun z : AlZ => z.1) e, congrArg (fun z : AlZ => z.2) e⟩⟩
  keeps := fun _ _ _ ⟨K, hK, c⟩ k => ⟨K, PySem.W.Frag.In.keeps hK k, c⟩
theorem obsZG_eq {n : Nat} {fa : List He.Fa} {fn : List He.DefD} {ex : PySem.W.Frag → Bool} {g : Addr → Option Obj} {s : Shared} (h : ∀ a, g a = s.heap.get? a) : obsZG n fa fn ex g = (hookZ n fa fn ex).obs s := by
  have e : g = s.heap.get? := funext h
  rw [e] <;> rfl

def sraise (n : Nat) : Sv := fun σ A => some (.ex ⟨n⟩ σ A)
def stry (m i N : Nat) (b s : Sv) : Sv := fun σ A => match b σ A with
  | some (.ex x σ1 A1) => if x.c < N then
      (if subE x.c m = true then (match s (σ1.set i (some (.exc x.c))) A1 with
        | some (.nx σ2 A2) => some (.nx (σ2.set i none) A2)
        | some (.bk σ2 A2) => some (.bk (σ2.set i none) A2)
        | some (.ct σ2 A2) => some (.ct (σ2.set i none) A2)
        | some (.rt d A2) => some (.rt d A2)
        | _ => none) else some (.ex x σ1 A1)) else none
  | r => r
section
variable {X : Cx} {c : Cn} {W : WX} {x n : Str} {m : Str} {k i N : Nat} {j : Nat} {p p2 np pos pos' pos2 : Pos} {body suite : List Stmt} {b₀ : Stmt} {fb fs : Sv}
theorem s_raise (hc : X.calm = true) (tk : Takes X W) (hg : Gl X x) (r : Rsb X.K X.mg c x k) (hdb : (x == ("__debug__" : Str)) = false := by decide) :
    PS X (.Raise (some (.Call (.Name x p) [.Constant (.str m) j p2] [] pos)) none pos') (tS c W (sraise k)) :=
  (ps_raise hc tk (pmk_own PySem.F.excBase_ValueError r.2.1 r.1 r.2.2.1 (raises_own r.2.2.2.1 r.2.2.2.2) hg hdb)).zm fun D σ H ⟨ρ, A, σd, R, S, h⟩ => h ρ H σ R .refl S _ _ ⟨rfl, rfl⟩
theorem s_try (hs : X.stack = X.env :: X.outer) (hf : X.env.frame = some X.env.locals) (hex : X.ex = []) (hN : X.N.Nodup) (hi : X.N[i]? = some n) (hln : X.env.kindOf n = some .local) (hg : Gl X x) (hm : X.mg x = some (.ref (c.eA k))) (hdb : (x == ("__debug__" : Str)) = false) (F : ExF X.K c.eA N) (hk : k < N) (tk : Takes X W)
    (hb : ∀ (W : WX) (pn : List (Addr × Obj)) (xe : Value → Shared → Prop), Takes (X.tr pn xe) W → PassesOwn (model X.prog X.w) X.A X.env xe → PSs (X.tr pn xe) body (tS c W fb))
    (hsu : ∀ (a : Addr) (pn : List (Addr × Obj)), PSs (X.suite a pn) (b₀ :: suite) (tS c WN fs)) :
    PS X (.Try body [.ExceptHandler (some (.Name x np)) (some n) (b₀ :: suite) pos'] [] [] pos) (tS c W (stry k i N fb fs)) :=
  (ps_try_asT hs hf hex hN hi hln (x := x) (c := .ref (c.eA k)) ⟨hg, hdb, .inl hm⟩ tk (tb := fun W => tS c W fb) hb hsu).zm fun D σ H ⟨ρ, A, σd, R, S, h⟩ => ⟨ρ, A, σd, R, S, by
    unfold stry at h
    revert h
    cases fb σd A with
    | none => exact fun h => h
    | some r => cases r with
      | nx σd A => exact fun h => h
      | bk σd A => exact fun h => h
      | ct σd A => exact fun h => h
      | rt d A => exact fun h => h
      | ex y σ1 A1 =>
        intro h ρ1 H1 σ1' R1 s1 S1 cls d hx
        dsimp only at h
        split at h
        · rename_i hy
          obtain ⟨e1, e2⟩ := hx
          refine ⟨subE y.c k, by rw [e1]; exact F.exm y.c k hy hk, fun hb a oe na hz hfd => ?_, fun hb => ?_⟩
          · rw [if_pos hb] at h
            obtain ⟨R2, s2, _⟩ := R1.laid (ho := .frz oe (.ext fun _ => True)) na
            have re : Rv c ρ1 (upd H1 a (.frz oe (.ext fun _ => True))) (.exc y.c) (.ref a) := .exc upd_same ⟨by rw [hz.1, e1], by rw [hz.2, e2], hfd⟩
            refine ⟨ρ1, A1, σ1.set i (some (.exc y.c)), R2, (S1.to R1 s2).set re i, ?_⟩
            have h2 := LdS.to (LdS.to h s1) s2
            revert h2
            cases fs (σ1.set i (some (.exc y.c))) A1 with
            | none => exact fun h => h
            | some r => cases r with
              | nx σ2 A2 => exact fun h ρ3 H3 σ3 R3 s3 S3 => h ρ3 H3 _ R3 s3 (S3.setNone i)
              | bk σ2 A2 => exact fun h ρ3 H3 σ3 R3 s3 S3 => h ρ3 H3 _ R3 s3 (S3.setNone i)
              | ct σ2 A2 => exact fun h ρ3 H3 σ3 R3 s3 S3 => h ρ3 H3 _ R3 s3 (S3.setNone i)
              | rt d A2 => exact fun h => h
              | ex z σ2 A2 => exact fun h => h.elim
          · rw [if_neg (by rw [hb]; decide)] at h
            exact h ρ1 H1 σ1' R1 s1 S1 cls d ⟨e1, e2⟩
        · exact h.elim⟩
end

/-- classes asked: m's; ValueError -/
inductive Tcl where | own (m : Nat) | ve
def tclB (n : Nat) : Tcl → Bool
  | .own m => subE n m
  | .ve => true
def Tcl.v (c : Cn) : Tcl → Value
  | .own m => .ref (c.eA m)
  | .ve => .type "ValueError"
def Tcl.x (c : Cn) : Tcl → V
  | .own m => .ref (c.eA m)
  | .ve => .ty "ValueError"
def Tcl.lt (N : Nat) : Tcl → Bool
  | .own m => decide (m < N)
  | .ve => true
theorem Tcl.cls (c : Cn) (t : Tcl) : ClsV (t.x c) (t.v c) := by cases t with
  | own m => exact .own _
  | ve => exact .ty _
def zisx (N : Nat) (ts : List Tcl) (a : Ev D) : Ev D := fun σ => mb (a σ) fun x A => match x with
  | .exc n => if n < N then some (.ok (.bl (ts.any (tclB n))) A) else none
  | _ => none
/-- isinstance(x, ..) of an error that is known -/
def rIsX (K : PySem.W.Frag) : List V → Hp → VK → Prop := fun xs H Q => ∃ (a C : Addr) (o : Obj) (u : HO) (c : V) (cv : Value) (b : Bool), xs = [.ref a, c] ∧ H a = some (.frz o u) ∧ (o.cls = .ref C ∧ o.dict = none ∧ ∃ vs, o.data = .fields vs) ∧ ExcC K C ∧ ClsV c cv ∧ PySem.W.kitOne K (.ref C) cv = some b ∧ Q (.bl b) H
def rIsXT (K : PySem.W.Frag) : List V → Hp → VK → Prop := fun xs H Q => ∃ (a C tp : Addr) (o : Obj) (u : HO) (cs : List V) (us : List Value) (b : Bool), xs = [.ref a, .ref tp] ∧ H a = some (.frz o u) ∧ (o.cls = .ref C ∧ o.dict = none ∧ ∃ vs, o.data = .fields vs) ∧ ExcC K C ∧ H tp = some (.tup cs) ∧ Paired ClsV cs us ∧ PySem.W.kitAny K (.ref C) us = some b ∧ Q (.bl b) H
section
variable {X : Cx}
theorem inst_of {o : Obj} {C a : Addr} {h : Heap} (e : h.get? a = some o) (ho : o.cls = .ref C ∧ o.dict = none ∧ ∃ vs, o.data = .fields vs) : PySem.W.InstAt h a o C none := by
  obtain ⟨oc, od, oda, osl⟩ := o
  obtain ⟨h1, h2, vs, h3⟩ := ho
  dsimp only at h1 h2 h3
  subst h1 h2 h3
  exact ⟨e, rfl, rfl, trivial⟩
theorem call_isX : CallR X (.builtin "isinstance") (rIsX X.K) := by
  intro pins s σ H xs us Q I r ⟨a, C, o, u, c, cv, b, e1, ha, ho, hC, hc, hk, q⟩
  subst e1
  obtain ⟨u1, u2, rfl, r1, r2⟩ := vals2 r
  cases (show u1 = Value.ref a from r1)
  have e2 := hc.eq r2
  subst e2
  obtain ⟨hob, _⟩ := I.hok a _ ha
  exact PySem.W.kia_one (PySem.W.handS_kitx_exc hC.hg hC.hk hC.hs hC.hd hC.ha hC.hn hC.ht hC.hm) I.kIn (inst_of hob ho) hk (fun z => nomatch z) fun tk => ⟨.bl b, H, I.tok tk, rfl, q⟩
theorem call_isXT : CallR X (.builtin "isinstance") (rIsXT X.K) := by
  intro pins s σ H xs us Q I r ⟨a, C, tp, o, u, cs, ws, b, e1, ha, ho, hC, hT, hc, hk, q⟩
  subst e1
  obtain ⟨u1, u2, rfl, r1, r2⟩ := vals2 r
  cases (show u1 = Value.ref a from r1)
  cases (show u2 = Value.ref tp from r2)
  obtain ⟨hob, _⟩ := I.hok a _ ha
  obtain ⟨_, its, rv, o2, h1, h2, n, h3⟩ := (show ObjOk X.prog X.w H s.heap tp (.tup cs) from I.hok tp _ hT)
  have e3 := ClsV.all hc rv
  subst e3
  obtain ⟨oc, od, dt, sl⟩ := o2
  simp only at h2 h3
  subst h2 h3
  exact PySem.W.kia_tup (PySem.W.handS_kitx_exc hC.hg hC.hk hC.hs hC.hd hC.ha hC.hn hC.ht hC.hm) I.kIn (inst_of hob ho) h1 hk (fun z => nomatch z) fun tk => ⟨.bl b, H, I.tok tk, rfl, q⟩
end
theorem kit_tcl {c : Cn} {K : PySem.W.Frag} {N n : Nat} (F : ExF K c.eA N) (hn : n < N) {t : Tcl} (ht : t.lt N = true) : PySem.W.kitOne K (.ref (c.eA n)) (t.v c) = some (tclB n t) := by
  cases t with
  | own m => exact F.own n m hn (of_decide_eq_true ht)
  | ve => exact F.ve n hn
theorem kit_tcls {c : Cn} {K : PySem.W.Frag} {N n : Nat} (F : ExF K c.eA N) (hn : n < N) : ∀ {ts : List Tcl}, ts.all (·.lt N) = true → PySem.W.kitAny K (.ref (c.eA n)) (ts.map (·.v c)) = some (ts.any (tclB n))
  | [], _ => rfl
  | t :: ts, h => by
    rw [List.all_cons, Bool.and_eq_true] at h
    rw [List.map_cons, PySem.W.kitAny, kit_tcl F hn h.1, List.any_cons]
    cases tclB n t with
    | true => rfl
    | false => exact kit_tcls F hn h.2
theorem tcls_cls (c : Cn) : ∀ ts : List Tcl, Paired ClsV (ts.map (·.x c)) (ts.map (·.v c))
  | [] => .nil
  | t :: ts => .cons (t.cls c) (tcls_cls c ts)
/-- a class by its name -/
def PCl (X : Cx) (c : Cn) (e : Expr) (t : Tcl) : Prop := PE X e fun _ H Q => Q (t.x c) H
section
variable {X : Cx} {c : Cn} {W : WX} {e : Expr} {x : Str} {m N : Nat} {fa : Ev D} {p p2 pos : Pos} {ts : List Tcl} {es : List Expr}
theorem pcl_own (hg : Gl X x) (hm : X.mg x = some (.ref (c.eA m))) (hd : (x == ("__debug__" : Str)) = false := by decide) : PCl X c (.Name x p) (.own m) := pe_glob (v := .ref (c.eA m)) hg hm rfl hd
theorem pcl_ve (hg : Gl X "ValueError") (hm : X.mg "ValueError" = none) : PCl X c (.Name "ValueError" p) .ve := pe_bltn hg hm (by decide +kernel) (show RelV (.ty "ValueError") (.type "ValueError") from rfl) (by decide) (by decide)
inductive PCls (X : Cx) (c : Cn) : List Expr → List Tcl → Prop where
  | nil : PCls X c [] []
  | cons {e : Expr} {t : Tcl} {es : List Expr} {ts : List Tcl} : PCl X c e t → starEach (e :: es) X.env = (false, eval e X.env) :: starEach es X.env → PCls X c es ts → PCls X c (e :: es) (t :: ts)
theorem PCls.pa : ∀ {es : List Expr} {ts : List Tcl}, PCls X c es ts → PA X es fun _ H Q => Q (ts.map (·.x c)) H
  | _, _, .nil => ⟨fun pos pins s σ H Q I h => pa_nil.run pos pins s σ H Q I h⟩
  | _, _, .cons h hs t => ⟨fun pos pins s σ H Q I h0 => (pa_cons h (PCls.pa t) hs).run pos pins s σ H Q I h0⟩
theorem z_isx (hK : c.K = X.K) (F : ExF X.K c.eA N) {t : Tcl} (ht : t.lt N = true) (hg : Gl X "isinstance") (hm : X.mg "isinstance" = none) (h : PE X e (tE c W fa)) {e2 : Expr} (h2 : PCl X c e2 t)
    (na : starEach [e, e2] X.env = (false, eval e X.env) :: starEach [e2] X.env := by rfl) (nb : starEach [e2] X.env = (false, eval e2 X.env) :: starEach [] X.env := by rfl)
    (hpl : (backTo pos (starEach [e2] X.env)).any (·.1) = false := by rfl) :
    PE X (.Call (.Name "isinstance" p) [e, e2] [] pos) (tE c W (zisx N [t] fa)) :=
  (pe_callB call_isX hg hm boot_isinstance (pa_cons h (pa1 h2 nb) na) (he := na) (hpl := hpl)).zm fun σ H Q ⟨ρ, A, σd, R, S, h⟩ =>
    show tE c W fa σ H _ from one R S h fun x v ρ1 A1 H1 R1 s1 S1 rv h1 => by
    cases rv <;> first | exact False.elim h1 | skip
    rename_i n a o u ha ho
    dsimp only at h1
    obtain ⟨hn, h3⟩ := iteP R1 h1
    refine ⟨a, c.eA n, o, u, t.x c, t.v c, tclB n t, rfl, ha, ho, F.cc n hn, t.cls c, kit_tcl F hn ht, ?_⟩
    have := h3 _ (.bl _)
    simpa using this
theorem z_isxt {kt : Nat} (hK : c.K = X.K) (F : ExF X.K c.eA N) (ht : ts.all (·.lt N) = true) (hg : Gl X "isinstance") (hm : X.mg "isinstance" = none) (h : PE X e (tE c W fa)) (h2 : PCls X c es ts) (hl : ts.length ≤ 100)
    (na : starEach [e, .Tuple es kt p2] X.env = (false, eval e X.env) :: starEach [.Tuple es kt p2] X.env := by rfl) (nb : starEach [.Tuple es kt p2] X.env = (false, eval (.Tuple es kt p2) X.env) :: starEach [] X.env := by rfl)
    (hpl : (backTo pos (starEach [.Tuple es kt p2] X.env)).any (·.1) = false := by rfl) :
    PE X (.Call (.Name "isinstance" p) [e, .Tuple es kt p2] [] pos) (tE c W (zisx N ts fa)) :=
  (pe_callB call_isXT hg hm boot_isinstance (pa_cons h (pa1 (pe_tup h2.pa) nb) na) (he := na) (hpl := hpl)).zm fun σ H Q ⟨ρ, A, σd, R, S, h⟩ =>
    show tE c W fa σ H _ from one R S h fun x v ρ1 A1 H1 R1 s1 S1 rv h1 => by
    cases rv <;> first | exact False.elim h1 | skip
    rename_i n a o u ha ho
    dsimp only at h1
    obtain ⟨hn, h3⟩ := iteP R1 h1.later
    refine ⟨by rw [List.length_map, sizeLine_eq]; omega, fun q nq => ?_⟩
    obtain ⟨R2, s2, _⟩ := R1.laid (ho := .tup (ts.map (·.x c))) nq
    refine ⟨a, c.eA n, q, o, u, ts.map (·.x c), ts.map (·.v c), ts.any (tclB n), rfl, by rw [upd_ne (ne_of_none ha nq)]; exact ha, ho, F.cc n hn, upd_same, tcls_cls c ts, kit_tcls F hn ht, h3 ρ1 _ R2 s2 _ (.bl _)⟩
end
end Z

noncomputable section
set_option maxHeartbeats 4000000
namespace EnT
open PySem PySem.Spec PyProof.Rows
open AutoSeq1 (wpAny_loadPart')
theorem meets_enumerate_newT (l : Addr) (items : Array Value) (n : Nat) (dct : Option Addr) (sl : Array (Option Value)) :
    Meets (Builtin.«enumerate.__new__» ⟨[.type "enumerate", .ref l], []⟩) (fun _ R s => s.heap.get? l = some { cls := .type "tuple", dict := dct, data := .seq items n, slots := sl } ∧
      R (.ok (.ret (.ref (s.heap.push { cls := .type "tuple_iterator", data := .fields #[.ref l, .int 0 0] }).objs.size)))
        { s with heap := (s.heap.push { cls := .type "tuple_iterator", data := .fields #[.ref l, .int 0 0] }).push { cls := .type "enumerate", data := .fields #[.none, .bool false, .ref s.heap.objs.size, rawInt 0, .none, .none] } }) :=
  .of_wp fun prog w A R s h => by
    obtain ⟨hp, g, d, tk, os⟩ := s; obtain ⟨hl, h⟩ := h
    have hsub := sub_enumerate
    have hL : Heap.IsTuple (Shared.heap ⟨hp, g, d, tk, os⟩) l items := ⟨_, hl, rfl, n, rfl⟩
    wp_walk using wpAny_loadPart' hl
    refine wpAny_stack_any fun st => wpAny_pure ?_
    split
    · rename_i c _ _ _ _ _
      cases (c == Value.type "enumerate")
      · wp_walk using wpAny_loadPart' hl, wpAny_pyIter_tuple hL
        exact ⟨_, rfl, h⟩
      · wp_walk using wpAny_loadPart' hl, wpAny_pyIter_tuple hL
        exact ⟨_, rfl, h⟩
    · wp_walk using wpAny_loadPart' hl, wpAny_pyIter_tuple hL
      exact ⟨_, rfl, h⟩
section
variable {prog : Program} {w : World} {A : Around} {E : Value → Shared → Prop} {s : Shared}
theorem call_enumerate_tuple {l : Addr} {items : Array Value} {Q : Value → Shared → Prop} (hL : s.heap.IsTuple l items)
    (h : ∀ h', IsEnum h' (s.heap.objs.size + 1) s.heap.objs.size 0 .none → h'.IsTupleIter s.heap.objs.size l 0 → h'.objs.size = s.heap.objs.size + 2 →
      (∀ b o, s.heap.get? b = some o → h'.get? b = some o) → Q (.ref (s.heap.objs.size + 1)) { s with heap := h' }) :
    wpAny (model prog w) A (call (.type "enumerate") [.ref l]) Q E s := by
  obtain ⟨⟨c, dct, dt, sl⟩, hl, hc, n, hd⟩ := hL
  replace hc : c = .type "tuple" := hc
  replace hd : dt = .seq items n := hd
  subst hc hd
  refine callType_new F.called_enumerate (by decide) (F.typeCall_enumerate_1 _) (F.newCall_enumerate_1 _) (fun obj => F.args_object_init_2 obj _) F.entry_enumerate_new
    (meets_enumerate_newT l items n dct sl) ⟨hl, ?_⟩
  have hz : (s.heap.push { cls := .type "tuple_iterator", data := .fields #[.ref l, .int 0 0] }).objs.size = s.heap.objs.size + 1 := Heap.size_push ..
  show _ ∧ _
  rw [hz]
  have he : IsEnum ((s.heap.push { cls := .type "tuple_iterator", data := .fields #[.ref l, .int 0 0] }).push
      { cls := .type "enumerate", data := .fields #[.none, .bool false, .ref s.heap.objs.size, rawInt 0, .none, .none] }) (s.heap.objs.size + 1) s.heap.objs.size 0 .none := by
    have := Heap.get?_push_size (s.heap.push { cls := .type "tuple_iterator", data := .fields #[.ref l, .int 0 0] })
      (o := { cls := .type "enumerate", data := .fields #[.none, .bool false, .ref s.heap.objs.size, rawInt 0, .none, .none] }) rfl
    rw [hz] at this; exact this
  refine ⟨⟨_, he, rfl⟩, h _ he ⟨_, Heap.get?_push_of_some _ (Heap.get?_push_size _ rfl), rfl, rfl⟩ (by rw [Heap.size_push, hz]) fun b o x => Heap.get?_push_of_some _ (Heap.get?_push_of_some _ x)⟩
end
end EnT
namespace L2
open PySem PySem.Spec PyProof.Rows
/-- the tuple at a, each item in a new pair -/
def IteT (K : PySem.W.Frag) (a : Addr) : It :=
  ⟨fun i H => ∃ (xs : List V) (x : V), SqT K H a xs ∧ xs[i]? = some x, fun i H v H' => ∃ T x, v = .ref T ∧ H T = none ∧ H' = upd H T (.tup [.int (i : Nat), x]) ∧ ∀ xs, SqT K H a xs → xs[i]? = some x, fun i H => ∃ xs : List V, SqT K H a xs ∧ xs.length ≤ i⟩
theorem turn_enumT {P : Program} {w : World} {K : PySem.W.Frag} {elts : List Expr} {kk : Nat} {tpos : Pos} (a e it : Addr) :
    Turn P w K (.Tuple elts kk tpos) (IteT K a) [e, it] e (fun i h => (∃ old, IsEnum h e it ((i : Nat) : Int) old) ∧ h.IsTupleIter it a i ∧ e ≠ it ∧ a ≠ it ∧ a ≠ e) where
  mem := by simp
  obj := fun i h st b hb => by
    obtain ⟨⟨old, he⟩, ⟨o, ho, hc, hd⟩, _⟩ := st
    have e' : b = e ∨ b = it := by simpa using hb
    rcases e' with z | z
    · rw [z]; exact ⟨_, he, fun v q => nomatch q⟩
    · rw [z]; exact ⟨o, ho, fun v q => by rw [hd] at q; cases q⟩
  keep := fun i h h' st k => let ⟨⟨old, he⟩, hi, hne⟩ := st; ⟨⟨old, k e (by simp) _ he⟩, hi.at fun o q => k it (by simp) o q, hne⟩
  item := by
    intro X hP hw hK hc i pins s σ H E I hf st hg
    subst hP hw hK
    obtain ⟨⟨old, he⟩, hit, hne, hai, hae⟩ := st
    obtain ⟨xs, x, hq, hx⟩ := hg
    obtain ⟨its, rv, p, hz⟩ := I.tuple hq
    obtain ⟨u, hu, ru⟩ := rv.get hx
    have hel : e < s.heap.objs.size := Heap.lt_size he
    have hil : it < s.heap.objs.size := by obtain ⟨_, q, _⟩ := hit; exact Heap.lt_size q
    have D := Draws.tuple (prog := X.prog) (w := X.w) (A := X.A.in1) (by simpa using I.ok.hd hc) it a hai its.toArray
    have hlt : i < its.toArray.size := (Array.getElem?_eq_some_iff.mp (show its.toArray[i]? = some u by simpa using hu)).1
    refine wpAny_pyNext_enum_itemD D he ⟨hit, p⟩ hlt hne (by simp [hne, Ne.symm hae]) fun y h' tk hy ho hst hT hsz hk => ?_
    have ey : y = u := by
      have hy' : its.toArray[i]? = some y := hy
      rw [show its.toArray[i]? = some u by simpa using hu] at hy'
      exact (Option.some.inj hy').symm
    subst ey
    refine ⟨_, rfl, wpAny_letOwnedTupleGo_enum (s := { s with heap := h', toks := tk + 1 }) ho fun h'' he' sb => ?_⟩
    have hT2 : h''.get? s.heap.objs.size = some { cls := .type "tuple", data := .seq #[.int i tk, y] } := (sb.2 _ (Nat.ne_of_gt hel)).trans hT
    have new : ObjOk X.prog X.w (upd H s.heap.objs.size (.tup [.int (i : Nat), x])) h'' s.heap.objs.size (.tup [.int (i : Nat), x]) :=
      ⟨by show 2 ≤ sizeLine; decide, [.int i tk, y], .cons ⟨_, rfl⟩ (.cons ru .nil), ⟨_, hT2, rfl, _, rfl⟩⟩
    have I1 : Inv X pins σ (upd H s.heap.objs.size (.tup [.int (i : Nat), x])) { s with heap := h'', toks := tk + 1 } :=
      I.turnedNew (ch := [e, it]) (fun b ob hb q => (sb.2 b (fun z => hb (by simp [z]))).trans (hk b ob (fun z => hb (by simp [z])) (fun z => hb (by simp [z])) q)) hf (Nat.le_refl _) new
    refine ⟨.ref s.heap.objs.size, _, I1, rfl, ⟨_, x, rfl, I.hok.fresh (Nat.le_refl _), rfl, fun ys hy => by rw [I.tuple_inj hy hq]; exact hx⟩, ⟨⟨y, ?_⟩, hst.1.at fun o q => (sb.2 it (Ne.symm hne)).trans q, hne, hai, hae⟩, fun b hb => ?_⟩
    · have e1 : ((i + 1 : Nat) : Int) = (i : Int) + 1 := by omega
      rw [e1]; exact he'
    · have hb' : b < s.heap.objs.size := by
        have e' : b = e ∨ b = it := by simpa using hb
        rcases e' with z | z
        · rw [z]; exact hel
        · rw [z]; exact hil
      rw [upd_ne (Nat.ne_of_lt hb')]
      exact (hf b hb).1
  done := by
    intro X hP hw hK hc i pins s σ H E I hf st hg
    subst hP hw hK
    obtain ⟨⟨old, he⟩, hit, hne, hai, hae⟩ := st
    obtain ⟨xs, hq, hx⟩ := hg
    obtain ⟨its, rv, p, hz⟩ := I.tuple hq
    obtain ⟨f0, f1, f2, f3, f4, f5⟩ := hf it (by simp)
    have hl := rv.length
    have hT : s.TypeIs (.ref e) "enumerate" := ⟨_, he, rfl⟩
    unfold pyNext
    refine wpAny_bind (wpAny_attempt (wpAny_callSpecial?_slot (name := Str.ofString "__next__") hT PySem.F.slot_enumerate_next
      (wpAny_call_entry PySem.F.slot_enumerate_next hT PySem.F.entry_enumerate_next ?_ (PySem.F.args_enumerate_next_1 _))))
    show wpAny _ _ (field (.ref e) 2 >>= _) _ _ _
    refine wpAny_bind (wpAny_field he rfl (x := .ref it) rfl ?_)
    refine wpAny_bind (wpAny_nextOf_tuple_end (by simpa using I.ok.hd hc) hit p (by simp; omega) fun h' x he' hx' => ?_)
    obtain ⟨o, ho, hcl⟩ := hx'
    refine wpAny_bind (wpAny_isInstance (T := "StopIteration") (b := true) ⟨o, ho, hcl⟩ isSubtype_stop ?_)
    exact wpAny_pure ⟨rfl, I.turned (t' := s.toks) (fun b o hb q => he' b o hb q) f0 f1 f3 f4 f5⟩
  self := fun A i s Q E st h => let ⟨⟨_, he⟩, _⟩ := st; wpAny_pyIter_enum he h
def iEnumA (K : PySem.W.Frag) (ta : TA) : TI := fun σ H R => ta σ H fun vs H1 => ∃ a xs, vs = [.ref a] ∧ ((SqL K H1 a xs ∧ R (Ite K a) H1) ∨ (SqT K H1 a xs ∧ R (IteT K a) H1))
theorem pi_enumA {X : Cx} {e : Expr} {ta : TA} {p pos tpos : Pos} {elts : List Expr} {kk : Nat} (hg : Gl X "enumerate") (hm : X.mg "enumerate" = none) (ha : PA X [e] ta) (hs : starEach [e] X.env = [(false, eval e X.env)] := by rfl) :
    PI X (.Tuple elts kk tpos) (.Call (.Name "enumerate" p) [e] [] pos) (iEnumA X.K ta) := by
  refine ⟨fun pins s σ H R I h => ?_⟩
  refine Call_ (ld_blt I hg hm boot_enumerate (PyProof.Rows.callWith_type1 (thn (ha.run pos pins s σ H _ I h) fun us s1 ⟨vs, H1, I1, r1, q1⟩ => ?_) hs rfl))
  obtain ⟨a, xs, ex, q1⟩ := q1
  subst ex
  cases r1 with
  | cons r rr =>
    cases rr
    cases r
    have fresh2 : ∀ b ∈ [s1.heap.objs.size + 1, s1.heap.objs.size], FpOk X pins H1 b := fun b hb => by
      have e' : b = s1.heap.objs.size + 1 ∨ b = s1.heap.objs.size := by simpa using hb
      have hle : s1.heap.objs.size ≤ b := by
        rcases e' with z | z
        · rw [z]; exact Nat.le_add_right _ _
        · rw [z]; exact Nat.le_refl _
      exact I1.fpOk hle (I1.hok.fresh hle)
    rcases q1 with ⟨hq, q⟩ | ⟨hq, q⟩
    · obtain ⟨its, rv, p', hz⟩ := I1.list hq
      refine call_enumerate_list p'.isList fun h' he hit hsz hk => wpAny_pyIter_enum he ?_
      have I2 : Inv X pins σ H1 { s1 with heap := h' } := I1.kept (t' := s1.toks) hk
      exact ⟨s1.heap.objs.size + 1, [s1.heap.objs.size + 1, s1.heap.objs.size], _, _, H1, rfl, I2, turn_enum a (s1.heap.objs.size + 1) s1.heap.objs.size, ⟨⟨.none, he⟩, hit, Nat.succ_ne_self _⟩, fresh2, q⟩
    · obtain ⟨its, rv, p', hz⟩ := I1.tuple hq
      have hal : a < s1.heap.objs.size := by obtain ⟨_, q, _⟩ := id p'; exact Heap.lt_size q
      refine EnT.call_enumerate_tuple (show s1.heap.IsTuple a its.toArray from p') fun h' he hit hsz hk => wpAny_pyIter_enum he ?_
      have I2 : Inv X pins σ H1 { s1 with heap := h' } := I1.kept (t' := s1.toks) hk
      exact ⟨s1.heap.objs.size + 1, [s1.heap.objs.size + 1, s1.heap.objs.size], _, _, H1, rfl, I2, turn_enumT a (s1.heap.objs.size + 1) s1.heap.objs.size, ⟨⟨.none, he⟩, hit, Nat.succ_ne_self _, Nat.ne_of_lt hal, Nat.ne_of_lt (Nat.lt_succ_of_lt hal)⟩, fresh2, q⟩
end L2
namespace Z
open PySem PySem.Spec PyProof.Rows L2
section
variable {c : Cn} {ρ ρ' : List Addr} {A : Hh} {H H' : Hp} {σd : Sl} {σ : L2.St} {W : WX}
theorem enum_at {xs : List D} {i : Nat} {d : D} (h : (enumD xs)[i]? = some d) : ∃ x, xs[i]? = some x ∧ d = .tup [.int (i : Nat), x] := by
  unfold enumD at h
  rw [List.getElem?_map] at h
  obtain ⟨z, h1, h2⟩ := Option.map_eq_some_iff.mp h
  rw [List.getElem?_zipIdx] at h1
  obtain ⟨x, h3, h4⟩ := Option.map_eq_some_iff.mp h1
  subst h4 h2
  exact ⟨x, h3, by simp⟩
theorem enumD_len (xs : List D) : (enumD xs).length = xs.length := by simp [enumD]
theorem walk_el {a : Addr} {xs : List D} {w : Wt} {ρ0 : List Addr} {A0 : Hh} {H0 : Hp} (h : LstAt c ρ0 H0 a xs w) (R0 : Rel c ρ0 A0 H0) : Walk c ρ0 H0 (Ite c.K a) (enumD xs) w true := fun ρ A H R s hw => by
  obtain ⟨vs, hq, r⟩ := (h.later R0 s R hw).sq
  refine ⟨fun i d hd => ?_, vs, hq, by rw [enumD_len, r.length]; exact Nat.le_refl _⟩
  obtain ⟨x, hx, rfl⟩ := enum_at hd
  obtain ⟨v, hv, rv⟩ := r.get hx
  refine ⟨⟨vs, v, hq, hv⟩, fun z H' ⟨T, x', e1, n, e2, k1⟩ => ?_⟩
  have e3 := k1 vs hq
  rw [hv] at e3
  cases e3
  subst e1 e2
  have := pair_ok R n (Rv.int (i : Nat)) rv
  simpa using this
theorem walk_et {a : Addr} {vs : List V} {xs : List D} {ρ0 : List Addr} {A0 : Hh} {H0 : Hp} (h : FzT c.K H0 a vs) (r0 : Rvs c ρ0 H0 xs vs) (R0 : Rel c ρ0 A0 H0) : Walk c ρ0 H0 (IteT c.K a) (enumD xs) [] true := fun ρ A H R s hw => by
  have hq := (R0.fzt s.fr _ _ h).sq
  have r := r0.to R0 s
  refine ⟨fun i d hd => ?_, vs, hq, by rw [enumD_len, r.length]; exact Nat.le_refl _⟩
  obtain ⟨x, hx, rfl⟩ := enum_at hd
  obtain ⟨v, hv, rv⟩ := r.get hx
  refine ⟨⟨vs, v, hq, hv⟩, fun z H' ⟨T, x', e1, n, e2, k1⟩ => ?_⟩
  have e3 := k1 vs hq
  rw [hv] at e3
  cases e3
  subst e1 e2
  have := pair_ok R n (Rv.int (i : Nat)) rv
  simpa using this
end
section
variable {X : Cx} {c : Cn} {W : WX} {tg e a b : Expr} {elts : List Expr} {kk : Nat} {p pos tpos : Pos} {fa fb : Ev D} {qa : Ev (List D)} {ua ub : Ev (List D × Wt)}
theorem i_enum (hK : c.K = X.K) (hg : Gl X "enumerate") (hm : X.mg "enumerate" = none) (h : PE X e (tE c W fa)) (hs : starEach [e] X.env = (false, eval e X.env) :: starEach [] X.env := by rfl) :
    PI X (.Tuple elts kk tpos) (.Call (.Name "enumerate" p) [e] [] pos) (tI c W true (zenum (zof fa))) :=
  (pi_enumA hg hm (pa1 h hs) hs).zm fun σ H R ⟨ρ, A, σd, Rl, S, hl⟩ => by
    have e0 : zenum (zof fa) σd = mb (fa σd) fun x => mb (fun A => (seqD A x).map fun p => .ok p A) fun p => ok (enumD p.1, p.2) := by
      unfold zenum zof
      rw [mb_mb]
    rw [e0] at hl
    refine show tE c W fa σ H _ from one Rl S hl fun x v ρ1 A1 H1 R1 s1 S1 rv h1 => ?_
    obtain ⟨q, e, h2⟩ := mapL (g := fun p => p) R1 (Ld.bind h1)
    have h3 := h2 ρ1 H1 R1 .refl
    obtain ⟨a, vs, rfl, hst, rvs⟩ := seqD_ok R1 rv e
    refine ⟨a, vs, rfl, ?_⟩
    rcases hst.cases rvs with ⟨ht, hw⟩ | hl2
    · refine .inr ⟨by rw [← hK]; exact ht.sq, ?_⟩
      have := h3 _ (by rw [hw]; exact walk_et ht rvs R1)
      rw [hK] at this
      exact this
    · obtain ⟨us, hq, r2⟩ := hl2.sq
      rcases hst.sq with h5 | h5
      · refine .inl ⟨by rw [← hK]; exact h5, ?_⟩
        have := h3 _ (walk_el hl2 R1)
        rw [hK] at this
        exact this
      · rcases hst with ⟨h6 | h6 | h6, hw⟩ | ⟨n, h6, h7, hw⟩
        · refine .inr ⟨by rw [← hK]; exact h5, ?_⟩
          have := h3 _ (by rw [hw]; exact walk_et h6 rvs R1)
          rw [hK] at this
          exact this
        · refine .inl ⟨by rw [← hK]; exact h6.sq, ?_⟩
          have := h3 _ (walk_el hl2 R1)
          rw [hK] at this
          exact this
        · refine .inl ⟨by rw [← hK]; exact .of h6.1, ?_⟩
          have := h3 _ (walk_el hl2 R1)
          rw [hK] at this
          exact this
        · refine .inl ⟨by rw [← hK]; exact .of h7, ?_⟩
          have := h3 _ (walk_el hl2 R1)
          rw [hK] at this
          exact this
end
end Z

noncomputable section
set_option maxHeartbeats 4000000
namespace CatS
open PySem PySem.Spec PyProof.Rows
open AutoSeq1 (wpAny_loadPart')
theorem list_add_any (l : Addr) (items : Array Value) (n : Nat) (b : Addr) (items2 : Array Value) (n2 : Nat) (d1 d2 : Option Addr) (s1 s2 : Array (Option Value)) (hc0 : items.size + items2.size ≤ sizeLine) :
    Meets (Builtin.«list.__add__» ⟨[.ref l, .ref b], []⟩) (fun _ R s => s.heap.get? l = some { cls := .type "list", dict := d1, data := .seq items n, slots := s1 } ∧ s.heap.get? b = some { cls := .type "list", dict := d2, data := .seq items2 n2, slots := s2 } ∧ R (.ok (.ret (Value.ref s.heap.objs.size))) { s with heap := s.heap.push { cls := Value.type "list", data := Data.seq (items ++ items2) }, toks := s.toks }) :=
  .of_wp fun prog w A R s h => by obtain ⟨hp, g, d, tk, os⟩ := s; obtain ⟨hl, hb, h⟩ := h; have f1 := AutoSeq1.idx_int; have f2 := sub_tuple_tuple; have f3 := sub_list_list; have f4 := sub_tuple_list; have f5 := sub_list_tuple; wp_walk using wpAny_loadPart' hl, wpAny_loadPart' hb; exact ⟨_, rfl, h⟩
end CatS
namespace L2
open PySem PySem.Spec PyProof.Rows
section
variable {X : Cx}
def rCatS (K : PySem.W.Frag) : R2 := fun x y H Q => ∃ l b xs zs, x = .ref l ∧ y = .ref b ∧ SqL K H l xs ∧ SqL K H b zs ∧ xs.length + zs.length ≤ sizeLine ∧ ∀ p, H p = none → Q (.ref p) (upd H p (.lst (xs ++ zs)))
theorem op_catS : OpR X (binaryOp .Add) (rCatS X.K) := by
  intro pins s σ H x y v u Q I rx ry h
  obtain ⟨l, b, xs, zs, rfl, rfl, hH, hB, hz, q⟩ := h
  cases rx
  cases ry
  obtain ⟨its, r, ⟨⟨c1, d1, t1, sl1⟩, n1, e1, k1, _, g1⟩, hl⟩ := I.list hH
  obtain ⟨its2, r2, ⟨⟨c2, d2, t2, sl2⟩, n2, e2, k2, _, g2⟩, hl2⟩ := I.list hB
  simp only at k1 g1 k2 g2
  subst k1 g1 k2 g2
  have ln1 := r.length
  have ln2 := r2.length
  refine concat_meets ⟨_, e1, rfl⟩ ⟨_, e2, rfl⟩ noFill_list_add seq_list_add PySem.F.slot_list_add PySem.F.entry_list_add (PySem.F.args_list_add_2 _ _) (CatS.list_add_any l its.toArray n1 b its2.toArray n2 d1 d2 sl1 sl2 (by rw [List.size_toArray, List.size_toArray]; omega)) ⟨e1, e2, ?_⟩
  have ea : its.toArray ++ its2.toArray = (its ++ its2).toArray := by simp
  rw [ea]
  exact ⟨.ref _, _, I.lnew (t' := s.toks) (r.append r2) (by rw [List.length_append]; omega), rfl, q _ I.fresh⟩
theorem reads_items {ds : List PyData} {its : List Value} {as : List Addr} {h : Heap} (hxs : PyData.canLayAll0 ds = true) (h4 : ReadsAll h its ds as) {j : Nat} (hj : j < its.length) : ∃ z, ds[j]? = some z ∧ SeqAt.readOf h its[j] = z := by
  have hmap : its.map (SeqAt.readOf h) = ds := SeqAt.readsAll_map ds its as hxs h4
  refine ⟨SeqAt.readOf h its[j], ?_, rfl⟩
  rw [← hmap, List.getElem?_map, List.getElem?_eq_getElem hj]
  rfl
/-- xs.count(y), data -/
def rCntD (K : PySem.W.Frag) : V → List V → Hp → VK → Prop := fun x xs H Q => ∃ (a : Addr) (y : V) (d : PyData) (ds : List PyData) (vs : List V), x = V.ref a ∧ xs = [y] ∧ SqL K H a vs ∧ DpAll K H vs ds ∧ Dp K H y d ∧
  SeqAt.shaped (.list ds) = true ∧ SeqAt.shaped d = true ∧ Q (.int ((ds.countP fun z => PyData.eqv z d : Nat) : Int)) H
def rCntDT (K : PySem.W.Frag) : V → List V → Hp → VK → Prop := fun x xs H Q => ∃ (a : Addr) (y : V) (d : PyData) (ds : List PyData) (vs : List V), x = V.ref a ∧ xs = [y] ∧ SqT K H a vs ∧ DpAll K H vs ds ∧ Dp K H y d ∧
  SeqAt.shaped (.list ds) = true ∧ SeqAt.shaped d = true ∧ Q (.int ((ds.countP fun z => PyData.eqv z d : Nat) : Int)) H
theorem cnt_at {ds : List PyData} {its : List Value} {as : List Addr} {h : Heap} {d : PyData} (hxs : PyData.canLayAll0 ds = true) (h4 : ReadsAll h its ds as) : its.countP (fun u => PyData.eqv (SeqAt.readOf h u) d) = ds.countP fun z => PyData.eqv z d := by
  rw [← SeqAt.readsAll_map ds its as hxs h4, List.countP_map]
  rfl
theorem mt_cntD (hu : X.A.units + 65 < cLine) : MtR X "list.count" (rCntD X.K) := by
  intro pins s σ H x xs v us Q I rx rxs h
  obtain ⟨a, y, d, ds, vs, rfl, rfl, hs, hds, hy, sl, sd, q⟩ := h
  cases rx
  cases rxs with
  | cons ry rt =>
    rename_i uy ut
    cases rt
    obtain ⟨bs, r1⟩ := Dp.reads I d y uy hy ry
    have hxs : PyData.canLayAll0 ds = true := SeqAt.canLay_of_shaped sl
    have hroom : X.A.units + 1 + min (PyData.depthAll ds) d.depth < cLine := room_in_shaped sd hu
    obtain ⟨its, rv, ⟨⟨cls, dd, data, sls⟩, n, ho, hc, hdn, hdt⟩, hlen⟩ := I.list hs
    simp only at hc hdt
    subst hc hdt
    obtain ⟨as, h4⟩ := Dp.readsAll I ds _ its hds rv
    rw [← cnt_at (d := d) hxs h4] at q
    refine call_meets PySem.F.slot_list_count ⟨_, ho, rfl⟩ PySem.F.entry_list_count (PySem.F.args_list_count_2 _ _)
      (SeqAt.list_countAt a its.toArray n dd sls uy (fun u => PyData.eqv (SeqAt.readOf s.heap u) d)) ⟨ho, SeqAt.items_eqAt (vs := its.toArray) (show ReadsAll s.heap its.toArray.toList ds as from h4) r1 hxs (SeqAt.canLay_of_shaped sd) hroom, ?_⟩
    exact ⟨.int _, H, I.tok _, ⟨_, rfl⟩, by simpa using q⟩
theorem mt_cntDT (hu : X.A.units + 65 < cLine) : MtR X "tuple.count" (rCntDT X.K) := by
  intro pins s σ H x xs v us Q I rx rxs h
  obtain ⟨a, y, d, ds, vs, rfl, rfl, hs, hds, hy, sl, sd, q⟩ := h
  cases rx
  cases rxs with
  | cons ry rt =>
    rename_i uy ut
    cases rt
    obtain ⟨bs, r1⟩ := Dp.reads I d y uy hy ry
    have hxs : PyData.canLayAll0 ds = true := SeqAt.canLay_of_shaped sl
    have hroom : X.A.units + 1 + min (PyData.depthAll ds) d.depth < cLine := room_in_shaped sd hu
    obtain ⟨its, rv, ⟨⟨cls, dd, data, sls⟩, ho, hc, n, hdt⟩, hlen⟩ := I.tuple hs
    simp only at hc hdt
    subst hc hdt
    obtain ⟨as, h4⟩ := Dp.readsAll I ds _ its hds rv
    rw [← cnt_at (d := d) hxs h4] at q
    refine call_meets PySem.F.slot_tuple_count ⟨_, ho, rfl⟩ PySem.F.entry_tuple_count (PySem.F.args_tuple_count_2 _ _)
      (SeqAt.tuple_countAt a its.toArray n dd sls uy (fun u => PyData.eqv (SeqAt.readOf s.heap u) d)) ⟨ho, SeqAt.items_eqAt (vs := its.toArray) (show ReadsAll s.heap its.toArray.toList ds as from h4) r1 hxs (SeqAt.canLay_of_shaped sd) hroom, ?_⟩
    exact ⟨.int _, H, I.tok _, ⟨_, rfl⟩, by simpa using q⟩
/-- t.index(y), data -/
def rIdxDT (K : PySem.W.Frag) : V → List V → Hp → VK → Prop := fun x xs H Q => ∃ (a : Addr) (y : V) (d : PyData) (ds : List PyData) (vs : List V) (j : Nat), x = V.ref a ∧ xs = [y] ∧ SqT K H a vs ∧ DpAll K H vs ds ∧ Dp K H y d ∧
  SeqAt.shaped (.list ds) = true ∧ SeqAt.shaped d = true ∧ ds.findIdx? (fun z => PyData.eqv z d) = some j ∧ Q (.int (j : Nat)) H
theorem mt_idxDT (hu : X.A.units + 65 < cLine) : MtR X "tuple.index" (rIdxDT X.K) := by
  intro pins s σ H x xs v us Q I rx rxs h
  obtain ⟨a, y, d, ds, vs, j, rfl, rfl, hs, hds, hy, sl, sd, hj, q⟩ := h
  cases rx
  cases rxs with
  | cons ry rt =>
    rename_i uy ut
    cases rt
    obtain ⟨bs, r1⟩ := Dp.reads I d y uy hy ry
    have hxs : PyData.canLayAll0 ds = true := SeqAt.canLay_of_shaped sl
    have hroom : X.A.units + 1 + min (PyData.depthAll ds) d.depth < cLine := room_in_shaped sd hu
    obtain ⟨its, rv, ⟨⟨cls, dd, data, sls⟩, ho, hc, n, hdt⟩, hlen⟩ := I.tuple hs
    simp only at hc hdt
    subst hc hdt
    obtain ⟨as, h4⟩ := Dp.readsAll I ds _ its hds rv
    obtain ⟨j1, j2, j3⟩ := List.findIdx?_eq_some_iff_getElem.mp hj
    have hl : its.length = ds.length := SeqAt.ReadsAll.length ds its as h4
    have hjl : j < its.toArray.size := by simp; omega
    refine call_meets PySem.F.slot_tuple_index ⟨_, ho, rfl⟩ PySem.F.entry_tuple_index (PySem.F.args_tuple_index_2 _ _)
      (TI.tuple_indexAt a its.toArray n dd sls uy (fun u => PyData.eqv (SeqAt.readOf s.heap u) d) j hjl ?_ ?_) ⟨ho, SeqAt.items_eqAt (vs := its.toArray) (show ReadsAll s.heap its.toArray.toList ds as from h4) r1 hxs (SeqAt.canLay_of_shaped sd) hroom, ⟨.int (j : Nat), H, I.tok _, ⟨_, rfl⟩, q⟩⟩
    · obtain ⟨z, h5, h6⟩ := reads_items hxs h4 (j := j) (by omega)
      rw [List.getElem?_eq_getElem j1] at h5
      cases h5
      show PyData.eqv (SeqAt.readOf s.heap its[j]) d = true
      rw [h6]
      exact j2
    · intro m hm hmj
      obtain ⟨z, h5, h6⟩ := reads_items hxs h4 (j := m) (by omega)
      rw [List.getElem?_eq_getElem (by omega)] at h5
      cases h5
      show PyData.eqv (SeqAt.readOf s.heap its[m]) d = false
      rw [h6]
      simpa using j3 m hmj
def rIdxDL (K : PySem.W.Frag) : V → List V → Hp → VK → Prop := fun x xs H Q => ∃ (a : Addr) (y : V) (d : PyData) (ds : List PyData) (vs : List V) (j : Nat), x = V.ref a ∧ xs = [y] ∧ SqL K H a vs ∧ DpAll K H vs ds ∧ Dp K H y d ∧
  SeqAt.shaped (.list ds) = true ∧ SeqAt.shaped d = true ∧ ds.findIdx? (fun z => PyData.eqv z d) = some j ∧ Q (.int (j : Nat)) H
theorem mt_idxDL (hu : X.A.units + 65 < cLine) : MtR X "list.index" (rIdxDL X.K) := by
  intro pins s σ H x xs v us Q I rx rxs ⟨a, y, d, ds, vs, j, e1, e2, hs, hds, hy, sl, sd, hj, q⟩
  obtain ⟨j1, j2, j3⟩ := List.findIdx?_eq_some_iff_getElem.mp hj
  refine mt_indexD hu pins s σ H x xs v us Q I rx rxs ⟨a, y, d, ds, j, ds[j], e1, e2, .lst hs hds, hy, sl, sd, List.getElem?_eq_getElem j1, j2, fun m z hm e => ?_, q⟩
  obtain ⟨hm2, e3⟩ := List.getElem?_eq_some_iff.mp e
  subst e3
  simpa using j3 m hm
end
end L2
namespace Z
open PySem PySem.Spec PyProof.Rows L2

/-- {} that stays empty -/
def zemp : Ev D := fun _ => ok .emp
/-- lists side by side -/
def zcatL (a b : Ev D) : Ev (List D) := fun σ => mb (a σ) fun x => mb (b σ) fun y A => match lstD A x, lstD A y with
  | some xs, some ys => if xs.length + ys.length ≤ SZ then some (.ok (xs ++ ys) A) else none
  | _, _ => none
def cntP (xs : List D) (y : D) : Option D := match D.pys xs, D.py y with
  | some ps, some p => if SeqAt.shaped (.list ps) && SeqAt.shaped p then some (.int ((ps.countP fun z => PyData.eqv z p : Nat) : Int)) else none
  | _, _ => none
def idxP (xs : List D) (y : D) : Option D := match D.pys xs, D.py y with
  | some ps, some p => if SeqAt.shaped (.list ps) && SeqAt.shaped p then (ps.findIdx? fun z => PyData.eqv z p).map fun j => .int (j : Nat) else none
  | _, _ => none
/-- a method of a list that only looks -/
def zlkL (m : List D → D → Option D) (o e : Ev D) : Ev D := fun σ => mb (o σ) fun x => mb (fun A => (lstD A x).map fun _ => .ok () A) fun _ => mb (e σ) fun y A => match lstD A x with
  | some xs => (m xs y).map fun d => .ok d A
  | none => none
/-- .. of a tuple -/
def zlkT (m : List D → D → Option D) (o e : Ev D) : Ev D := fun σ => mb (o σ) fun x => match x with
  | .tup xs => mb (e σ) fun y A => (m xs y).map fun d => .ok d A
  | _ => fun _ => none
def zstr (a : Ev D) : Ev D := fun σ => mb (a σ) fun x => match x with
  | .int i => fun A => if i.natAbs < 10 ^ 100 then some (.ok (.str (toString i)) A) else none
  | _ => fun _ => none
section
variable {X : Cx} {c : Cn} {W : WX} {a b d e o tg : Expr} {fa fb fd fo : Ev D} {qa qb : Ev (List D)} {pos p p1 p2 apos cpos : Pos} {x : Str} {es : List Expr} {fs : Ev (List D)}
theorem z_emp : PE X (.Dict [] [] pos) (tE c W zemp) := ⟨fun pins s σ H Q I ⟨ρ, A, σd, R, S, hl⟩ => by
  refine thn (pe_dnewK.run pins s σ H (fun x H1 => ∃ a, x = .ref a ∧ H1 a = some (.dK []) ∧ ∀ ob : Obj, ob.dict = none → Q (.ref a) (upd H1 a (.frz ob (.dK [])))) I ?_) fun v s1 ⟨x, H1, I1, r, a, e, ha, q⟩ => ?_
  · intro a n
    refine ⟨a, rfl, upd_same, fun ob hob => ?_⟩
    rw [upd_upd]
    obtain ⟨R2, s2, _⟩ := R.laid (ho := .frz ob (.dK [])) n
    exact hl ρ _ R2 s2 _ (.emp upd_same hob)
  · subst e
    obtain ⟨z, hsys, vs, kv, hd⟩ := I1.hok a _ ha
    obtain ⟨ob, es, ep, ho, hex, hr⟩ := id hd
    exact ⟨.ref a, _, I1.write (x := a) (e := a) (t' := s1.toks) (h' := s1.heap) (by rw [ha]; trivial) (.inl rfl) (fun b u _ h => h) ⟨_, ho⟩ (o := .frz ob (.dK [])) ⟨ho, z, hsys, vs, kv, hd⟩, r, q ob hex.2.1⟩⟩
theorem z_catL (hK : c.K = X.K) (ha : PE X a (tE c W fa)) (hb : PE X b (tE c W fb)) : PE X (.BinOp a .Add b pos) (tN c W (zcatL fa fb)) :=
  (pe_op op_catS ha hb).zm fun σ H Q ⟨ρ, A, σd, R, S, h⟩ => two R S h fun x y v u ρ2 A2 H2 R2 s2 S2 rv ru h2 => by
    split at h2
    · rename_i xs ys e1 e2
      obtain ⟨a1, vs, rfl, hs, rvs⟩ := lstD_ok R2 rv e1
      obtain ⟨a2, us, rfl, hs2, rus⟩ := lstD_ok R2 ru e2
      obtain ⟨hz, h3⟩ := iteP R2 h2
      have l1 := rvs.length
      have l2 := rus.length
      have := SZ_le
      exact ⟨a1, a2, vs, us, rfl, rfl, by rw [← hK]; exact hs, by rw [← hK]; exact hs2, by omega, fun p n => h3 p _ n (rvs.append rus)⟩
    · exact h2.elim
theorem lk_dat {ρ : List Addr} {A : Hh} {H : Hp} {xs : List D} {y : D} {vs : List V} {u : V} {ps : List PyData} {p : PyData} (rvs : Rvs c ρ H xs vs) (ru : Rv c ρ H y u) (e1 : D.pys xs = some ps) (e2 : D.py y = some p) : DpAll c.K H vs ps ∧ Dp c.K H u p := ⟨rvs.dp e1, ru.dp e2⟩
theorem mL_ok {m : List D → D → Option D} {r : V → List V → Hp → VK → Prop} {id : String} {name : Str} (hm : MtR X id r) (slot : Slot "list" name id) (hty : typeOf (.builtin id) = pure (.type "method_descriptor")) (hK : c.K = X.K)
    (ok : ∀ ρ A H xs y (a : Addr) vs u d (Q : VK), Rel c ρ A H → SqL c.K H a vs → Rvs c ρ H xs vs → Rv c ρ H y u → m xs y = some d → (∀ v, Rv c ρ H d v → Q v H) → r (.ref a) [u] H Q)
    (ho : PE X o (tE c W fo)) (ha : PE X e (tE c W fa)) (hbase : attributeBase o name X.env (eval o X.env) = eval o X.env := by rfl)
    (hfew : ((backTo cpos (starEach [e] X.env)).all (fun x => !x.1) && (backToKw cpos (keywordEach [] X.env)).all (fun x => x.1.isSome)
      && decide (([e]).length + ([] : List Keyword).length + (if ([] : List Keyword).isEmpty then 0 else 1) < 30)) = true := by rfl)
    (hline : (apos.endLine == cpos.line) = true := by rfl) (hs : starEach [e] X.env = (false, eval e X.env) :: starEach [] X.env := by rfl) (hplain : (backTo cpos (starEach [] X.env)).any (·.1) = false := by rfl) :
    PE X (.Call (.Attribute o name apos) [e] [] cpos) (tE c W (zlkL m fo fa)) :=
  (pe_bm PySem.F.plainAttrs_list slot hty hm ho (pa1 ha hs) hbase hfew hline hs hplain).zm fun σ H Q ⟨ρ, A, σd, R, S, h⟩ => show tE c W fo σ H _ from one R S h fun x v ρ1 A1 H1 R1 s1 S1 rv h1 => by
    obtain ⟨q, e, h2⟩ := mapL (g := fun _ => ()) R1 (Ld.bind h1)
    rw [← hK]
    refine ⟨lst_ty R1 rv e, show tE c W fa σ H1 _ from one R1 S1 h2 fun y u ρ2 A2 H2 R2 s2 S2 ru h3 => ?_⟩
    split at h3
    · rename_i xs e2
      obtain ⟨a1, vs, rfl, hs, rvs⟩ := lstD_ok R2 (rv.to R1 s2) e2
      obtain ⟨d, e3, h4⟩ := mapL (g := fun d => d) R2 h3
      exact ok ρ2 A2 H2 xs y a1 vs u d Q R2 hs rvs ru e3 h4
    · exact h3.elim
theorem mT_ok {m : List D → D → Option D} {r : V → List V → Hp → VK → Prop} {id : String} {name : Str} (hm : MtR X id r) (slot : Slot "tuple" name id) (hty : typeOf (.builtin id) = pure (.type "method_descriptor")) (hK : c.K = X.K)
    (ok : ∀ ρ A H xs y (a : Addr) vs u d (Q : VK), Rel c ρ A H → SqT c.K H a vs → Rvs c ρ H xs vs → Rv c ρ H y u → m xs y = some d → (∀ v, Rv c ρ H d v → Q v H) → r (.ref a) [u] H Q)
    (ho : PE X o (tE c W fo)) (ha : PE X e (tE c W fa)) (hbase : attributeBase o name X.env (eval o X.env) = eval o X.env := by rfl)
    (hfew : ((backTo cpos (starEach [e] X.env)).all (fun x => !x.1) && (backToKw cpos (keywordEach [] X.env)).all (fun x => x.1.isSome)
      && decide (([e]).length + ([] : List Keyword).length + (if ([] : List Keyword).isEmpty then 0 else 1) < 30)) = true := by rfl)
    (hline : (apos.endLine == cpos.line) = true := by rfl) (hs : starEach [e] X.env = (false, eval e X.env) :: starEach [] X.env := by rfl) (hplain : (backTo cpos (starEach [] X.env)).any (·.1) = false := by rfl) :
    PE X (.Call (.Attribute o name apos) [e] [] cpos) (tE c W (zlkT m fo fa)) :=
  (pe_mG (fun pins σ H s x v => tyT_ok) PySem.F.plainAttrs_tuple slot hty hm ho (pa1 ha hs) hbase hfew hline hs hplain).zm fun σ H Q ⟨ρ, A, σd, R, S, h⟩ => show tE c W fo σ H _ from one R S h fun x v ρ1 A1 H1 R1 s1 S1 rv h1 => by
    cases rv <;> first | exact False.elim h1 | skip
    rename_i a1 xs vs t rr
    rw [← hK]
    refine ⟨⟨_, _, rfl, t⟩, show tE c W fa σ H1 _ from one R1 S1 (h1 : Ld c ρ1 H1 σ W (mb (fa σd) (fun y A => (m xs y).map fun d => .ok d A) A1) _) fun y u ρ2 A2 H2 R2 s2 S2 ru h3 => ?_⟩
    have rv2 := (Rv.tup t rr).to R1 s2
    cases rv2 with
    | tup t2 r2 =>
      obtain ⟨d, e3, h4⟩ := mapL (g := fun d => d) R2 h3
      exact ok ρ2 A2 H2 xs y a1 _ u d Q R2 t2.sq r2 ru e3 h4
theorem cntP_ok {xs : List D} {y d : D} (h : cntP xs y = some d) : ∃ ps p, D.pys xs = some ps ∧ D.py y = some p ∧ SeqAt.shaped (.list ps) = true ∧ SeqAt.shaped p = true ∧ d = .int ((ps.countP fun z => PyData.eqv z p : Nat) : Int) := by
  unfold cntP at h
  split at h
  · rename_i ps p e1 e2
    split at h
    · rename_i hz
      rw [Bool.and_eq_true] at hz
      cases h
      exact ⟨ps, p, e1, e2, hz.1, hz.2, rfl⟩
    · cases h
  · cases h
theorem idxP_ok {xs : List D} {y d : D} (h : idxP xs y = some d) : ∃ ps p j, D.pys xs = some ps ∧ D.py y = some p ∧ SeqAt.shaped (.list ps) = true ∧ SeqAt.shaped p = true ∧ ps.findIdx? (fun z => PyData.eqv z p) = some j ∧ d = .int (j : Nat) := by
  unfold idxP at h
  split at h
  · rename_i ps p e1 e2
    split at h
    · rename_i hz
      rw [Bool.and_eq_true] at hz
      obtain ⟨j, e3, e4⟩ := Option.map_eq_some_iff.mp h
      exact ⟨ps, p, j, e1, e2, hz.1, hz.2, e3, e4.symm⟩
    · cases h
  · cases h
theorem z_cntL (hK : c.K = X.K) (hu : X.A.units + 65 < cLine) (ho : PE X o (tE c W fo)) (ha : PE X e (tE c W fa)) (hbase : attributeBase o "count" X.env (eval o X.env) = eval o X.env := by rfl)
    (hfew : ((backTo cpos (starEach [e] X.env)).all (fun x => !x.1) && (backToKw cpos (keywordEach [] X.env)).all (fun x => x.1.isSome)
      && decide (([e]).length + ([] : List Keyword).length + (if ([] : List Keyword).isEmpty then 0 else 1) < 30)) = true := by rfl)
    (hline : (apos.endLine == cpos.line) = true := by rfl) (hs : starEach [e] X.env = (false, eval e X.env) :: starEach [] X.env := by rfl) (hplain : (backTo cpos (starEach [] X.env)).any (·.1) = false := by rfl) :
    PE X (.Call (.Attribute o "count" apos) [e] [] cpos) (tE c W (zlkL cntP fo fa)) :=
  mL_ok (mt_cntD hu) PySem.F.slot_list_count PySem.F.type_list_count hK (fun ρ A H xs y a vs u d Q R hs rvs ru h q => by
    obtain ⟨ps, p, e1, e2, h1, h2, rfl⟩ := cntP_ok h
    rw [hK] at hs
    exact ⟨a, u, p, ps, vs, rfl, rfl, hs, by rw [← hK]; exact rvs.dp e1, by rw [← hK]; exact ru.dp e2, h1, h2, q _ (.int _)⟩) ho ha hbase hfew hline hs hplain
theorem z_cntT (hK : c.K = X.K) (hu : X.A.units + 65 < cLine) (ho : PE X o (tE c W fo)) (ha : PE X e (tE c W fa)) (hbase : attributeBase o "count" X.env (eval o X.env) = eval o X.env := by rfl)
    (hfew : ((backTo cpos (starEach [e] X.env)).all (fun x => !x.1) && (backToKw cpos (keywordEach [] X.env)).all (fun x => x.1.isSome)
      && decide (([e]).length + ([] : List Keyword).length + (if ([] : List Keyword).isEmpty then 0 else 1) < 30)) = true := by rfl)
    (hline : (apos.endLine == cpos.line) = true := by rfl) (hs : starEach [e] X.env = (false, eval e X.env) :: starEach [] X.env := by rfl) (hplain : (backTo cpos (starEach [] X.env)).any (·.1) = false := by rfl) :
    PE X (.Call (.Attribute o "count" apos) [e] [] cpos) (tE c W (zlkT cntP fo fa)) :=
  mT_ok (mt_cntDT hu) PySem.F.slot_tuple_count PySem.F.type_tuple_count hK (fun ρ A H xs y a vs u d Q R hs rvs ru h q => by
    obtain ⟨ps, p, e1, e2, h1, h2, rfl⟩ := cntP_ok h
    rw [hK] at hs
    exact ⟨a, u, p, ps, vs, rfl, rfl, hs, by rw [← hK]; exact rvs.dp e1, by rw [← hK]; exact ru.dp e2, h1, h2, q _ (.int _)⟩) ho ha hbase hfew hline hs hplain
theorem z_idxL (hK : c.K = X.K) (hu : X.A.units + 65 < cLine) (ho : PE X o (tE c W fo)) (ha : PE X e (tE c W fa)) (hbase : attributeBase o "index" X.env (eval o X.env) = eval o X.env := by rfl)
    (hfew : ((backTo cpos (starEach [e] X.env)).all (fun x => !x.1) && (backToKw cpos (keywordEach [] X.env)).all (fun x => x.1.isSome)
      && decide (([e]).length + ([] : List Keyword).length + (if ([] : List Keyword).isEmpty then 0 else 1) < 30)) = true := by rfl)
    (hline : (apos.endLine == cpos.line) = true := by rfl) (hs : starEach [e] X.env = (false, eval e X.env) :: starEach [] X.env := by rfl) (hplain : (backTo cpos (starEach [] X.env)).any (·.1) = false := by rfl) :
    PE X (.Call (.Attribute o "index" apos) [e] [] cpos) (tE c W (zlkL idxP fo fa)) :=
  mL_ok (mt_idxDL hu) PySem.F.slot_list_index PySem.F.type_list_index hK (fun ρ A H xs y a vs u d Q R hs rvs ru h q => by
    obtain ⟨ps, p, j, e1, e2, h1, h2, h3, rfl⟩ := idxP_ok h
    rw [hK] at hs
    exact ⟨a, u, p, ps, vs, j, rfl, rfl, hs, by rw [← hK]; exact rvs.dp e1, by rw [← hK]; exact ru.dp e2, h1, h2, h3, q _ (.int _)⟩) ho ha hbase hfew hline hs hplain
theorem z_idxT (hK : c.K = X.K) (hu : X.A.units + 65 < cLine) (ho : PE X o (tE c W fo)) (ha : PE X e (tE c W fa)) (hbase : attributeBase o "index" X.env (eval o X.env) = eval o X.env := by rfl)
    (hfew : ((backTo cpos (starEach [e] X.env)).all (fun x => !x.1) && (backToKw cpos (keywordEach [] X.env)).all (fun x => x.1.isSome)
      && decide (([e]).length + ([] : List Keyword).length + (if ([] : List Keyword).isEmpty then 0 else 1) < 30)) = true := by rfl)
    (hline : (apos.endLine == cpos.line) = true := by rfl) (hs : starEach [e] X.env = (false, eval e X.env) :: starEach [] X.env := by rfl) (hplain : (backTo cpos (starEach [] X.env)).any (·.1) = false := by rfl) :
    PE X (.Call (.Attribute o "index" apos) [e] [] cpos) (tE c W (zlkT idxP fo fa)) :=
  mT_ok (mt_idxDT hu) PySem.F.slot_tuple_index PySem.F.type_tuple_index hK (fun ρ A H xs y a vs u d Q R hs rvs ru h q => by
    obtain ⟨ps, p, j, e1, e2, h1, h2, h3, rfl⟩ := idxP_ok h
    rw [hK] at hs
    exact ⟨a, u, p, ps, vs, j, rfl, rfl, hs, by rw [← hK]; exact rvs.dp e1, by rw [← hK]; exact ru.dp e2, h1, h2, h3, q _ (.int _)⟩) ho ha hbase hfew hline hs hplain
theorem log2_lt {n : Nat} (h : n < 10 ^ 100) : n.log2 < 1920 := by
  by_cases e : n = 0
  · subst e; decide
  · rw [Nat.log2_lt e]
    exact Nat.lt_trans h (by decide +kernel)
theorem z_str1 (hg : Gl X "str") (hm : X.mg "str" = none) (h : PE X e (tE c W fa)) (hs : starEach [e] X.env = (false, eval e X.env) :: starEach [] X.env := by rfl) (hpl : (backTo pos (starEach [] X.env)).any (·.1) = false := by rfl) :
    PE X (.Call (.Name "str" p) [e] [] pos) (tE c W (zstr fa)) :=
  (pe_callTy call_str_int hg hm boot_str (pa1 h hs) (he := hs) (hpl := hpl)).zm fun σ H Q ⟨ρ, A, σd, R, S, h⟩ => arg1 <| one R S h fun x v ρ1 A1 H1 R1 s1 S1 rv h1 => by
    cases rv <;> first | exact False.elim h1 | skip
    dsimp only at h1
    obtain ⟨hz, h2⟩ := iteP R1 h1
    exact ⟨_, rfl, log2_lt hz, h2 _ (.str _)⟩
end
end Z

noncomputable section
set_option maxHeartbeats 2000000
namespace L2
open PySem PySem.Spec PyProof.Rows
section
variable {X : Cx} {pins : List (Addr × Obj)} {σ : St} {H : Hp} {s : Shared} {pos p : Pos} {a : Addr}
theorem dct_new {P : Program} {w : World} {h : Heap} {ks : List (List Int × Addr × V)} {xs : List (List Int × Addr × Value)} (kv : Z.KvX ks xs) (d : Z.DctX P w a xs h) : ObjOk P w H h a (Z.DctO P w a ks) := by
  obtain ⟨nd, lo, o, es, ep, ho, hc, hd, he⟩ := id d
  refine ⟨⟨xs, kv, d⟩, ⟨o, ho⟩, fun h1 h2 ⟨ys, kv', nd', lo', o', es', ep', ho', r'⟩ k => ⟨ys, kv', nd', lo', o', es', ep', k o' ho', r'⟩⟩
/-- {}, an object -/
def tDNewI (P : Program) (w : World) : TE := fun _ H Q => ∀ p, H p = none → Q (.ref p) (upd H p (Z.DctO P w p []))
theorem pe_dnewI : PE X (.Dict [] [] pos) (tDNewI X.prog X.w) := ⟨fun pins s σ H Q I h =>
  wpAny_Dict_empty ⟨.ref s.heap.objs.size, _, I.laid (a := s.heap.objs.size) (o := Z.DctO X.prog X.w s.heap.objs.size []) (t' := s.toks) (fun _ _ q => Heap.get?_push_of_some _ q) (Nat.le_refl _)
    (dct_new (xs := []) .nil ⟨List.nodup_nil, beq_eq_false_iff_ne.mpr (Ne.symm (Nat.ne_of_lt I.big)), _, #[], 0, Heap.get?_push_size _ rfl, ⟨rfl, rfl, rfl⟩, rfl, rfl⟩), rfl, h _ (I.hok.fresh (Nat.le_refl _))⟩⟩
/-- sorted(d) -/
def rSortDT (K : PySem.W.Frag) (P : Program) (w : World) : List V → Hp → VK → Prop := fun vs H Q => ∃ (a : Addr) (ks : List (List Int × Addr × V)), vs = [V.ref a] ∧ H a = some (Z.DctO P w a ks) ∧ ks.length ≤ sizeLine ∧ (∀ q ∈ ks, SqT K H q.2.1 (q.1.map V.int) ∧ q.1 ≠ []) ∧
  ∀ (ys : List V) (p : Addr), ys.Perm (ks.map fun q => V.ref q.2.1) → ys.Pairwise (fun x y => ∀ n m, TupJ K H x n → TupJ K H y m → HT.lexLt m n = false) → H p = none → Q (.ref p) (upd H p (.lst ys))
theorem kvx_ref : ∀ {ks : List (List Int × Addr × V)} {xs : List (List Int × Addr × Value)}, Z.KvX ks xs → xs.map (fun q => (q.1, q.2.1)) = ks.map fun q => (q.1, q.2.1)
  | _, _, .nil => rfl
  | _, _, .cons ⟨e1, e2, _⟩ t => by
    rw [List.map_cons, List.map_cons, kvx_ref t, ← e1, ← e2]
theorem keys_refs {acc : Array Value} {es : Array DictEntry} {P : Program} {w : World} {xs : List (List Int × Addr × Value)} (he : es.toList = xs.map (entryOfKey (tupleKind (intKind P w)))) (h1 : acc.size = es.size) (h2 : ∀ i v, acc[i]? = some v → ∃ hi : i < es.size, v = es[i].key) :
    acc.toList = (xs.map fun q => q.2.1).map Value.ref := by
  have hl : es.size = xs.length := by rw [← Array.length_toList, he, List.length_map]
  apply List.ext_getElem?
  intro i
  rw [Array.getElem?_toList, List.getElem?_map, List.getElem?_map]
  by_cases hi : i < xs.length
  · have e1 : acc[i]? = some (acc[i]'(by omega)) := Array.getElem?_eq_getElem (by omega)
    obtain ⟨hj, e2⟩ := h2 i _ e1
    have e3 : es[i]? = some es[i] := Array.getElem?_eq_getElem hj
    rw [← Array.getElem?_toList, he, List.getElem?_map, List.getElem?_eq_getElem hi] at e3
    have e4 := Option.some.inj e3
    rw [e1, e2, ← e4, List.getElem?_eq_getElem hi]
    rfl
  · rw [List.getElem?_eq_none (by omega), Array.getElem?_eq_none (by omega)]
    rfl
theorem cr_sortDT (hcalm : X.calm = true) : CallR X (.builtin "sorted") (rSortDT X.K X.prog X.w) := by
  intro pins s σ H vs us Q I r h
  obtain ⟨a, ks, rfl, ha, hz, hk, q⟩ := h
  rw [Vals.ref1 r]
  obtain ⟨⟨xs, kv, nd, lo, o, es, ep, ho, hc, hd, he⟩, _, _⟩ := (show ObjOk X.prog X.w H s.heap a (Z.DctO X.prog X.w a ks) from I.hok a _ ha)
  have kr := kvx_ref kv
  have hxl : xs.length = ks.length := by have := congrArg List.length kr; simpa using this
  have hsz : es.size = xs.length := by rw [← Array.length_toList, he, List.length_map]
  have er : (xs.map fun q => q.2.1) = ks.map fun q => q.2.1 := by
    have := congrArg (List.map (·.2)) kr
    rw [List.map_map, List.map_map] at this
    exact this
  refine Calls.call_function_entry PyProof.Rows.kind_sorted PyProof.Rows.plain_sorted PyProof.Rows.entry_sorted (PyProof.Rows.args_sorted1 _) ?_
  unfold Builtin.«sorted»
  refine wpAny_bind (m := checkCount "sorted" 1 1 _) (wpAny_pure ?_)
  refine wpAny_bind (PySem.W.kdu_collect (A := X.A.in1) (PySem.KdlSrc.rawDict (es := es) (ep := ep) lo) (I.ok.hd hcalm) ⟨o, ho, hc, hd⟩ (by omega) fun h' tk acc hk' hacc => ?_)
  have hal : acc.toList = (ks.map fun q => q.2.1).map Value.ref := by rw [← er]; exact keys_refs he hacc.1 hacc.2
  obtain ⟨as, has⟩ : ∃ as, as = ks.map fun q => q.2.1 := ⟨_, rfl⟩
  rw [← has] at hal
  have hlen0 : (as.map Value.ref).length ≤ sizeLine := by rw [List.length_map, has, List.length_map]; exact hz
  have I1 : Inv X pins σ H { s with heap := h', toks := tk } := I.kept hk'
  have hK : ∀ v ∈ as.map Value.ref, SrtL.IsTI h' v (SrtL.kOf h' v) ∧ SrtL.kOf h' v ≠ [] := fun v hv => by
    obtain ⟨b, hb, rfl⟩ := List.mem_map.mp hv
    rw [has] at hb
    obtain ⟨qq, hq, rfl⟩ := List.mem_map.mp hb
    obtain ⟨ht, hne⟩ := hk qq hq
    have := tupJ_raw I1 ht
    rw [SrtL.kOf_eq this]
    exact ⟨this, hne⟩
  rw [hal]
  refine wpAny_bind (wpAny_newList ?_ hlen0)
  have hoL : (h'.push (seqObj "list" (as.map Value.ref).toArray 0)).get? h'.objs.size = some (seqObj "list" (as.map Value.ref).toArray 0) := Heap.get?_push_size _ rfl
  show wpAny _ _ _ _ _ { s with heap := h'.push (seqObj "list" (as.map Value.ref).toArray 0), toks := tk }
  refine wpAny_bind (wpAny_holding (wpAny_call_entry PyProof.Rows.slot_list_sort ⟨_, hoL, rfl⟩ PyProof.Rows.entry_list_sort
    (SrtO.list_sort_ord (s := { s with heap := h'.push (seqObj "list" (as.map Value.ref).toArray 0), toks := tk }) (SrtL.swo_k (SrtL.kOf h')) hoL hlen0 (fun h2 => ?_) fun out h1 h2 => ⟨_, rfl, ?_⟩) (PyProof.Rows.args_list_sort _)))
  · refine SrtL.tups_sortable (by omega) (fun v hm => ⟨(hK v hm).1.keeps fun b o e _ => Heap.get?_push_of_some _ e, (hK v hm).2⟩) fun o e => ?_
    have e' : some o = some (seqObj "list" (as.map Value.ref).toArray 0) := e.symm.trans hoL
    cases e'
    intro c
    exact absurd (Value.type.inj c) (by decide)
  · obtain ⟨ep', he'⟩ := PyProof.Rows.sortedHeap_at (vs := as.map Value.ref) (out := out.toArray) hoL
    have hp := h2.perm
    have hp3 : (out.map rA).Perm as := by
      have := hp.map rA
      rw [List.map_map] at this
      have e : (rA ∘ Value.ref) = id := rfl
      rwa [e, List.map_id] at this
    have eo : out = (out.map rA).map Value.ref := by
      rw [List.map_map]
      refine (List.map_id' out).symm.trans (List.map_congr_left fun v hv => ?_)
      obtain ⟨b, _, rfl⟩ := List.mem_map.mp (hp.mem_iff.mp hv)
      rfl
    have hlen : ((out.map rA).map V.ref).length ≤ sizeLine := by
      rw [List.length_map, hp3.length_eq]
      rw [List.length_map] at hlen0
      exact hlen0
    refine wpAny_pure ⟨_, rfl, .ref h'.objs.size, upd H h'.objs.size (.lst ((out.map rA).map V.ref)), I1.laid (t' := tk) (fun b u e => ?_) (Nat.le_refl _)
      (show ObjOk X.prog X.w _ _ _ (.lst ((out.map rA).map V.ref)) from ⟨hlen, out, ep', ?_, he'⟩), rfl, q _ _ ?_ ?_ (I1.hok.fresh (Nat.le_refl _))⟩
    · have hb : b < h'.objs.size := Heap.lt_size e
      rw [PyProof.Rows.sortedHeap_old (Nat.ne_of_lt hb) (by rw [size_push']; exact Nat.lt_succ_of_lt hb)]
      exact Heap.get?_push_of_some _ e
    · have := vals_refsZ (out.map rA)
      rw [← eo] at this
      exact this
    · have := hp3.map V.ref
      rw [has] at this
      have e : ks.map (fun q => V.ref q.2.1) = (ks.map fun q => q.2.1).map V.ref := by rw [List.map_map]; rfl
      rw [e]
      exact this
    · rw [List.pairwise_map, List.pairwise_map]
      refine List.Pairwise.imp_of_mem (fun {u v} hu hv huv n m hn hm => ?_) h1
      obtain ⟨t, et, ht⟩ := hn
      obtain ⟨t', et', ht'⟩ := hm
      obtain ⟨b, hb, rfl⟩ := List.mem_map.mp (hp.mem_iff.mp hu)
      obtain ⟨b', hb', rfl⟩ := List.mem_map.mp (hp.mem_iff.mp hv)
      cases et
      cases et'
      have huv' : HT.lexLt (SrtL.kOf h' (.ref b')) (SrtL.kOf h' (.ref b)) = false := huv
      rw [SrtL.kOf_eq (v := .ref b) (tupJ_raw I1 ht), SrtL.kOf_eq (v := .ref b') (tupJ_raw I1 ht')] at huv'
      exact huv'
/-- d[k] = v -/
def kvPut (ks : List (List Int × Addr × V)) (k : List Int) (b : Addr) (v : V) : List (List Int × Addr × V) := if ks.any (fun q => q.1 == k) then ks.map (fun q => if q.1 = k then (q.1, q.2.1, v) else q) else ks ++ [(k, b, v)]
def rSetDT (K : PySem.W.Frag) (P : Program) (w : World) : V → V → V → Hp → (Hp → Prop) → Prop := fun o i v H Q => ∃ (a b : Addr) (ks : List (List Int × Addr × V)) (k : List Int), o = .ref a ∧ i = .ref b ∧ H a = some (Z.DctO P w a ks) ∧ ks.length < sizeLine ∧
  (∀ q ∈ ks, SqT K H q.2.1 (q.1.map V.int)) ∧ SqT K H b (k.map V.int) ∧ Q (upd H a (Z.DctO P w a (kvPut ks k b v)))
theorem kvx_put {ks : List (List Int × Addr × V)} {xs : List (List Int × Addr × Value)} {k : List Int} {b : Addr} {v : V} {u : Value} (h : Z.KvX ks xs) (r : RelV v u) : Z.KvX (kvPut ks k b v) (storedH xs k b u) := by
  have e1 : ∀ {ks : List (List Int × Addr × V)} {xs : List (List Int × Addr × Value)}, Z.KvX ks xs → (atKey xs k).isSome = ks.any (fun q => q.1 == k) := by
    intro ks xs h
    induction h with
    | nil => rfl
    | @cons p q ks xs h t ih =>
      obtain ⟨q1, q2⟩ := q
      have h1 : p.1 = q1 := h.1
      rw [List.any_cons, h1, ← ih]
      unfold atKey
      by_cases e : q1 = k
      · simp [e]
      · simp [e]
  have e2 : ∀ {ks : List (List Int × Addr × V)} {xs : List (List Int × Addr × Value)}, Z.KvX ks xs → Z.KvX (ks.map (fun q => if q.1 = k then (q.1, q.2.1, v) else q)) (xs.map (putAt k u)) := by
    intro ks xs h
    induction h with
    | nil => exact .nil
    | @cons p q ks xs h t ih =>
      refine .cons ?_ ih
      unfold putAt
      dsimp only
      rw [← h.1]
      by_cases e : p.1 = k
      · rw [if_pos e, if_pos e]
        exact ⟨rfl, h.2.1, r⟩
      · rw [if_neg e, if_neg e]
        exact h
  have e3 : ∀ {ks : List (List Int × Addr × V)} {xs : List (List Int × Addr × Value)}, Z.KvX ks xs → Z.KvX (ks ++ [(k, b, v)]) (xs ++ [(k, b, u)]) := by
    intro ks xs h
    induction h with
    | nil => exact .cons ⟨rfl, rfl, r⟩ .nil
    | cons h t ih => exact .cons h ih
  unfold kvPut storedH
  rw [e1 h]
  by_cases q : ks.any (fun q => q.1 == k) = true
  · rw [if_pos q, if_pos q]
    exact e2 h
  · rw [if_neg q, if_neg q]
    exact e3 h
theorem mem_kvx {ks : List (List Int × Addr × V)} {xs : List (List Int × Addr × Value)} (h : Z.KvX ks xs) : ∀ x ∈ xs, ∃ q ∈ ks, q.1 = x.1 ∧ q.2.1 = x.2.1 := by
  induction h with
  | nil => intro x hx; cases hx
  | @cons p q ks xs h t ih =>
    intro x hx
    rcases List.mem_cons.mp hx with e | e
    · subst e
      exact ⟨p, List.mem_cons_self .., h.1, h.2.1⟩
    · obtain ⟨q, h1, h2⟩ := ih x e
      exact ⟨q, List.mem_cons_of_mem _ h1, h2⟩
theorem set_dctT (hu : X.A.units + 64 < cLine) : PSet X (rSetDT X.K X.prog X.w) := by
  intro pins s σ H o i v ov iv u Q I ro ri rv h
  obtain ⟨a, b, ks, k, rfl, rfl, ha, hz, hk, hb, q⟩ := h
  cases ro
  cases ri
  obtain ⟨⟨xs, kv, nd, lo, ob, es, ep, ho, hc, hd, he⟩, _, _⟩ := (show ObjOk X.prog X.w H s.heap a (Z.DctO X.prog X.w a ks) from I.hok a _ ha)
  have hxl : xs.length = ks.length := by have := congrArg List.length (kvx_ref kv); simpa using this
  have his : ∀ x ∈ xs, (tupleKind (intKind X.prog X.w)).is s.heap x.1 x.2.1 := fun x hx => by
    obtain ⟨qq, h1, h2, h3⟩ := mem_kvx kv x hx
    rw [← h2, ← h3]
    exact I.isT (hk qq h1)
  refine wpAny_setItem_heap (knd := tupleKind (intKind X.prog X.w)) (xs := xs) (by show X.A.units + 1 < cLine; omega) (I.isT hb) ⟨ob, es, ep, ho, hc, hd, he, his, nd⟩ (fun h' hm sb => ?_) (by omega)
  obtain ⟨o2, es2, ep2, ho2, hc2, hd2, he2, _, nd2⟩ := hm
  refine ⟨_, I.write (x := a) (e := a) (t' := s.toks + (tupleKind (intKind X.prog X.w)).draws k) (h' := h') (by rw [ha]; trivial) (.inl rfl) (fun c u hcn e => ?_) ⟨o2, ho2⟩ (o := Z.DctO X.prog X.w a (kvPut ks k b v)) (dct_new (kvx_put kv rv) ⟨nd2, lo, o2, es2, ep2, ho2, hc2, hd2, he2⟩), q⟩
  first | exact (sb.2 c hcn).trans e | exact sb.get hcn e | (rw [sb c hcn]; exact e)
end
end L2
namespace Z
open PySem PySem.Spec PyProof.Rows L2
/-- {}, a new object -/
def znewI : Ev D := fun _ => alloc (.dct [])
def dPut (kvs : List (List Int × D)) (k : List Int) (d : D) : List (List Int × D) := if kvs.any (fun p => p.1 == k) then kvs.map (fun p => if p.1 = k then (p.1, d) else p) else kvs ++ [(k, d)]
def setI (A : Hh) (x y d : D) : Option Hh := match x, y with
  | .ref n, .tup xs => match A[n]?, intsOf xs with
    | some (.dct kvs), some k => if kvs.length < SZ then some (A.set n (.dct (dPut kvs k d))) else none
    | _, _ => none
  | _, _ => none
/-- d[k] = v, k a tuple of ints -/
def gsubI (o i : Ev D) : Gv := fun d σ => mb (o σ) fun x => mb (i σ) fun y A => (setI A x y d).map fun A' => .ok σ A'
def keysI (A : Hh) : D → Option (List (List Int))
  | .ref n => match A[n]? with
    | some (.dct kvs) => if kvs.length ≤ SZ ∧ (kvs.all fun p => !p.1.isEmpty) = true then some (kvs.map (·.1)) else none
    | _ => none
  | _ => none
/-- sorted(d) -/
def zsortD (o : Ev D) : Ev (List D) := fun σ => mb (o σ) fun x A => (keysI A x).map fun ts => .ok ((ts.mergeSort leL).map tupD) A
section
variable {X : Cx} {c : Cn} {W : WX} {a b d e o i tg : Expr} {fa fb fd fo fi : Ev D} {pos p : Pos} {ρ : List Addr} {H : Hp}
theorem z_newI (hP : c.P = X.prog ∧ c.w = X.w) : PE X (.Dict [] [] pos) (tE c W znewI) :=
  pe_dnewI.zm fun σ H Q ⟨ρ, A, σd, R, S, h⟩ => fun p n => by
    obtain ⟨R2, s2⟩ := R.made (o := .dct []) (ho := DctO c.P c.w p []) n ⟨[], rfl, .nil⟩
    rw [← hP.1, ← hP.2]
    refine h _ _ R2 s2 _ (.ref ?_)
    rw [← R.len, List.getElem?_append_right (Nat.le_refl _), Nat.sub_self]
    rfl
theorem Rkv.sz : ∀ {kvs : List (List Int × D)} {ks : List (List Int × Addr × V)}, Rkv c ρ H kvs ks → ks.length = kvs.length
  | _, _, .nil => rfl
  | _, _, .cons _ _ t => by rw [List.length_cons, List.length_cons, Rkv.sz t]
theorem tupK {k : List Int} {ka : Addr} (r : Rv c ρ H (.tup (k.map .int)) (.ref ka)) : SqT c.K H ka (k.map V.int) := by
  cases r with
  | tup h t => rw [← t.ints (intsOf_ints k)]; exact h.sq
theorem Rkv.keys : ∀ {kvs : List (List Int × D)} {ks : List (List Int × Addr × V)}, Rkv c ρ H kvs ks → ∀ q ∈ ks, SqT c.K H q.2.1 (q.1.map V.int) ∧ ∃ p ∈ kvs, p.1 = q.1
  | _, _, .nil, _, hq => absurd hq List.not_mem_nil
  | _, _, .cons r _ t, q, hq => by
    rcases List.mem_cons.mp hq with e | e
    · subst e
      exact ⟨tupK r, _, List.mem_cons_self .., rfl⟩
    · obtain ⟨h1, p, h2, h3⟩ := Rkv.keys t q e
      exact ⟨h1, p, List.mem_cons_of_mem _ h2, h3⟩
theorem Rkv.refs : ∀ {kvs : List (List Int × D)} {ks : List (List Int × Addr × V)}, Rkv c ρ H kvs ks → Rvs c ρ H ((kvs.map (·.1)).map tupD) (ks.map fun q => V.ref q.2.1)
  | _, _, .nil => .nil
  | _, _, .cons r _ t => .cons r (Rkv.refs t)
theorem Rkv.put {kvs : List (List Int × D)} {ks : List (List Int × Addr × V)} {k : List Int} {d : D} {b : Addr} {v : V} (h : Rkv c ρ H kvs ks) (rk : Rv c ρ H (.tup (k.map .int)) (.ref b)) (rd : Rv c ρ H d v) : Rkv c ρ H (dPut kvs k d) (kvPut ks k b v) := by
  have e1 : ∀ {kvs : List (List Int × D)} {ks : List (List Int × Addr × V)}, Rkv c ρ H kvs ks → kvs.any (fun p => p.1 == k) = ks.any (fun q => q.1 == k) := by
    intro kvs ks h
    induction h with
    | nil => rfl
    | cons _ _ _ ih => rw [List.any_cons, List.any_cons, ih]
  have e2 : ∀ {kvs : List (List Int × D)} {ks : List (List Int × Addr × V)}, Rkv c ρ H kvs ks → Rkv c ρ H (kvs.map (fun p => if p.1 = k then (p.1, d) else p)) (ks.map (fun q => if q.1 = k then (q.1, q.2.1, v) else q)) := by
    intro kvs ks h
    induction h with
    | nil => exact .nil
    | @cons k0 d0 ka v0 kvs ks r r2 t ih =>
      rw [List.map_cons, List.map_cons]
      dsimp only
      by_cases e : k0 = k
      · rw [if_pos e, if_pos e]
        exact .cons r rd ih
      · rw [if_neg e, if_neg e]
        exact .cons r r2 ih
  have e3 : ∀ {kvs : List (List Int × D)} {ks : List (List Int × Addr × V)}, Rkv c ρ H kvs ks → Rkv c ρ H (kvs ++ [(k, d)]) (ks ++ [(k, b, v)]) := by
    intro kvs ks h
    induction h with
    | nil => exact .cons rk rd .nil
    | cons r r2 t ih => exact .cons r r2 ih
  unfold dPut kvPut
  rw [e1 h]
  by_cases q : ks.any (fun q => q.1 == k) = true
  · rw [if_pos q, if_pos q]
    exact e2 h
  · rw [if_neg q, if_neg q]
    exact e3 h
theorem Rel.dct (R : Rel c ρ A H) {n : Nat} {v : V} {kvs : List (List Int × D)} (hA : A[n]? = some (.dct kvs)) (r : Rv c ρ H (.ref n) v) : ∃ a ks, v = .ref a ∧ ρ[n]? = some a ∧ H a = some (DctO c.P c.w a ks) ∧ Rkv c ρ H kvs ks := by
  cases r with
  | ref h =>
    obtain ⟨ho, h1, ks, e, h3⟩ := R.obj _ _ _ hA h
    subst e
    exact ⟨_, ks, rfl, h, h1, h3⟩
theorem g_subI (hK : c.K = X.K) (hP : c.P = X.prog ∧ c.w = X.w) (hu : X.A.units + 65 < cLine) (ho : PE X o (tE c WN fo)) (hi : PE X i (tE c WN fi))
    (ha : ∀ v, assign (.Subscript o i pos) X.env v = (do
      let ov ← holding [v] (eval o X.env)
      let iv ← holding [v, ov] (eval i X.env)
      standAt pos
      holding [v, ov, iv] (setItem ov iv v)
      release [v, ov, iv] []) := by intro _; rfl) : PG X (.Subscript o i pos) (tG c false [] (gsubI fo fi)) :=
  (pg_sub ho hi (set_dctT (by omega)) ha).zm fun v σ H Q ⟨d, ρ, A, σd, R, S, r, h⟩ => by
    have r' : Rv c ρ H d v := by simpa using r
    refine show tE c WN fo σ H _ from one R S h fun x xv ρ1 A1 H1 R1 s1 S1 rx h1 => show tE c WN fi σ H1 _ from one R1 S1 h1 fun y yv ρ2 A2 H2 R2 s2 S2 ry h2 => ?_
    have rx2 := rx.to R1 s2
    have rv2 := (r'.to R s1).to R1 s2
    cases q : setI A2 x y d with
    | none => rw [q] at h2; exact h2.elim
    | some A3 =>
      rw [q] at h2
      unfold setI at q
      split at q
      · rename_i n xs
        split at q
        · rename_i kvs k hA hk
          split at q
          · rename_i hz
            cases q
            obtain ⟨a, ks, rfl, h3, h4, h5⟩ := R2.dct hA rx2
            have ex := intsOf_map hk
            subst ex
            obtain ⟨b, us, rfl, _⟩ : ∃ b us, yv = .ref b ∧ SqT c.K H2 b us := by
              cases ry with
              | tup h t => exact ⟨_, _, rfl, h.sq⟩
            obtain ⟨R3, s3⟩ := R2.wrote (o := .dct (dPut kvs k d)) h3 (ho := DctO c.P c.w a (kvPut ks k b v)) ⟨_, rfl, h5.put ry rv2⟩
            have hl := h5.sz
            have := SZ_le
            refine ⟨a, b, ks, k, rfl, rfl, by rw [h4, hP.1, hP.2], by omega, fun q hq => by rw [← hK]; exact (h5.keys q hq).1, by rw [← hK]; exact tupK ry, ?_⟩
            rw [← hP.1, ← hP.2]
            exact h2 _ _ R3 s3 σ (S2.to R2 s3) (Same.refl _ _)
          · cases q
        · cases q
      · cases q
theorem z_sortD (hK : c.K = X.K) (hP : c.P = X.prog ∧ c.w = X.w) (hcm : X.calm = true) (hg : Gl X "sorted") (hm : X.mg "sorted" = none) (h : PE X e (tE c W fo)) (hs : starEach [e] X.env = (false, eval e X.env) :: starEach [] X.env := by rfl) (hpl : (backTo pos (starEach [] X.env)).any (·.1) = false := by rfl) :
    PE X (.Call (.Name "sorted" p) [e] [] pos) (tN c W (zsortD fo)) :=
  (pe_callB (cr_sortDT hcm) hg hm boot_sorted (pa1 h hs) (he := hs) (hpl := hpl)).zm fun σ H Q ⟨ρ, A, σd, R, S, h⟩ => arg1 <| one R S h fun x xv ρ1 A1 H1 R1 s1 S1 rx h1 => by
    cases q : keysI A1 x with
    | none => rw [q] at h1; exact h1.elim
    | some ts =>
      rw [q] at h1
      unfold keysI at q
      split at q
      · rename_i n
        split at q
        · rename_i kvs hA
          split at q
          · rename_i hz
            cases q
            obtain ⟨a, ks, rfl, h3, h4, h5⟩ := R1.dct hA rx
            have hl := h5.sz
            have := SZ_le
            refine ⟨a, ks, rfl, by rw [h4, hP.1, hP.2], by omega, fun q hq => ?_, fun ys p pm pw n => ?_⟩
            · obtain ⟨k1, pp, k2, k3⟩ := h5.keys q hq
              refine ⟨by rw [← hK]; exact k1, fun z => ?_⟩
              have := List.all_eq_true.mp hz.2 pp k2
              rw [k3, z] at this
              cases this
            · obtain ⟨zs, py, ry⟩ := h5.refs.perm pm
              obtain ⟨ms, e5, pms⟩ := perm_tups py
              subst e5
              have pw3 := tups_pwL ry (by rw [hK]; exact pw)
              rw [uniq_tups pms pw3] at ry
              exact (h1 _ _ R1 .refl) p ys n ry
          · cases q
        · cases q
      · cases q
end
end Z

noncomputable section
set_option maxHeartbeats 2000000
namespace L2
open PySem PySem.Spec PyProof.Rows
section
variable {X : Cx} {pins : List (Addr × Obj)} {σ : St} {H : Hp} {s : Shared} {pos p p1 p2 p3 : Pos}
/-- a tuple of texts that the module keeps -/
def tupSB (x : Str) (zs : List Str) (K : PySem.W.Frag) : Bool := match K.lookup (He.ga K x) with
  | some ⟨c, d, .seq its _, _⟩ => decide (c = .type "tuple") && (d.isNone && (decide (its.size ≤ 1000) && He.relAll (zs.map V.str) its.toList))
  | _ => false
def TupSF (K : PySem.W.Frag) (a : Addr) (zs : List Str) : Prop := ∃ (o : Obj) (its : Array Value) (n : Nat), K.lookup a = some o ∧ o.cls = .type "tuple" ∧ o.dict = none ∧ o.data = .seq its n ∧ its.size ≤ sizeLine ∧ Vals (zs.map V.str) its.toList
theorem tupSB_ok {x : Str} {zs : List Str} {K : PySem.W.Frag} (h : tupSB x zs K = true) : TupSF K (He.ga K x) zs := by
  unfold tupSB at h
  split at h
  · rename_i c d its n sl e
    simp only [Bool.and_eq_true, decide_eq_true_eq] at h
    exact ⟨_, its, n, e, h.1, Option.isNone_iff_eq_none.mp h.2.1, rfl, by rw [sizeLine_eq]; have := h.2.2.1; omega, He.relAll_ok h.2.2.2⟩
  · cases h
/-- x == () -/
def rEqE (K : PySem.W.Frag) : R2 := fun x y H Q => ∃ a b xs, x = .ref a ∧ y = .ref b ∧ SqT K H a xs ∧ SqT K H b [] ∧ Q (.bl xs.isEmpty) H
theorem op_eqE (hu : X.A.units + 64 < cLine) : OpR X (compareOp .Eq) (rEqE X.K) := by
  intro pins s σ H x y v u Q I rx ry ⟨a, b, xs, e1, e2, ha, hb, q⟩
  subst e1 e2
  cases rx; cases ry
  obtain ⟨its, r1, p1, _⟩ := I.tuple ha
  obtain ⟨jts, r2, p2, _⟩ := I.tuple hb
  cases r2
  refine SeqAt.RcAt.tuples (e := fun _ => true) p1 p2 (by omega) (fun j _ h2 => absurd h2 (Nat.not_lt_zero _)) X.prog X.w X.xe _ ?_
  have e : ((List.range (min its.toArray.size ([] : List Value).toArray.size)).all (fun _ => true) && its.toArray.size == ([] : List Value).toArray.size) = xs.isEmpty := by
    have hl := r1.length
    cases its with
    | nil =>
      cases r1
      rfl
    | cons v vs =>
      cases r1
      simp
  rw [e]
  exact ⟨.bl _, H, I, rfl, q⟩
theorem adjust_rev (n : Nat) : Builtin.Slice.sliceAdjust none none (-1) (n : Int) = ((n : Int) - 1, -1) := by
  unfold Builtin.Slice.sliceAdjust
  first | rfl | simp
theorem places_rev (n : Nat) : Builtin.Slice.slicePlaces ((n : Int) - 1) (-1) (-1) = n := by
  unfold Builtin.Slice.slicePlaces
  by_cases h : 0 < n
  · simp
    omega
  · have : n = 0 := by omega
    subst this
    simp
theorem pick_rev (xs : Array Value) : ((List.range xs.size).filterMap fun (m : Nat) => xs[(((xs.size : Int) - 1) + (m : Int) * (-1)).toNat]?).toArray = xs.toList.reverse.toArray := by
  congr 1
  have h1 : ((List.range xs.size).filterMap fun (m : Nat) => xs[(((xs.size : Int) - 1) + (m : Int) * (-1)).toNat]?) = (((List.range xs.size).map fun k => xs.size - 1 - k).filterMap (xs[·]?)) := by
    have e0 : (fun (m : Nat) => xs[(((xs.size : Int) - 1) + (m : Int) * (-1)).toNat]?) = (fun (j : Nat) => xs[j]?) ∘ fun (m : Nat) => (((xs.size : Int) - 1) + (m : Int) * (-1)).toNat := rfl
    rw [e0, ← List.filterMap_map]
    congr 1
    refine List.map_congr_left fun m hm => ?_
    have := List.mem_range.mp hm
    omega
  rw [h1, PySem.W.krv_range, List.filterMap_reverse, PySem.W.krv_all]
theorem getItem_tuple_rev {prog : Program} {w : World} {A : Around} {E : Value → Shared → Prop} {t sl : Addr} {items : Array Value} {vs : Value} {Q : Value → Shared → Prop} (ht : IsTup s.heap t items) (hs : s.heap.IsSliceOf sl .none .none vs) (ps : IsPart vs (some (-1)))
    (h : Q (.ref s.heap.objs.size) { s with heap := s.heap.push { cls := .type "tuple", data := .seq items.toList.reverse.toArray } })
    (hsz : items.size ≤ sizeLine) : wpAny (model prog w) A (getItem (.ref t) (.ref sl)) Q E s := by
  have htake : sizeOk (.seq items.toList.reverse.toArray) := by
    show items.toList.reverse.toArray.size ≤ sizeLine
    rw [List.size_toArray, List.length_reverse, Array.length_toList]
    exact hsz
  obtain ⟨os, hos, hcs, hds⟩ := id hs
  have hTs : s.TypeIs (.ref sl) "slice" := ⟨os, hos, hcs⟩
  unfold getItem
  try with_reducible refine wpAny_holding ?_
  first | refine wpAny_bind (wpAny_pure ?_) | skip
  refine wpAny_bind (wpAny_sequenceKey ht.typeIs (by decide) ?_)
  refine wpAny_bind (wpAny_callSpecial?_slot (name := Str.ofString "__getitem__") ht.typeIs PyProof.Rows.slot_tuple_getitem
    (wpAny_call_entry PyProof.Rows.slot_tuple_getitem ht.typeIs entry_tuple_getitem ?_ (args_tuple_getitem _ _)))
  show wpAny _ _ (Builtin.Tuple.tupleItemsOf (.ref t) >>= _) _ _ s
  refine wpAny_bind (tupleItemsOf_ ht ?_)
  refine wpAny_bind (wpAny_typeOf hTs ?_)
  rw [if_pos (by decide)]
  refine wpAny_bind ?_
  unfold Builtin.Slice.sliceApplied Builtin.Slice.sliceFields
  refine wpAny_bind (wpAny_bind (wpAny_field hos hds (x := .none) rfl (wpAny_bind (wpAny_field hos hds (x := .none) rfl (wpAny_bind (wpAny_field hos hds (x := vs) rfl (wpAny_pure ?_)))))))
  refine wpAny_bind (HT.slicePart_ ps ?_)
  show wpAny _ _ (if ((-1 : Int) == 0) = true then _ else _) _ _ s
  rw [if_neg (by decide)]
  refine wpAny_bind (HT.slicePart_ (.none) (wpAny_bind (HT.slicePart_ (.none) (wpAny_bind (wpAny_pure ?_)))))
  show wpAny _ _ (match Builtin.Slice.sliceAdjust none none (-1) (items.size : Int) with | (lo, hi) => pure (lo, (-1 : Int), Builtin.Slice.slicePlaces lo hi (-1))) _ _ s
  rw [adjust_rev]
  show wpAny _ _ (pure ((items.size : Int) - 1, (-1 : Int), Builtin.Slice.slicePlaces ((items.size : Int) - 1) (-1) (-1))) _ _ s
  rw [places_rev]
  refine wpAny_pure ?_
  have hno : ¬ (((((items.size : Int) - 1)) == 0 && (-1 : Int) == 1 && items.size == items.size) = true) := by
    simp
  show wpAny _ _ (if (((items.size : Int) - 1) == 0 && (-1 : Int) == 1 && items.size == items.size) = true then _ else _) _ _ s
  rw [if_neg hno, pick_rev]
  first
    | exact wpAny_bind (m := Builtin.Tuple.tupleExact _) (wpAny_newObj_type (wpAny_pure ⟨_, rfl, wpAny_pure h⟩) htake)
    | exact wpAny_bind (m := Builtin.Tuple.tupleExact _) (wpAny_newObj_type (wpAny_bind (wpAny_pure (wpAny_pure ⟨_, rfl, wpAny_pure h⟩))) htake)
    | exact wpAny_bind (wpAny_bind (m := Builtin.Tuple.tupleExact _) (wpAny_newObj_type (wpAny_pure (wpAny_pure ⟨_, rfl, wpAny_pure h⟩)) htake))
    | exact wpAny_bind (wpAny_bind (m := Builtin.Tuple.tupleExact _) (wpAny_newObj_type (wpAny_pure ⟨_, rfl, wpAny_pure h⟩) htake))
/-- t[::-1] -/
def tRevF (K : PySem.W.Frag) (te : TE) : TE := fun σ H Q => te σ H fun x H1 => ∃ a xs, x = .ref a ∧ SqT K H1 a xs ∧ ∀ p o, H1 p = none → o.dict = none → Q (.ref p) (upd H1 p (.frz o (.tup xs.reverse)))
theorem pe_revF {e : Expr} {te : TE} {k : Nat} (he : PE X e te) : PE X (.Subscript e (.Slice none none (some (.UnaryOp .USub (.Constant (.int 1) k p1) p2)) p3) pos) (tRevF X.K te) := by
  refine ⟨fun pins s σ H Q I h => ?_⟩
  refine Subscript_ (thn (he.run pins s σ H _ I h) fun v s1 ⟨x, H1, I1, r1, q1⟩ => ?_)
  obtain ⟨a, xs, ex, hx, q⟩ := q1
  subst ex
  cases r1
  have hst : PO X (some (.UnaryOp .USub (.Constant (.int 1) k p1) p2)) (tPart (tUn (rU fun i => .int (-i)) (tC (.int 1)))) := po_some (pe_un un_neg pe_int)
  refine wpAny_Slice (thn (po_none.run pins s1 σ H1 (fun o H2 => o = none ∧ H2 = H1) I1 ⟨rfl, rfl⟩) fun vl s2 ⟨l, H2, I2, pl, el, e2⟩ => ?_)
  subst el e2
  refine thn (po_none.run pins s2 σ H2 (fun o H3 => o = none ∧ H3 = H2) I2 ⟨rfl, rfl⟩) fun vu s3 ⟨u, H3, I3, pu, eu, e3⟩ => ?_
  subst eu e3
  refine thn (hst.run pins s3 σ H3 (fun o H4 => o = some (-1) ∧ H4 = H3) I3 ⟨1, rfl, -1, rfl, rfl, rfl⟩) fun vs s4 ⟨o, H4, I4, ps, eo, e4⟩ => ?_
  subst eo e4
  have I5 : Inv X pins σ H4 { s4 with heap := s4.heap.push { cls := .type "slice", data := .fields #[vl, vu, vs] } } := I4.kept (t' := s4.toks) fun b ob q => Heap.get?_push_of_some _ q
  obtain ⟨its, r, ht, hz⟩ := I5.tuple hx
  have hlen := r.length
  cases pl
  cases pu
  show wpAny (model X.prog X.w) X.A (subscriptTail e (.Slice none none (some (.UnaryOp .USub (.Constant (.int 1) k p1) p2)) p3) (.ref a) (.ref s4.heap.objs.size)) (EP X pins σ Q) X.xe { s4 with heap := s4.heap.push { cls := .type "slice", data := .fields #[.none, .none, vs] } }
  refine tail_any (ops := [.ref a, .ref s4.heap.objs.size]) ht.typeIs (PyProof.Rows.slot_tuple_getitem.lookup) ?_ (by with_unfolding_all rfl)
  refine getItem_tuple_rev ht (Heap.IsSliceOf.new _ .none .none vs) ps ?_ (by rw [List.size_toArray]; omega)
  exact Z.tp_fin (s := { s4 with heap := s4.heap.push { cls := .type "slice", data := .fields #[.none, .none, vs] } }) (tk := s4.toks) I5 (by simpa using r.reverse) (by rw [List.length_reverse]; exact hz) q
end
end L2
namespace Z
open PySem PySem.Spec PyProof.Rows L2
/-- t[::-1] -/
def zrevT (a : Ev D) : Ev D := fun σ => mb (a σ) fun x => match x with
  | .tup xs => ok (.tup xs.reverse)
  | _ => fun _ => none
section
variable {X : Cx} {c : Cn} {W : WX} {a b d e o i tg : Expr} {fa fb fd fo fi : Ev D} {pos p p1 p2 p3 : Pos} {ρ : List Addr} {H : Hp} {k : Nat} {x : Str}
theorem z_revT (hK : c.K = X.K) (h : PE X e (tE c W fo)) : PE X (.Subscript e (.Slice none none (some (.UnaryOp .USub (.Constant (.int 1) k p1) p2)) p3) pos) (tE c W (zrevT fo)) :=
  (pe_revF h).zm fun σ H Q ⟨ρ, A, σd, R, S, h⟩ => one R S h fun x xv ρ1 A1 H1 R1 s1 S1 rx h1 => by
    cases rx <;> first | exact False.elim h1 | skip
    rename_i a xs vs t r
    refine ⟨a, vs, rfl, by rw [← hK]; exact t.sq, fun p o n hd => ?_⟩
    obtain ⟨R2, s2, _⟩ := R1.laid (ho := .frz o (.tup vs.reverse)) n
    exact h1 ρ1 _ R2 s2 _ (.tup (.inl ⟨o, upd_same, hd⟩) ((r.to R1 s2).rev))
theorem z_gtup {zs : List Str} {g : Addr} (hK : c.K = X.K) (hg : Gl X x) (hm : X.mg x = some (.ref g)) (F : TupSF X.K g zs) (hd : (x == ("__debug__" : Str)) = false := by decide) : PE X (.Name x pos) (tE c W (zc (.tup (zs.map .str)))) := by
  obtain ⟨o, its, n, h1, h2, h3, h4, h5, h6⟩ := F
  exact (pe_glob (v := .ref g) hg hm rfl hd).zm fun σ H Q ⟨ρ, A, σd, R, S, h⟩ => h.old R (.tup (.inr ⟨o, its, n, by rw [hK]; exact h1, h2, h3, h4, h5, h6⟩) (Rvs.of_strs zs))
theorem cok_isB : COk X c .isB .Is := by
  refine ⟨_, op_isBl, fun ρ A H x y v u Q k R rv ru e q => ?_⟩
  cases rv <;> cases ru <;> first | (simp [copD] at e; done) | skip
  simp only [copD, Option.some.injEq] at e
  subst e
  exact ⟨_, _, rfl, rfl, q⟩
theorem cok_notB : COk X c .notB .IsNot := by
  refine ⟨_, op_notBl, fun ρ A H x y v u Q k R rv ru e q => ?_⟩
  cases rv <;> cases ru <;> first | (simp [copD] at e; done) | skip
  simp only [copD, Option.some.injEq] at e
  subst e
  exact ⟨_, _, rfl, rfl, q⟩
theorem cok_eqE (hu : X.A.units + 65 < cLine) (hK : c.K = X.K) : COk X c .eqE .Eq := by
  refine ⟨_, op_eqE (by omega), fun ρ A H x y v u Q k R rv ru e q => ?_⟩
  cases rv <;> cases ru <;> first | (simp [copD] at e; done) | skip
  rename_i a xs vs t r b ys us t2 r2
  cases ys with
  | cons _ _ => simp [copD] at e
  | nil =>
    simp only [copD, Option.some.injEq] at e
    subst e
    cases r2
    refine ⟨a, b, vs, rfl, rfl, by rw [← hK]; exact t.sq, by rw [← hK]; exact t2.sq, ?_⟩
    have : vs.isEmpty = xs.isEmpty := by
      cases r <;> rfl
    rw [this]
    exact q
end
end Z
namespace Z
theorem ba2 {a b : Bool} (h : (a && b) = true) : a = true ∧ b = true := by simpa using h
end Z

noncomputable section
set_option maxHeartbeats 2000000
namespace L2
open PySem PySem.Spec PyProof.Rows
section
variable {X : Cx}
/-- d[k] = v -/
def rSetDK : V → V → V → Hp → (Hp → Prop) → Prop := fun o i v H Q => ∃ (a : Addr) (H' : Hp), o = .ref a ∧ DPut H a i v H' ∧ Q H'
theorem set_dck (hu : X.A.units + 64 < cLine) : PSet X rSetDK := by
  intro pins s σ H o i v ov iv u Q I ro ri rv h
  obtain ⟨a, H', rfl, g, q⟩ := h
  cases ro
  exact d_setItem (by omega) I g ri rv fun s' I' => ⟨_, I', q⟩
theorem op_inDK (hu : X.A.units + 1 < cLine) : OpR X (compareOp .In) (fun x y H Q => ∃ a o, y = .ref a ∧ DGet H a x o ∧ Q (.bl o.isSome) H) := by
  intro pins s σ H x y v u Q I rv ru ⟨a, o, e, g, q⟩
  subst e
  cases ru
  exact d_in hu I g rv fun s' I' => ⟨.bl o.isSome, _, I', rfl, q⟩
theorem op_notInDK (hu : X.A.units + 1 < cLine) : OpR X (compareOp .NotIn) (fun x y H Q => ∃ a o, y = .ref a ∧ DGet H a x o ∧ Q (.bl (!o.isSome)) H) := by
  intro pins s σ H x y v u Q I rv ru ⟨a, o, e, g, q⟩
  subst e
  cases ru
  exact d_notIn hu I g rv fun s' I' => ⟨.bl (!o.isSome), _, I', rfl, q⟩
end
end L2
namespace Z
open PySem PySem.Spec PyProof.Rows L2
/-- {}, a new object -/
def znewK : Ev D := fun _ => alloc (.dck [])
def kPut (kvs : List (Key × D)) (k : Key) (d : D) : List (Key × D) := if kvs.any (fun kv => decide (kv.1 = k)) then kvs.map (fun kv => if kv.1 = k then (kv.1, d) else kv) else kvs ++ [(k, d)]
def setK (A : Hh) (x y d : D) : Option Hh := match x, y with
  | .ref n, .int k => match A[n]? with
    | some (.dck kvs) => if kvs.length < SZ then some (A.set n (.dck (kPut kvs (.inl k) d))) else none
    | _ => none
  | _, _ => none
/-- d[k] = v, k an int -/
def gsubK (o i : Ev D) : Gv := fun d σ => mb (o σ) fun x => mb (i σ) fun y A => (setK A x y d).map fun A' => .ok σ A'
section
variable {X : Cx} {c : Cn} {W : WX} {a b d e o i tg : Expr} {fa fb fd fo fi : Ev D} {pos p : Pos} {ρ : List Addr} {H : Hp} {A : Hh}
theorem z_newK : PE X (.Dict [] [] pos) (tE c W znewK) :=
  pe_dnewK.zm fun σ H Q ⟨ρ, A, σd, R, S, h⟩ => fun p n => by
    obtain ⟨R2, s2⟩ := R.made (o := .dck []) (ho := .dK []) n ⟨[], rfl, .nil⟩
    refine h _ _ R2 s2 _ (.ref ?_)
    rw [← R.len, List.getElem?_append_right (Nat.le_refl _), Nat.sub_self]
    rfl
theorem Rck.sz : ∀ {kvs : List (Key × D)} {ks : List (Key × V)}, Rck c ρ H kvs ks → ks.length = kvs.length
  | _, _, .nil => rfl
  | _, _, .cons _ t => by rw [List.length_cons, List.length_cons, Rck.sz t]
theorem Rck.put {kvs : List (Key × D)} {ks : List (Key × V)} {k : Key} {d : D} {v : V} (h : Rck c ρ H kvs ks) (rd : Rv c ρ H d v) : Rck c ρ H (kPut kvs k d) (putK ks k v) := by
  have e1 : ∀ {kvs : List (Key × D)} {ks : List (Key × V)}, Rck c ρ H kvs ks → kvs.any (fun p => decide (p.1 = k)) = ks.any (fun q => decide (q.1 = k)) := by
    intro kvs ks h
    induction h with
    | nil => rfl
    | cons _ _ ih => rw [List.any_cons, List.any_cons, ih]
  have e2 : ∀ {kvs : List (Key × D)} {ks : List (Key × V)}, Rck c ρ H kvs ks → Rck c ρ H (kvs.map (fun p => if p.1 = k then (p.1, d) else p)) (ks.map (fun q => if q.1 = k then (q.1, v) else q)) := by
    intro kvs ks h
    induction h with
    | nil => exact .nil
    | @cons k0 d0 v0 kvs ks r t ih =>
      rw [List.map_cons, List.map_cons]
      dsimp only
      by_cases e : k0 = k
      · rw [if_pos e, if_pos e]
        exact .cons rd ih
      · rw [if_neg e, if_neg e]
        exact .cons r ih
  have e3 : ∀ {kvs : List (Key × D)} {ks : List (Key × V)}, Rck c ρ H kvs ks → Rck c ρ H (kvs ++ [(k, d)]) (ks ++ [(k, v)]) := by
    intro kvs ks h
    induction h with
    | nil => exact .cons rd .nil
    | cons r t ih => exact .cons r ih
  unfold kPut putK
  rw [e1 h]
  by_cases q : ks.any (fun q => decide (q.1 = k)) = true
  · rw [if_pos q, if_pos q]
    exact e2 h
  · rw [if_neg q, if_neg q]
    exact e3 h
theorem Rel.dck (R : Rel c ρ A H) {n : Nat} {v : V} {kvs : List (Key × D)} (hA : A[n]? = some (.dck kvs)) (r : Rv c ρ H (.ref n) v) : ∃ a ks, v = .ref a ∧ ρ[n]? = some a ∧ H a = some (.dK ks) ∧ Rck c ρ H kvs ks := by
  cases r with
  | ref h =>
    obtain ⟨ho, h1, ks, e, h3⟩ := R.obj _ _ _ hA h
    subst e
    exact ⟨_, ks, rfl, h, h1, h3⟩
theorem g_subK (hu : X.A.units + 65 < cLine) (ho : PE X o (tE c WN fo)) (hi : PE X i (tE c WN fi))
    (ha : ∀ v, assign (.Subscript o i pos) X.env v = (do
      let ov ← holding [v] (eval o X.env)
      let iv ← holding [v, ov] (eval i X.env)
      standAt pos
      holding [v, ov, iv] (setItem ov iv v)
      release [v, ov, iv] []) := by intro _; rfl) : PG X (.Subscript o i pos) (tG c false [] (gsubK fo fi)) :=
  (pg_sub ho hi (set_dck (by omega)) ha).zm fun v σ H Q ⟨d, ρ, A, σd, R, S, r, h⟩ => by
    have r' : Rv c ρ H d v := by simpa using r
    refine show tE c WN fo σ H _ from one R S h fun x xv ρ1 A1 H1 R1 s1 S1 rx h1 => show tE c WN fi σ H1 _ from one R1 S1 h1 fun y yv ρ2 A2 H2 R2 s2 S2 ry h2 => ?_
    have rx2 := rx.to R1 s2
    have rv2 := (r'.to R s1).to R1 s2
    cases q : setK A2 x y d with
    | none => rw [q] at h2; exact h2.elim
    | some A3 =>
      rw [q] at h2
      unfold setK at q
      split at q
      · rename_i n k
        split at q
        · rename_i kvs hA
          split at q
          · rename_i hz
            cases q
            obtain ⟨a, ks, rfl, h3, h4, h5⟩ := R2.dck hA rx2
            cases ry
            obtain ⟨R3, s3⟩ := R2.wrote (o := .dck (kPut kvs (.inl k) d)) h3 (ho := .dK (putK ks (.inl k) v)) ⟨_, rfl, h5.put rv2⟩
            have hl := h5.sz
            have := SZ_le
            exact ⟨a, _, rfl, DPut.k (k := .inl k) h4 (by omega), h2 _ _ R3 s3 σ (S2.to R2 s3) (Same.refl _ _)⟩
          · cases q
        · cases q
      · cases q
/-- k in d -/
def dinD (x y : D) (A : Hh) : Option Bool := match x, y with
  | .int k, .ref n => match A[n]? with
    | some (.dck kvs) => some (kvs.any fun p => decide (p.1 = .inl k))
    | _ => none
  | _, _ => none
def dixD (x y : D) (A : Hh) : Option D := match x, y with
  | .ref n, .int k => match A[n]? with
    | some (.dck kvs) => (kvs.find? fun p => decide (p.1 = .inl k)).map (·.2)
    | _ => none
  | _, _ => none
/-- d[k] -/
def zdget (o i : Ev D) : Ev D := fun σ => mb (o σ) fun x => mb (i σ) fun y A => (dixD x y A).map fun d => .ok d A
theorem Rck.any (k : Key) : ∀ {kvs : List (Key × D)} {ks : List (Key × V)}, Rck c ρ H kvs ks → (kvs.any fun p => decide (p.1 = k)) = (valV ks k).isSome
  | _, _, .nil => rfl
  | _, _, .cons (k := k0) r t => by
    rw [List.any_cons, Rck.any k t]
    by_cases e : k0 = k
    · rw [valV_pos (p := (k0, _)) e]; simp [e]
    · rw [valV_neg (p := (k0, _)) e]; simp [e]
theorem Rck.at (k : Key) {d : D} : ∀ {kvs : List (Key × D)} {ks : List (Key × V)}, Rck c ρ H kvs ks → (kvs.find? fun p => decide (p.1 = k)).map (·.2) = some d → ∃ v, valV ks k = some v ∧ Rv c ρ H d v
  | _, _, .nil, h => by cases h
  | _, _, .cons (k := k0) r t, h => by
    by_cases e : k0 = k
    · rw [List.find?_cons_of_pos (by simp [e])] at h
      cases h
      exact ⟨_, valV_pos (p := (k0, _)) e, r⟩
    · rw [List.find?_cons_of_neg (by simp [e])] at h
      rw [valV_neg (p := (k0, _)) e]
      exact Rck.at k t h
theorem z_dget (hu : X.A.units + 1 < cLine) (ho : PE X o (tE c W fo)) (hi : PE X i (tE c W fi)) (hs : NoSl i) : PE X (.Subscript o i pos) (tE c W (zdget fo fi)) :=
  (pe_dget hu ho hi hs).zm fun σ H Q ⟨ρ, A, σd, R, S, h⟩ => two R S h fun x y v u ρ2 A2 H2 R2 s2 S2 rv ru h2 => by
    cases q : dixD x y A2 with
    | none => rw [q] at h2; exact h2.elim
    | some d =>
      rw [q] at h2
      unfold dixD at q
      split at q
      · rename_i n k
        split at q
        · rename_i kvs hA
          obtain ⟨a, ks, rfl, h3, h4, h5⟩ := R2.dck hA rv
          cases ru
          obtain ⟨w, e1, rw1⟩ := h5.at _ q
          exact ⟨a, w, rfl, by rw [← e1]; exact DGet.k (k := .inl k) h4, h2 _ _ R2 .refl w rw1⟩
        · cases q
      · cases q
def zdin (x d : Ev D) : Ev Bool := fun σ => mb (x σ) fun x => mb (d σ) fun y A => (dinD x y A).map fun k => .ok k A
def zdnin (x d : Ev D) : Ev Bool := fun σ => mb (x σ) fun x => mb (d σ) fun y A => (dinD x y A).map fun k => .ok (!k) A
theorem dinD_ok {x y : D} {v u : V} {k : Bool} (R : Rel c ρ A H) (rv : Rv c ρ H x v) (ru : Rv c ρ H y u) (q : dinD x y A = some k) : ∃ a o, u = .ref a ∧ DGet H a v o ∧ k = o.isSome := by
  unfold dinD at q
  split at q
  · rename_i k0 n
    split at q
    · rename_i kvs hA
      cases q
      obtain ⟨a, ks, rfl, h3, h4, h5⟩ := R.dck hA ru
      cases rv
      exact ⟨a, _, rfl, DGet.k (k := .inl k0) h4, h5.any _⟩
    · cases q
  · cases q
theorem z_dinT (hu : X.A.units + 65 < cLine) (ha : PE X a (tE c W fa)) (hb : PE X b (tE c W fb)) (hm : behindInMarks .In b = false := by first | exact nomark _ | rfl) : PT X (.Compare a [.In] [b] pos) (tT c W (zdin fa fb)) :=
  (pt_cmpR (op_inDK (by omega)) ha hb hm).zm fun σ H Q ⟨ρ, A, σd, R, S, h⟩ => two R S h fun x y v u ρ2 A2 H2 R2 s2 S2 rv ru h2 => by
    obtain ⟨k, q, h3⟩ := mapL (g := fun k => k) R2 h2
    obtain ⟨a, o, rfl, g, e⟩ := dinD_ok R2 rv ru q
    exact ⟨a, o, rfl, g, _, rfl, by rw [← e]; exact h3⟩
theorem z_dninT (hu : X.A.units + 65 < cLine) (ha : PE X a (tE c W fa)) (hb : PE X b (tE c W fb)) (hm : behindInMarks .NotIn b = false := by first | exact nomark _ | rfl) : PT X (.Compare a [.NotIn] [b] pos) (tT c W (zdnin fa fb)) :=
  (pt_cmpR (op_notInDK (by omega)) ha hb hm).zm fun σ H Q ⟨ρ, A, σd, R, S, h⟩ => two R S h fun x y v u ρ2 A2 H2 R2 s2 S2 rv ru h2 => by
    obtain ⟨k, q, h3⟩ := mapL (g := fun k => !k) R2 h2
    obtain ⟨a, o, rfl, g, e⟩ := dinD_ok R2 rv ru q
    exact ⟨a, o, rfl, g, _, rfl, by rw [← e]; exact h3⟩
end
end Z

noncomputable section
set_option maxHeartbeats 2000000
namespace Z
open PySem PySem.Spec PyProof.Rows L2
def dAt (kvs : List (Key × D)) (k : Key) : Option D := (kvs.find? fun p => decide (p.1 = k)).map (·.2)
def okE (kvs : List (Key × D)) (p : Key × D) : Bool := match p.1, dAt kvs p.1 with
  | .inl _, some (.int _) => true
  | _, _ => false
def selK (kvs : List (Key × D)) (m : Int) (k : Key) : Option Int := match k, dAt kvs k with
  | .inl k, some (.int v) => if v = m then some k else none
  | _, _ => none
/-- [k for k in d if d[k] == x], d in slot di, x in slot xi -/
def zdkeys (di xi j : Nat) : Ev (List D) := fun σ A => match σ[di]?, σ[xi]? with
  | some (some (.ref n)), some (some (.int m)) => match A[n]? with
    | some (.dck kvs) => if (j < σ.length ∧ kvs.length < 1000) ∧ kvs.all (okE kvs) = true then some (.ok ((kvs.filterMap fun p => selK kvs m p.1).map D.int) A) else none
    | _ => none
  | _, _ => none
section
variable {X : Cx} {c : Cn} {W : WX} {dE dF xE kE kF tg : Expr} {scope : Scope} {own : List (Str × Nat)} {pos p1 p2 : Pos} {ρ : List Addr} {H : Hp} {A : Hh}
theorem Rck.keys : ∀ {kvs : List (Key × D)} {ks : List (Key × V)}, Rck c ρ H kvs ks → ks.map (·.1) = kvs.map (·.1)
  | _, _, .nil => rfl
  | _, _, .cons _ t => by rw [List.map_cons, List.map_cons, Rck.keys t]
theorem rvs_ints : ∀ (ns : List Int), Rvs c ρ H (ns.map D.int) (ns.map V.int)
  | [] => .nil
  | n :: ns => .cons (.int n) (rvs_ints ns)
theorem dkeys_core {di xi j : Nat} (hdj : di ≠ j) (hxj : xi ≠ j) {σ : L2.St} {H : Hp} {Q : VK} (h : tN c W (zdkeys di xi j) σ H Q) :
    tLockE (tLc (iKeys (tVar di)) (gName j) (tB (tEqI (tDGet (tVar di) (tVar j)) (tVar xi))) (tVar j) [j]) σ H Q := by
  obtain ⟨ρ, A, σd, R, S, h⟩ := h
  unfold zdkeys at h
  split at h
  · rename_i n m e1 e2
    split at h
    · rename_i kvs hA
      split at h
      · rename_i hz
        obtain ⟨vd, s1, r1⟩ := S.get di _ e1
        obtain ⟨vx, s2, r2⟩ := S.get xi _ e2
        obtain ⟨a, ks, rfl, h3, h4, h5⟩ := R.dck hA r1
        cases r2
        have hl := h5.sz
        refine ⟨a, .dK ks, h4, True.intro, fun od => ?_⟩
        obtain ⟨H1, hH1⟩ : ∃ H1, H1 = upd H a (.frz od (.dK ks)) := ⟨_, rfl⟩
        have ha1 : H1 a = some (.frz od (.dK ks)) := by rw [hH1]; exact upd_same
        rw [← hH1]
        refine ⟨.ref a, s1, a, od, rfl, .inl ⟨ks, ha1, fun D hD => ?_⟩⟩
        have hne : a ≠ D := fun e => by rw [← e, ha1] at hD; cases hD
        have aD : ∀ u, upd H1 D u a = some (.frz od (.dK ks)) := fun u => by rw [upd_ne hne]; exact ha1
        refine lc_it walk_keys (fun i H' => H' = upd H1 D (.lst (((ks.take i).filterMap fun p => selK kvs m p.1).map V.int))) rfl (fun i H' _ e => by rw [e]; exact aD _) (fun i x H' H'' hi e ⟨e', k, v, hk1, ex⟩ => ?_) (fun H' e => ?_)
        · subst e
          subst e'
          subst ex
          have sl : ∀ (y : V), ((wipe σ [j]).set j (some y))[di]? = some (some (.ref a)) ∧ ((wipe σ [j]).set j (some y))[xi]? = some (some (.int m)) := fun y => by
            rw [List.getElem?_set_ne (Ne.symm hdj), List.getElem?_set_ne (Ne.symm hxj), wipe_out (by simpa using hdj), wipe_out (by simpa using hxj)]
            exact ⟨s1, s2⟩
          have jl : j < (wipe σ [j]).length := by rw [wipe_length, ← S.len]; exact hz.1.1
          have sj : ∀ (y : V), ((wipe σ [j]).set j (some y))[j]? = some (some y) := fun y => List.getElem?_set_self jl
          have hik : kvs[i]?.map (·.1) = some k := by
            have := congrArg (fun l => l[i]?) h5.keys
            simp only [List.getElem?_map, hk1, Option.map_some] at this
            exact this.symm
          obtain ⟨p, hp, hpk⟩ := Option.map_eq_some_iff.mp hik
          have okp := List.all_eq_true.mp hz.2 p (List.mem_of_getElem? hp)
          unfold okE at okp
          split at okp
          · rename_i kk vi e3 e4
            rw [e3] at hpk e4
            subst hpk
            obtain ⟨w, ew, rw'⟩ := h5.at _ e4
            cases rw'
            have sk : selK kvs m (.inl kk) = if vi = m then some kk else none := by unfold selK; rw [e4]
            refine ⟨?_, .ref a, (sl _).1, _, sj _, a, .int vi, rfl, .inl ⟨ks, .inl kk, .inr ⟨od, aD _⟩, rfl, ew.symm⟩, .int m, (sl _).2, vi, m, rfl, rfl, _, rfl, ?_⟩
            · show (((σ.set j none).set j _).set j none) = σ.set j none
              rw [List.set_set, List.set_set]
            · have tk : ((ks.take (i + 1)).filterMap fun p => selK kvs m p.1) = ((ks.take i).filterMap fun p => selK kvs m p.1) ++ (if vi = m then [kk] else []) := by
                rw [List.take_add_one, List.filterMap_append, hk1]
                congr 1
                show List.filterMap (fun p => selK kvs m p.1) [(Sum.inl kk, v)] = _
                rw [List.filterMap_cons, sk]
                by_cases q : vi = m
                · rw [if_pos q, if_pos q]; rfl
                · rw [if_neg q, if_neg q]; rfl
              by_cases q : vi = m
              · rw [if_pos q] at tk
                have dq : (decide (vi = m)) = true := decide_eq_true q
                show (if decide (vi = m) = true then _ else _)
                rw [if_pos dq]
                refine ⟨_, sj _, _, upd_same, ?_, ?_⟩
                · rw [List.length_map]
                  have l1 := List.length_filterMap_le (fun p : Key × V => selK kvs m p.1) (ks.take i)
                  have l2 : (ks.take i).length ≤ ks.length := by rw [List.length_take]; omega
                  have := SZ_le
                  unfold SZ at this
                  omega
                · show upd _ _ _ = _
                  rw [tk, List.map_append]
                  funext b
                  unfold upd
                  split <;> rfl
              · rw [if_neg q, List.append_nil] at tk
                have dq : ¬ (decide (vi = m)) = true := by simp [q]
                show (if decide (vi = m) = true then _ else _)
                rw [if_neg dq]
                rw [tk]
          · cases okp
        · subst e
          refine ⟨aD _, ?_⟩
          have hD' : H D = none := by rw [← hD, hH1, upd_ne (Ne.symm hne)]
          rw [List.take_length] at *
          have ek : (ks.filterMap fun p => selK kvs m p.1) = kvs.filterMap fun p => selK kvs m p.1 := by
            have e1 : (ks.filterMap fun p => selK kvs m p.1) = (ks.map (·.1)).filterMap (selK kvs m) := by rw [List.filterMap_map]; rfl
            have e2 : (kvs.filterMap fun p => selK kvs m p.1) = (kvs.map (·.1)).filterMap (selK kvs m) := by rw [List.filterMap_map]; rfl
            rw [e1, e2, h5.keys]
          have q := h ρ H R .refl D _ hD' (rvs_ints _)
          rw [← ek] at q
          have eh : upd (upd H1 D (.lst ((ks.filterMap fun p => selK kvs m p.1).map V.int))) a (.dK ks) = upd H D (.lst ((ks.filterMap fun p => selK kvs m p.1).map V.int)) := by
            funext b
            by_cases q1 : b = a
            · subst q1
              rw [upd_same, upd_ne hne, h4]
            · rw [upd_ne q1]
              by_cases q2 : b = D
              · subst q2; rw [upd_same, upd_same]
              · rw [upd_ne q2, upd_ne q2, hH1, upd_ne q1]
          rw [eh]
          exact q
      · exact h.elim
    · exact h.elim
  · exact h.elim
theorem z_dkeys {di xi j : Nat} (hu : X.A.units + 65 < cLine) (hc : X.calm = true) (hN : X.N.Nodup) (ok : BlkOk X.N X.env.scope scope own) (hown : own.map (·.2) = [j]) (hdj : di ≠ j) (hxj : xi ≠ j)
    (hi : PE X dE (tVar di)) (hgk : ∀ (s : Shared) (H : Hp) (C : Addr) (cl : List (Str × Addr)) (fp : List Addr), PG (X.blk s H scope (compEnvC scope cl C X.env) fp) tg (gName j))
    (hd : ∀ (s : Shared) (H : Hp) (C : Addr) (cl : List (Str × Addr)) (fp : List Addr), PE (X.blk s H scope (compEnvC scope cl C X.env) fp) dF (tVar di))
    (hk : ∀ (s : Shared) (H : Hp) (C : Addr) (cl : List (Str × Addr)) (fp : List Addr), PE (X.blk s H scope (compEnvC scope cl C X.env) fp) kE (tVar j))
    (hk2 : ∀ (s : Shared) (H : Hp) (C : Addr) (cl : List (Str × Addr)) (fp : List Addr), PE (X.blk s H scope (compEnvC scope cl C X.env) fp) kF (tVar j))
    (hx : ∀ (s : Shared) (H : Hp) (C : Addr) (cl : List (Str × Addr)) (fp : List Addr), PE (X.blk s H scope (compEnvC scope cl C X.env) fp) xE (tVar xi))
    (hnk : NoSl kE) (hmk : behindInMarks .Eq xE = false := by first | exact nomark _ | rfl) (hs : ∀ x, foldedSetIterable dE X.env x = pure x := by intro _; rfl) :
    PE X (.ListComp kF [⟨tg, dE, [.Compare (.Subscript dF kE p1) [.Eq] [xE] p2], 0⟩] scope pos) (tN c W (zdkeys di xi j)) := by
  refine (pe_lock (pe_lc hc hN (pi_keys hi) ok hgk (fun s H C cl fp => pts_one (pt_cmp (pc_eqI (pe_dget (X := X.blk s H scope (compEnvC scope cl C X.env) fp) (Nat.lt_of_le_of_lt (Nat.add_le_add_left (by decide) _) hu) (hd s H C cl fp) (hk s H C cl fp) hnk) (hx s H C cl fp)) hmk)) hk2 hs)).zm fun σ H Q h => ?_
  rw [hown]
  exact dkeys_core hdj hxj h
theorem s_setDk (i : Nat) {di xi j : Nat} {y : Str} {p spos : Pos} (hy : X.N[i]? = some y) (hyl : X.env.scope.names.lookup y = some .local)
    (hsw : swapsWith (.ListComp kF [⟨tg, dE, [.Compare (.Subscript dF kE p1) [.Eq] [xE] p2], 0⟩] scope pos) (some (.Name y p)) spos.line X.env = pure true) (hu : X.A.units + 65 < cLine) (hc : X.calm = true) (hN : X.N.Nodup) (ok : BlkOk X.N X.env.scope scope own) (hown : own.map (·.2) = [j]) (hdj : di ≠ j) (hxj : xi ≠ j)
    (hi : PE X dE (tVar di)) (hgk : ∀ (s : Shared) (H : Hp) (C : Addr) (cl : List (Str × Addr)) (fp : List Addr), PG (X.blk s H scope (compEnvC scope cl C X.env) fp) tg (gName j))
    (hd : ∀ (s : Shared) (H : Hp) (C : Addr) (cl : List (Str × Addr)) (fp : List Addr), PE (X.blk s H scope (compEnvC scope cl C X.env) fp) dF (tVar di))
    (hk : ∀ (s : Shared) (H : Hp) (C : Addr) (cl : List (Str × Addr)) (fp : List Addr), PE (X.blk s H scope (compEnvC scope cl C X.env) fp) kE (tVar j))
    (hk2 : ∀ (s : Shared) (H : Hp) (C : Addr) (cl : List (Str × Addr)) (fp : List Addr), PE (X.blk s H scope (compEnvC scope cl C X.env) fp) kF (tVar j))
    (hx : ∀ (s : Shared) (H : Hp) (C : Addr) (cl : List (Str × Addr)) (fp : List Addr), PE (X.blk s H scope (compEnvC scope cl C X.env) fp) xE (tVar xi))
    (hnk : NoSl kE) (hmk : behindInMarks .Eq xE = false := by first | exact nomark _ | rfl) (hs : ∀ x, foldedSetIterable dE X.env x = pure x := by intro _; rfl) :
    PS X (.Assign [.Name y p] (.ListComp kF [⟨tg, dE, [.Compare (.Subscript dF kE p1) [.Eq] [xE] p2], 0⟩] scope pos) spos) (tS c W (sasg (gnm i) (zfz (zdkeys di xi j)))) := by
  refine ⟨fun pins s σ H D I ⟨ρ, A, σd, R, S, h⟩ => ?_⟩
  refine thn ((ps_lock (ps_setLc hc hN hy hyl hsw (pi_keys hi) ok hgk (fun s H C cl fp => pts_one (pt_cmp (pc_eqI (pe_dget (X := X.blk s H scope (compEnvC scope cl C X.env) fp) (Nat.lt_of_le_of_lt (Nat.add_le_add_left (by decide) _) hu) (hd s H C cl fp) (hk s H C cl fp) hnk) (hx s H C cl fp)) hmk)) hk2 hs)).run pins s σ H { D with nx := fun σ' H1 => ∃ a vs, H1 a = some (.lst vs) ∧ ∀ ob, D.nx σ' (upd H1 a (.frz ob (.lst vs))) } I ?_) fun f s1 h1 => ?_
  · rw [hown]
    refine dkeys_core (c := c) (W := W) (Q := fun v H1 => ∃ a vs, H1 a = some (.lst vs) ∧ ∀ ob, D.nx (σ.set i (some v)) (upd H1 a (.frz ob (.lst vs)))) hdj hxj ⟨ρ, A, σd, R, S, ?_⟩
    have h1 := LdS.of R S h
    refine (Ld.bind h1).imp fun xs ρ1 A1 H1 R1 s1 h2 a vs n rvs => ⟨a, vs, upd_same, fun ob => ?_⟩
    rw [upd_upd]
    obtain ⟨R2, s2, _⟩ := R1.laid (ho := .frz ob (.lst vs)) n
    have h3 := h2 ρ1 _ R2 s2
    exact h3 ρ1 _ _ R2 .refl (((S.to R s1).to R1 s2).set (.lst (.inl ⟨ob, upd_same⟩) (rvs.to R1 s2)) i)
  · cases f with
    | next =>
      obtain ⟨σ', H', I', a, vs, ha, q⟩ := h1
      obtain ⟨z, its, n, rv, hob⟩ := I'.hok a _ ha
      exact ⟨σ', _, I'.write (x := a) (e := a) (t' := s1.toks) (h' := s1.heap) (by rw [ha]; trivial) (.inl rfl) (fun b u _ h => h) ⟨_, hob⟩ (o := .frz _ (.lst vs)) ⟨hob, z, its, n, rv, hob⟩, q _⟩
    | ret v => exact h1
    | brk => exact h1
    | cont => exact h1
end
end Z

noncomputable section
set_option maxHeartbeats 2000000
namespace L2
open PySem PySem.Spec PyProof.Rows
section
variable {P : Program} {w : World} {A : Around} {E : Value → Shared → Prop} {s : Shared}
theorem ext_rngL {R : Result → Shared → Prop} {r : Addr} {a b : Int} {t u v : Tok} {N : Nat} (hd : A.handled = none) (ir : IsRange s.heap r a b 1 t u v) (big : Builtin.Range.small a b 1 = false) (sz : Builtin.Range.rangeSize a b 1 = N) (le : N ≤ 2 ^ 24)
    (S : Addr) (res : Value) (c0 : Nat) (iS : s.heap.get? S = some { cls := .type "list", data := .seq #[] c0 })
    (go : ∀ g tk ac c', (∀ d o, d ≠ S → s.heap.get? d = some o → g.get? d = some o) → g.get? S = some { cls := .type "list", dict := none, data := .seq ac c', slots := #[] } → ItemsOf (fun i v => ∃ t, v = .int (a + i * 1) t) ac N → R (.ok (.ret res)) { s with heap := g, toks := tk }) :
    wpAny (model P w) A.in1 (Builtin.List.listExtendWith (.ref S) (.ref r) res) (fun fin z => match fin with | .done f => R (.ok f) z | .again k => k.quiet = true ∧ codeAny (model P w) A k R z) (fun e z => R (.error e) z) s := by
  have n1 : S ≠ r := fun e => by rw [e, ir] at iS; simp at iS
  have n2 : S < s.heap.objs.size := Heap.lt_size iS
  have n3 : S ≠ s.heap.objs.size := Nat.ne_of_lt n2
  have n4 : S ∉ [s.heap.objs.size] := fun hm => n3 (List.mem_singleton.mp hm)
  have W := (Walks.longrange (prog := P) (w := w) (A := A.in1) hd s.heap.objs.size a 1 N).toS
  have key : ∀ (h : Heap) (c1 tk : Nat), IsLongIter h s.heap.objs.size (a + ((0 : Nat) : Int) * 1) ((N : Int) - ((0 : Nat) : Int)) 1 → (∀ d o, d ≠ S → s.heap.get? d = some o → h.get? d = some o) → h.get? S = some { cls := .type "list", data := .seq #[] c1 } →
      codeAny (model P w) A (.builtin "list.extend.loop" ⟨[.ref S, .ref s.heap.objs.size, res], []⟩) R { s with heap := h, toks := tk } := by
    intro h c1 tk it hk hS1
    refine codeAny_extend_loopS W (by rw [sizeLine_eq]; omega) S n4 res N 0 _ #[] c1 rfl (Nat.zero_le _) it hS1 (ItemsOf.nil _) fun z ac c' hm hS' hac => ?_
    rw [Moved.eq_with hm]
    refine go z.heap z.toks ac c' (fun d o hb e => hm.heap d o (fun hmem => ?_) (hk d o hb e)) hS' hac
    rcases List.mem_cons.mp hmem with q | hmem; exact hb q
    exact absurd (Heap.lt_size e) (by rw [List.mem_singleton.mp hmem]; exact Nat.lt_irrefl _)
  unfold Builtin.List.listExtendWith
  refine wpAny_bind (wpAny_typeOf (T := "range") ⟨_, ir, rfl⟩ ?_)
  have k1 : Builtin.List.listSameRef (.ref S) (.ref r) = false := by simp [Builtin.List.listSameRef, n1]
  simp only [k1, show (Value.type "range" == Value.type "list") = false by decide, show (Value.type "range" == Value.type "tuple") = false by decide, Bool.or_false, Bool.false_eq_true, if_false]
  refine wpAny_bind (wpAny_pyIter_longrange ir big ?_)
  refine wpAny_bind (wpAny_holding (wpAny_hint_range (n := N) (Heap.get?_push_of_some _ ir) sz le ?_))
  obtain ⟨oi, hoi⟩ : ∃ oi : Obj, oi = { cls := .type "longrange_iterator", data := .fields #[rawInt a, rawInt (Builtin.Range.rangeSize a b 1), rawInt 1] } := ⟨_, rfl⟩
  have it1 : IsLongIter (s.heap.push oi) s.heap.objs.size (a + ((0 : Nat) : Int) * 1) ((N : Int) - ((0 : Nat) : Int)) 1 := by
    show IsLongIter _ _ _ _ _; rw [hoi, sz]; simpa using Heap.get?_push_size _ rfl
  have p1 := Heap.get?_push_of_some oi iS
  rw [← hoi]
  refine wpAny_ite_split (fun _ => ?_) (fun _ => wpAny_pure ⟨plainId_quiet F.plain_extend_loop _, key _ c0 _ it1 (fun d o _ e => Heap.get?_push_of_some _ e) p1⟩)
  refine wpAny_bind (wpAny_rule ?_); refine wpAny_bind ?_
  show wpAny _ _ (updateSeq S (·.push .none) >>= fun _ => updateSeq S (·.pop)) _ _ _
  refine wpAny_bind (wpAny_updateSeq p1 rfl ?_)
  have p2 := Heap.get?_update_self (Obj.mapSeq (·.push Value.none)) p1 rfl
  refine wpAny_updateSeq (hz := by seq_fits) p2 rfl ?_
  have p3 := Heap.get?_update_self (Obj.mapSeq (·.pop)) p2 rfl
  refine wpAny_pure ⟨plainId_quiet F.plain_extend_loop _, key _ _ _ ((Heap.get?_update_other _ _ n3).trans ((Heap.get?_update_other _ _ n3).trans it1)) (fun d o hb e => (Heap.get?_update_other _ _ (Ne.symm hb)).trans ((Heap.get?_update_other _ _ (Ne.symm hb)).trans (Heap.get?_push_of_some _ e))) p3⟩
theorem init_rngL {R : Result → Shared → Prop} {r : Addr} {a b : Int} {t u v : Tok} {N : Nat} (hd : A.handled = none) (ir : IsRange s.heap r a b 1 t u v) (big : Builtin.Range.small a b 1 = false) (sz : Builtin.Range.rangeSize a b 1 = N) (le : N ≤ 2 ^ 24)
    (S : Addr) (iS : s.heap.get? S = some { cls := .type "list", data := .seq #[] })
    (go : ∀ g tk ac c', (∀ d o, d ≠ S → s.heap.get? d = some o → g.get? d = some o) → g.get? S = some { cls := .type "list", dict := none, data := .seq ac c', slots := #[] } → ItemsOf (fun i v => ∃ t, v = .int (a + i * 1) t) ac N → R (.ok (.ret .none)) { s with heap := g, toks := tk }) :
    wpAny (model P w) A.in1 (Builtin.«list.__init__» ⟨[.ref S, .ref r], []⟩) (fun fin z => match fin with | .done f => R (.ok f) z | .again k => k.quiet = true ∧ codeAny (model P w) A k R z) (fun e z => R (.error e) z) s := by
  have n1 : S ≠ r := fun e => by rw [e, ir] at iS; simp at iS
  show wpAny _ _ (do let old ← Builtin.List.listItems (.ref S); Builtin.List.listUpdate (.ref S) (fun _ => #[]); letGo old.toList.reverse; Builtin.List.listExtendWith (.ref S) (.ref r) .none) _ _ s
  refine wpAny_bind ?_; unfold Builtin.List.listItems
  refine wpAny_bind (wpAny_seqItems iS rfl (wpAny_pure ?_))
  show wpAny _ _ (updateSeq S (fun _ => #[]) >>= fun _ => letGo (#[] : Array Value).toList.reverse >>= fun _ => Builtin.List.listExtendWith (.ref S) (.ref r) .none) _ _ s
  refine wpAny_bind (wpAny_updateSeq iS rfl ?_)
  have p2 := Heap.get?_update_self (Obj.mapSeq (fun _ => (#[] : Array Value))) iS rfl
  have oth : ∀ d o, d ≠ S → s.heap.get? d = some o → (s.heap.update S (Obj.mapSeq (fun _ => (#[] : Array Value)))).get? d = some o := fun d o hb e => (Heap.get?_update_other _ _ (Ne.symm hb)).trans e
  refine wpAny_bind (wpAny_letGo ?_)
  exact ext_rngL hd (oth r _ (Ne.symm n1) ir) big sz le S .none _ p2 fun g tk ac c' hk hS' hac => go g tk ac c' (fun d o hb e => hk d o hb (oth d o hb e)) hS' hac
theorem call_rngL {Q : Value → Shared → Prop} {r : Addr} {a b : Int} {t u v : Tok} {N : Nat} (hd : A.handled = none) (ir : IsRange s.heap r a b 1 t u v) (big : Builtin.Range.small a b 1 = false) (sz : Builtin.Range.rangeSize a b 1 = N) (le : N ≤ 2 ^ 24)
    (hQ : ∀ g tk ac c', (∀ d o, s.heap.get? d = some o → g.get? d = some o) → g.get? s.heap.objs.size = some { cls := .type "list", dict := none, data := .seq ac c', slots := #[] } → ItemsOf (fun i v => ∃ t, v = .int (a + i * 1) t) ac N → Q (.ref s.heap.objs.size) { s with heap := g, toks := tk }) :
    wpAny (model P w) A (call (.type "list") [.ref r]) Q E s := by
  refine callType_codes (Q₁ := fun ob z => ob = .ref s.heap.objs.size ∧ z = { s with heap := s.heap.push { cls := .type "list", data := .seq #[] } }) F.called_list (F.typeCall_list_1 _) F.entry_list_init (code_list_new _ ⟨rfl, rfl⟩) fun ob z hz => ?_
  obtain ⟨rfl, rfl⟩ := hz
  have iS : (s.heap.push { cls := .type "list", data := .seq #[] }).get? s.heap.objs.size = some { cls := .type "list", data := .seq #[] } := Heap.get?_push_size _ rfl
  refine ⟨⟨_, iS, rfl⟩, F.args_list_init_2 _ _, init_rngL (A := A.in1) hd (Heap.get?_push_of_some _ ir) big sz le _ iS fun g tk ac c' hk hS' hac => ?_⟩
  exact ⟨rfl, hQ g tk ac c' (fun d o e => hk d o (Nat.ne_of_lt (Heap.lt_size e)) (Heap.get?_push_of_some _ e)) hS' hac⟩
end
section
variable {X : Cx} {e : Expr} {te : St → Hp → (Int → Int → Hp → Prop) → Prop}
def tLstRgL (te : St → Hp → (Int → Int → Hp → Prop) → Prop) : TE := fun σ H Q => te σ H fun a b H1 => (b - a).toNat ≤ 2 ^ 24 ∧ ∀ q, H1 q = none → Q (.ref q) (upd H1 q (.lst (rgV a b)))
theorem pe_listRgL {p pos : Pos} (hc : X.calm = true) (hg : Gl X "list") (hm : X.mg "list" = none) (he : PRg X e te) (na : starEach [e] X.env = (false, eval e X.env) :: starEach [] X.env := by rfl) : PE X (.Call (.Name "list" p) [e] [] pos) (tLstRgL te) := by
  refine ⟨fun pins s σ H Q I h => Call_ (ld_blt I hg hm boot_list (PyProof.Rows.callWith_type1 (args_cons (thn (he pins s σ H _ I h) fun x s1 ⟨r, a, b, t, u, v, H1, ex, hr, I1, ok, q⟩ => args_nil ?_) na) na))⟩
  subst ex
  have fin : ∀ g tk ac c', (∀ d o, s1.heap.get? d = some o → g.get? d = some o) → g.get? s1.heap.objs.size = some { cls := .type "list", dict := none, data := .seq ac c', slots := #[] } → ItemsOf (fun i v => ∃ t, v = .int (a + i * 1) t) ac (b - a).toNat →
      ∃ x H', Inv X pins σ H' { s1 with heap := g, toks := tk } ∧ RelV x (.ref s1.heap.objs.size) ∧ Q x H' := fun g tk ac c' hk ee hi => by
    refine ⟨.ref s1.heap.objs.size, upd H1 s1.heap.objs.size (.lst (rgV a b)), I1.laid hk (Nat.le_refl _) (show ObjOk X.prog X.w _ _ _ (.lst (rgV a b)) from ⟨?_, ac.toList, c', vals_rg hi, ?_⟩), rfl, q _ (I1.hok.fresh (Nat.le_refl _))⟩
    · rw [rgV_length, sizeLine_eq]; omega
    · rw [Array.toArray_toList]; exact ee
  by_cases sm : Builtin.Range.small a b 1 = true
  · exact call_list_range (n := (b - a).toNat) (I1.ok.hd hc) hr sm (rangeSize_nat a b) ok fin
  · exact call_rngL (N := (b - a).toNat) (I1.ok.hd hc) hr (by simpa using sm) (rangeSize_nat a b) ok fin
end
end L2
namespace Z
open PySem PySem.Spec PyProof.Rows L2
/-- list(range(a, b)), a and b of any size -/
def rngL (x y : D) : M (List D) := match x, y with
  | .int i, .int j => fun A => if (j - i).toNat ≤ SZ then some (.ok (rngI i j) A) else none
  | _, _ => fun _ => none
def zlrg (a b : Ev D) : Ev (List D) := fun σ => mb (a σ) fun x => mb (b σ) fun y => rngL x y
section
variable {X : Cx} {c : Cn} {W : WX} {a b : Expr} {fa fb : Ev D} {pos p p1 p2 : Pos}
theorem z_lrg (hcm : X.calm = true) (hg : Gl X "list") (hm : X.mg "list" = none) (hg2 : Gl X "range") (hm2 : X.mg "range" = none) (ha : PE X a (tE c W fa)) (hb : PE X b (tE c W fb)) (na : starEach [a, b] X.env = (false, eval a X.env) :: starEach [b] X.env := by rfl)
    (nb : starEach [b] X.env = (false, eval b X.env) :: starEach [] X.env := by rfl) (hp : (backTo p2 (starEach [b] X.env)).any (·.1) = false := by rfl)
    (n2 : starEach [.Call (.Name "range" p1) [a, b] [] p2] X.env = (false, eval (.Call (.Name "range" p1) [a, b] [] p2) X.env) :: starEach [] X.env := by rfl) :
    PE X (.Call (.Name "list" p) [.Call (.Name "range" p1) [a, b] [] p2] [] pos) (tN c W (zlrg fa fb)) :=
  (pe_listRgL hcm hg hm (prg_2 hg2 hm2 ha hb na nb hp) n2).zm fun σ H Q ⟨ρ, A, σd, R, S, h⟩ => two R S h fun x y v u ρ2 A2 H2 R2 s2 S2 rv ru h2 => by
    cases rv <;> cases ru <;> first | exact False.elim h2 | skip
    rename_i i j
    unfold rngL at h2
    dsimp only at h2
    obtain ⟨hz, h3⟩ := iteP R2 h2
    refine ⟨i, j, rfl, rfl, by unfold SZ at hz; omega, fun q n => h3 q _ n (rg_ok _ _)⟩
end
end Z

noncomputable section
set_option maxHeartbeats 2000000
namespace L2
open PySem PySem.Spec PyProof.Rows
section
variable {P : Program} {w : World} {A : Around} {E : Value → Shared → Prop} {s : Shared}
theorem collect_tupZ {l : Addr} {vs : List Value} {R : List Value → Shared → Prop} (hl : IsTup s.heap l vs.toArray) (hz : vs.length ≤ sizeLine)
    (h : ∀ (g : Heap) (tk : Nat), (∀ b o, s.heap.get? b = some o → g.get? b = some o) → R vs { s with heap := g, toks := tk }) : wpAny (model P w) A (collect (.ref l)) R E s := by
  obtain ⟨ob, h1, h2, n, h3⟩ := id hl
  unfold collect
  refine wpAny_bind (wpAny_runValue (codeAny_builtin entry_proto_collect' ?_))
  show wpAny _ _ (do again (.builtin "list.__iadd__" ⟨[← newList [], .ref l], []⟩)) _ _ s
  refine wpAny_bind (wpAny_newList (wpAny_pure ⟨Code.quiet_builtin _ (by decide +kernel), codeAny_builtin entry_list_iadd' ?_⟩))
  show wpAny _ _ (Builtin.List.listExtendWith (.ref s.heap.objs.size) (.ref l) (.ref s.heap.objs.size)) _ _ { s with heap := s.heap.push (seqObj "list" #[] 0) }
  unfold Builtin.List.listExtendWith
  have k1 : (s.heap.push (seqObj "list" #[] 0)).get? l = some ob := Heap.get?_push_of_some _ h1
  refine wpAny_bind (wpAny_typeOf (T := "tuple") ⟨ob, k1, h2⟩ ?_)
  rw [if_pos (by rw [show (Value.type "tuple" == Value.type "tuple") = true by rfl]; simp)]
  refine wpAny_bind (listItems_at k1 h3 ?_)
  refine wpAny_bind (listItems_at (xs := #[]) (n := 0) (Heap.get?_push_size _ rfl) rfl ?_)
  rw [if_neg (by simp)]
  refine wpAny_bind (listUpdate_at (xs := #[]) (n := 0) (Heap.get?_push_size _ rfl) rfl ?_ (Nat.zero_le _) (by show (#[] ++ vs.toArray).size ≤ sizeLine + 1; simp only [Array.size_append, List.size_toArray, List.length_nil]; omega))
  refine wpAny_pure ?_
  have kp : ∀ b o, s.heap.get? b = some o → ((s.heap.push (seqObj "list" #[] 0)).update s.heap.objs.size (Obj.mapSeq (· ++ vs.toArray))).get? b = some o := fun b o q => by
    rw [Heap.get?_update_ne _ _ _ _ (Nat.ne_of_lt (Heap.lt_size q))]
    exact Heap.get?_push_of_some _ q
  show wpAny (model P w) A (do
      let ob ← load s.heap.objs.size
      match ob.data with | .seq xs _ => pure xs.toList | _ => unsupported "internal:collect") R E { s with heap := (s.heap.push (seqObj "list" #[] 0)).update s.heap.objs.size (Obj.mapSeq (· ++ vs.toArray)) }
  refine wpAny_bind (wpAny_load (get?_update_seq (Heap.get?_push_size _ rfl) _) ?_)
  show wpAny _ _ (pure ((#[] : Array Value) ++ vs.toArray).toList) R E _
  rw [show ((#[] : Array Value) ++ vs.toArray).toList = vs by simp]
  exact wpAny_pure (h _ _ kp)
end
def rSortTT (K : PySem.W.Frag) : List V → Hp → VK → Prop := fun vs H Q => ∃ (a : Addr) (xs : List V), vs = [V.ref a] ∧ SqT K H a xs ∧ (∀ x ∈ xs, ∃ ns, TupJ K H x ns ∧ ns ≠ []) ∧
  ∀ (ys : List V) (p : Addr), ys.Perm xs → ys.Pairwise (fun x y => ∀ n m, TupJ K H x n → TupJ K H y m → HT.lexLt m n = false) → H p = none → Q (.ref p) (upd H p (.lst ys))
section
variable {X : Cx}
theorem cr_sortTT : CallR X (.builtin "sorted") (rSortTT X.K) := by
  intro pins s σ H vs us Q I r h
  obtain ⟨a, xs, rfl, hs, hx, q⟩ := h
  obtain ⟨its, rv, hl, hz⟩ := I.tuple hs
  rw [Vals.ref1 r]
  obtain ⟨as, e1, e2⟩ := bk_refs rv fun x m => by
    obtain ⟨ns, ⟨t, e, _⟩, _⟩ := hx x m
    exact ⟨t, e⟩
  subst e1 e2
  refine Calls.call_function_entry PyProof.Rows.kind_sorted PyProof.Rows.plain_sorted PyProof.Rows.entry_sorted (PyProof.Rows.args_sorted1 _) ?_
  unfold Builtin.«sorted»
  refine wpAny_bind (m := checkCount "sorted" 1 1 _) (wpAny_pure ?_)
  have hlen0 : (as.map Value.ref).length ≤ sizeLine := by rw [List.length_map] at hz ⊢; exact hz
  refine wpAny_bind (collect_tupZ hl hlen0 fun h' tk hk' => ?_)
  have I1 : Inv X pins σ H { s with heap := h', toks := tk } := I.kept hk'
  have hK : ∀ v ∈ as.map Value.ref, SrtL.IsTI h' v (SrtL.kOf h' v) ∧ SrtL.kOf h' v ≠ [] := fun v hv => by
    obtain ⟨b, hb, rfl⟩ := List.mem_map.mp hv
    obtain ⟨ns, ⟨t, e, ht⟩, hne⟩ := hx (.ref b) (List.mem_map.mpr ⟨b, hb, rfl⟩)
    cases e
    have := tupJ_raw I1 ht
    rw [SrtL.kOf_eq this]
    exact ⟨this, hne⟩
  refine wpAny_bind (wpAny_newList ?_ hlen0)
  have hoL : (h'.push (seqObj "list" (as.map Value.ref).toArray 0)).get? h'.objs.size = some (seqObj "list" (as.map Value.ref).toArray 0) := Heap.get?_push_size _ rfl
  show wpAny _ _ _ _ _ { s with heap := h'.push (seqObj "list" (as.map Value.ref).toArray 0), toks := tk }
  refine wpAny_bind (wpAny_holding (wpAny_call_entry PyProof.Rows.slot_list_sort ⟨_, hoL, rfl⟩ PyProof.Rows.entry_list_sort
    (SrtO.list_sort_ord (s := { s with heap := h'.push (seqObj "list" (as.map Value.ref).toArray 0), toks := tk }) (SrtL.swo_k (SrtL.kOf h')) hoL hlen0 (fun h2 => ?_) fun out h1 h2 => ⟨_, rfl, ?_⟩) (PyProof.Rows.args_list_sort _)))
  · refine SrtL.tups_sortable (by omega) (fun v hm => ⟨(hK v hm).1.keeps fun b o e _ => Heap.get?_push_of_some _ e, (hK v hm).2⟩) fun o e => ?_
    have e' : some o = some (seqObj "list" (as.map Value.ref).toArray 0) := e.symm.trans hoL
    cases e'
    intro c
    exact absurd (Value.type.inj c) (by decide)
  · obtain ⟨ep', he'⟩ := PyProof.Rows.sortedHeap_at (vs := as.map Value.ref) (out := out.toArray) hoL
    have hp := h2.perm
    have hp3 : (out.map rA).Perm as := by
      have := hp.map rA
      rw [List.map_map] at this
      have e : (rA ∘ Value.ref) = id := rfl
      rwa [e, List.map_id] at this
    have eo : out = (out.map rA).map Value.ref := by
      rw [List.map_map]
      refine (List.map_id' out).symm.trans (List.map_congr_left fun v hv => ?_)
      obtain ⟨b, _, rfl⟩ := List.mem_map.mp (hp.mem_iff.mp hv)
      rfl
    have hlen : ((out.map rA).map V.ref).length ≤ sizeLine := by
      rw [List.length_map, hp3.length_eq]
      rw [List.length_map] at hlen0
      exact hlen0
    refine wpAny_pure ⟨_, rfl, .ref h'.objs.size, upd H h'.objs.size (.lst ((out.map rA).map V.ref)), I1.laid (t' := tk) (fun b u e => ?_) (Nat.le_refl _)
      (show ObjOk X.prog X.w _ _ _ (.lst ((out.map rA).map V.ref)) from ⟨hlen, out, ep', ?_, he'⟩), rfl, q _ _ (hp3.map _) ?_ (I1.hok.fresh (Nat.le_refl _))⟩
    · have hb : b < h'.objs.size := Heap.lt_size e
      rw [PyProof.Rows.sortedHeap_old (Nat.ne_of_lt hb) (by rw [size_push']; exact Nat.lt_succ_of_lt hb)]
      exact Heap.get?_push_of_some _ e
    · have := vals_refsZ (out.map rA)
      rw [← eo] at this
      exact this
    · rw [List.pairwise_map, List.pairwise_map]
      refine List.Pairwise.imp_of_mem (fun {u v} hu hv huv n m hn hm => ?_) h1
      obtain ⟨t, et, ht⟩ := hn
      obtain ⟨t', et', ht'⟩ := hm
      obtain ⟨b, hb, rfl⟩ := List.mem_map.mp (hp.mem_iff.mp hu)
      obtain ⟨b', hb', rfl⟩ := List.mem_map.mp (hp.mem_iff.mp hv)
      cases et
      cases et'
      have huv' : HT.lexLt (SrtL.kOf h' (.ref b')) (SrtL.kOf h' (.ref b)) = false := huv
      rw [SrtL.kOf_eq (v := .ref b) (tupJ_raw I1 ht), SrtL.kOf_eq (v := .ref b') (tupJ_raw I1 ht')] at huv'
      exact huv'
end
end L2
namespace Z
open PySem PySem.Spec PyProof.Rows L2
def sortT (x : D) : Option (List D) := match x with
  | .tup xs => match tupsOf xs with
    | some ts => if ts.all (fun t => !t.isEmpty) then some ((ts.mergeSort leL).map tupD) else none
    | none => none
  | _ => none
/-- sorted(a tuple) -/
def zsortT (o : Ev D) : Ev (List D) := fun σ => mb (o σ) fun x => mo (sortT x)
section
variable {X : Cx} {c : Cn} {W : WX} {e : Expr} {fa : Ev D} {pos p : Pos}
theorem z_sortT (hK : c.K = X.K) (hg : Gl X "sorted") (hm : X.mg "sorted" = none) (h : PE X e (tE c W fa)) (hs : starEach [e] X.env = (false, eval e X.env) :: starEach [] X.env := by rfl) (hpl : (backTo pos (starEach [] X.env)).any (·.1) = false := by rfl) :
    PE X (.Call (.Name "sorted" p) [e] [] pos) (tN c W (zsortT fa)) :=
  (pe_callB cr_sortTT hg hm boot_sorted (pa1 h hs) (he := hs) (hpl := hpl)).zm fun σ H Q ⟨ρ, A, σd, R, S, h⟩ => arg1 <| one R S h fun x xv ρ1 A1 H1 R1 s1 S1 rx h1 => by
    obtain ⟨r, e, h2⟩ := moL R1 h1
    unfold sortT at e
    split at e
    · rename_i xs
      split at e
      · rename_i ts e1
        split at e
        · rename_i q
          cases e
          have ex := tupsOf_map e1
          cases rx with
          | tup ht rvs =>
            rename_i a vs
            refine ⟨a, vs, rfl, by rw [← hK]; exact ht.sq, fun v hv => ?_, fun us p pm pw n => ?_⟩
            · obtain ⟨i, hi, e2⟩ := List.mem_iff_getElem.mp hv
              obtain ⟨dd, g1, g2⟩ := rvs.at' (i := i) (v := v) (by rw [List.getElem?_eq_getElem hi, e2])
              have hm : dd ∈ ts.map tupD := by rw [← ex]; exact List.mem_of_getElem? g1
              obtain ⟨t2, m1, m2⟩ := List.mem_map.mp hm
              subst m2
              have f1 := List.all_eq_true.mp q t2 m1
              cases g2 with
              | tup h r => exact ⟨t2, ⟨_, rfl, by rw [← hK, ← r.ints (intsOf_ints t2)]; exact h.sq⟩, fun z => by subst z; simp at f1⟩
            · obtain ⟨ys, py, ry⟩ := rvs.perm pm
              rw [ex] at py
              obtain ⟨ms, e5, pms⟩ := perm_tups py
              subst e5
              have pw3 := tups_pwL ry (by rw [hK]; exact pw)
              rw [uniq_tups pms pw3] at ry
              exact h2 p us n ry
        · cases e
      · cases e
    · cases e
end
end Z

set_option maxHeartbeats 4000000
noncomputable section
namespace Zp
open PySem PySem.Spec PyProof.Rows L2 Z
def top (i : Nat) : Stmt := PySem.Challenge.pw_doffyard_k40_whole_calls_grown_and_moved.main.body.getD i (.Pass ⟨0, 0, 0, 0⟩)

abbrev i_is_whole : Nat := 0
abbrev i_is_between : Nat := 1
abbrev i_is_stretch : Nat := 2
abbrev i_are_calls : Nat := 3
abbrev i_check_calls : Nat := 4
abbrev i_check_many : Nat := 5
abbrev i_within : Nat := 6
abbrev i_wanted : Nat := 7
abbrev i_plan_by : Nat := 8
abbrev i_least_hands : Nat := 9
abbrev i_with_hands : Nat := 10
abbrev i__law_pool : Nat := 11
abbrev i__law_take : Nat := 12
abbrev i__law_drawn : Nat := 13
abbrev i__law_beats : Nat := 14
abbrev i__law_placed : Nat := 15
abbrev i__law_all_placed : Nat := 16
abbrev i__law_whole : Nat := 17
abbrev i__law_is_plan : Nat := 18
abbrev i__law_is_short : Nat := 19
abbrev i__law_how : Nat := 20
abbrev i__law_some_hands : Nat := 21
abbrev i__law_others : Nat := 22
abbrev i_law : Nat := 23
abbrev N_is_whole : List Str := ["x"]
def mb_is_whole (o : Orc) : Sv :=
 (sseq (sret (zandv (zisi .int (zvar 0)) (zbl (znot (ztru (zisi .bool (zvar 0)))))))
 snil)
def m_is_whole : Fn := ⟨1, 1, mb_is_whole⟩

abbrev N_is_between : List Str := ["x", "low", "high"]
def mb_is_between (o : Orc) : Sv :=
 (sseq (sret (zandv (zcall o i_is_whole (zcons (zvar 0) znil)) (zbl (zchn .le .le (zvar 1) (zvar 0) (zvar 2)))))
 snil)
def m_is_between : Fn := ⟨3, 3, mb_is_between⟩

abbrev N_is_stretch : List Str := ["thing", "most"]
def mb_is_stretch (o : Orc) : Sv :=
 (sseq (sret (zandv (zcall o i_is_between (zcons (zix (zvar 0) (zc (.int 0))) (zcons (zc (.int 1)) (zcons (zc (.int 1000000000000000000000000000000)) znil)))) (zcall o i_is_between (zcons (zix (zvar 0) (zc (.int 1))) (zcons (zix (zvar 0) (zc (.int 0))) (zcons (zvar 1) znil))))))
 snil)
def m_is_stretch : Fn := ⟨2, 2, mb_is_stretch⟩

abbrev N_are_calls : List Str := ["thing", "call", "k"]
def mb_are_calls (o : Orc) : Sv :=
 (sseq (sif (zor (znot (ztru (zisi .tuple (zvar 0)))) (zcmp .gt (zlen (zvar 0)) (zc (.int 12)))) (sseq (sret (zc (.bl false)))
 snil) snil)
 (sseq (sfor (gnm 1) (zof (zvar 0)) (sseq (sif (zor (znot (ztru (zisi .tuple (zvar 1)))) (zor (zcmp .ne (zlen (zvar 1)) (zc (.int 2))) (znot (ztru (zcall o i_is_stretch (zcons (zvar 1) (zcons (zc (.int 1000000000000000000000000000000)) znil))))))) (sseq (sret (zc (.bl false)))
 snil) snil)
 snil))
 (sseq (sret (zallq (zcomp [2] (gnm 2) (zst (zrng (zc (.int 0)) (zbin .sub (zlen (zvar 0)) (zc (.int 1))))) ztt (zbl (zcmp .le (zix (zvar 0) (zvar 2)) (zix (zvar 0) (zbin .add (zvar 2) (zc (.int 1)))))))))
 snil)))
def m_are_calls : Fn := ⟨1, 3, mb_are_calls⟩

abbrev N_check_calls : List Str := ["thing"]
def mb_check_calls (o : Orc) : Sv :=
 (sseq (sif (znot (ztru (zcall o i_are_calls (zcons (zvar 0) znil)))) (sseq (sraise 2)
 snil) snil)
 snil)
def m_check_calls : Fn := ⟨1, 1, mb_check_calls⟩

abbrev N_check_many : List Str := ["many"]
def mb_check_many (o : Orc) : Sv :=
 (sseq (sif (zor (znot (ztru (zcall o i_is_whole (zcons (zvar 0) znil)))) (zcmp .lt (zvar 0) (zc (.int 0)))) (sseq (sraise 1)
 snil) snil)
 snil)
def m_check_many : Fn := ⟨1, 1, mb_check_many⟩

abbrev N_within : List Str := ["calls", "first", "last", "call"]
def mb_within (o : Orc) : Sv :=
 (sseq (sret (zlenq (zst (zcomp [3] (gnm 3) (zof (zvar 0)) (zand (zcmp .le (zvar 1) (zix (zvar 3) (zc (.int 0)))) (zcmp .le (zix (zvar 3) (zc (.int 1))) (zvar 2))) (zvar 3)))))
 snil)
def m_within : Fn := ⟨3, 4, mb_within⟩

abbrev N_wanted : List Str := ["calls", "first", "most", "found", "last", "beats", "hands", "call"]
def mb_wanted (o : Orc) : Sv :=
 (sseq (sasg (gtup 2 (gcons (gnm 2) (gcons (gnm 3) gnil))) (ztup (zcons (zc (.int 0)) (zcons (zc .non) znil))))
 (sseq (sfor (gnm 1) (zst (zsortset (zcomp [7] (gnm 7) (zof (zvar 0)) ztt (zix (zvar 7) (zc (.int 0)))))) (sseq (sfor (gnm 4) (zst (zsortset (zcomp [7] (gnm 7) (zof (zvar 0)) ztt (zix (zvar 7) (zc (.int 1)))))) (sseq (sif (zcmp .le (zvar 1) (zvar 4)) (sseq (sasg (gnm 5) (zbin .add (zbin .sub (zvar 4) (zvar 1)) (zc (.int 1))))
 (sseq (sasg (gnm 6) (zbin .fdiv (zbin .sub (zbin .add (zcall o i_within (zcons (zvar 0) (zcons (zvar 1) (zcons (zvar 4) znil)))) (zvar 5)) (zc (.int 1))) (zvar 5)))
 (sseq (sif (zcmp .gt (zvar 6) (zvar 2)) (sseq (spar 2 3 (zcons (zvar 6) (zcons (ztup (zcons (zvar 1) (zcons (zvar 4) znil))) znil)))
 snil) snil)
 snil))) snil)
 snil))
 snil))
 (sseq (sret (ztup (zcons (zvar 2) (zcons (zvar 3) znil))))
 snil)))
def m_wanted : Fn := ⟨1, 8, mb_wanted⟩

abbrev N_plan_by : List Str := ["calls", "many", "plan", "beat", "left", "ready", "last", "k"]
def mb_plan_by (o : Orc) : Sv :=
 (sseq (sasg (gnm 2) (znew (zrep (zlst (zcons (zc .non) znil)) (zlen (zvar 0)))))
 (sseq (sasg (gnm 3) (zc (.int 0)))
 (sseq (sasg (gnm 4) (znew (zlst (zrng (zc (.int 0)) (zlen (zvar 0))))))
 (sseq (swhile (zcmp .ne (zvar 4) (zfz (zlst znil))) (sseq (sasg (gnm 3) (zmx2 (zbin .add (zvar 3) (zc (.int 1))) (zminq (zcomp [7] (gnm 7) (zof (zvar 4)) ztt (zix (zix (zvar 0) (zvar 7)) (zc (.int 0)))))))
 (sseq (sasg (gnm 5) (zfz (zsort (zcomp [7] (gnm 7) (zof (zvar 4)) (zcmp .le (zix (zix (zvar 0) (zvar 7)) (zc (.int 0))) (zvar 3)) (ztup (zcons (zix (zix (zvar 0) (zvar 7)) (zc (.int 1))) (zcons (zvar 7) znil)))))))
 (sseq (sfor (gtup 2 (gcons (gnm 6) (gcons (gnm 7) gnil))) (zst (zslL (zvar 5) znone (zsome (zvar 1)))) (sseq (sasg (gsub (zvar 2) (zvar 7)) (zvar 3))
 (sseq (sexp (zm1 .remove (zvar 4) (zvar 7)))
 snil)))
 snil))))
 (sseq (sret (ztupq (zof (zvar 2))))
 snil)))))
def m_plan_by : Fn := ⟨2, 8, mb_plan_by⟩

abbrev N_least_hands : List Str := ["calls", "many", "stretch"]
def mb_least_hands (o : Orc) : Sv :=
 (sseq (sexp (zcall o i_check_calls (zcons (zvar 0) znil)))
 (sseq (sasg (gtup 2 (gcons (gnm 1) (gcons (gnm 2) gnil))) (zcall o i_wanted (zcons (zvar 0) znil)))
 (sseq (sret (ztup (zcons (zvar 1) (zcons (zcall o i_plan_by (zcons (zvar 0) (zcons (zvar 1) znil))) (zcons (zvar 2) znil)))))
 snil)))
def m_least_hands : Fn := ⟨1, 3, mb_least_hands⟩

abbrev N_with_hands : List Str := ["calls", "many", "most", "stretch"]
def mb_with_hands (o : Orc) : Sv :=
 (sseq (sexp (zcall o i_check_calls (zcons (zvar 0) znil)))
 (sseq (sexp (zcall o i_check_many (zcons (zvar 1) znil)))
 (sseq (sasg (gtup 2 (gcons (gnm 2) (gcons (gnm 3) gnil))) (zcall o i_wanted (zcons (zvar 0) znil)))
 (sseq (sif (zcmp .le (zvar 2) (zvar 1)) (sseq (sret (ztup (zcons (zc (.str "plan")) (zcons (zcall o i_plan_by (zcons (zvar 0) (zcons (zvar 1) znil))) znil))))
 snil) snil)
 (sseq (sret (zbin .add (ztup (zcons (zc (.str "short")) znil)) (zvar 3)))
 snil)))))
def m_with_hands : Fn := ⟨2, 4, mb_with_hands⟩

abbrev N__law_pool : List Str := ["_law_script", "_law_k", "_law_cell", "_law_more", "_law_found", "_law_turn"]
def mb__law_pool (o : Orc) : Sv :=
 (sseq (sasg (gnm 2) (zsumq (zslL (zvar 0) (zsome (zvar 1)) (zsome (zbin .add (zvar 1) (zc (.int 1)))))))
 (sseq (sif (zor (zcmp .lt (zvar 2) (zc (.int 0))) (zcmp .ge (zvar 2) (zbin .pow (zc (.int 10)) (zc (.int 18))))) (sseq (sret (znew (zlst (zcons (zbin .mod (zabs (zvar 2)) (zbin .mul (zbin .mul (zbin .mul (zbin .mul (zbin .mul (zbin .pow (zc (.int 10)) (zc (.int 64))) (zbin .pow (zc (.int 10)) (zc (.int 64)))) (zbin .pow (zc (.int 10)) (zc (.int 64)))) (zbin .pow (zc (.int 10)) (zc (.int 64)))) (zbin .pow (zc (.int 10)) (zc (.int 64)))) (zbin .pow (zc (.int 10)) (zc (.int 64))))) znil))))
 snil) snil)
 (sseq (sasg (gnm 3) (zbin .add (zbin .add (zbin .mul (zvar 2) (zc (.int 48271))) (zbin .mul (zbin .mul (zc (.int 977)) (zvar 1)) (zvar 1))) (zc (.int 13))))
 (sseq (sasg (gnm 4) (zc (.int 0)))
 (sseq (sfor (gnm 5) (zst (zrng (zc (.int 0)) (zc (.int 27)))) (sseq (sasg (gnm 3) (zbin .mod (zbin .add (zbin .add (zbin .mul (zbin .mod (zvar 3) (zc (.int 999999999989))) (zc (.int 69621))) (zbin .mul (zc (.int 40503)) (zvar 5))) (zc (.int 271))) (zc (.int 999999999989))))
 (sseq (sasg (gnm 4) (zbin .add (zbin .mul (zvar 4) (zbin .pow (zc (.int 10)) (zc (.int 11)))) (zbin .mod (zbin .mul (zvar 3) (zbin .add (zbin .mod (zvar 3) (zc (.int 65537))) (zc (.int 3)))) (zc (.int 99999999977)))))
 snil)))
 (sseq (sret (znew (zlst (zcons (zvar 4) znil))))
 snil))))))
def m__law_pool : Fn := ⟨2, 6, mb__law_pool⟩

abbrev N__law_take : List Str := ["_law_pool_here", "_law_many", "_law_digit"]
def mb__law_take (o : Orc) : Sv :=
 (sseq (sasg (gtup 2 (gcons (gsub (zvar 0) (zc (.int 0))) (gcons (gnm 2) gnil))) (zdvm (zix (zvar 0) (zc (.int 0))) (zvar 1)))
 (sseq (sret (zvar 2))
 snil))
def m__law_take : Fn := ⟨2, 3, mb__law_take⟩

abbrev N__law_drawn : List Str := ["_law_pool_here", "_law_base", "_law_found", "_law_turn", "_law_wide", "_law_late", "_law_first"]
def lb__law_drawn_0 (o : Orc) : Sv :=
 (sseq (sasg (gnm 6) (zbin .add (zbin .add (zvar 1) (zc (.int 1))) (zcall o i__law_take (zcons (zvar 0) (zcons (zvar 4) znil)))))
 (sseq (sexp (zm1 .append (zvar 2) (ztup (zcons (zvar 6) (zcons (zbin .add (zvar 6) (zcall o i__law_take (zcons (zvar 0) (zcons (zvar 5) znil)))) znil)))))
 snil))
def mb__law_drawn (o : Orc) : Sv :=
 (sseq (sasg (gnm 1) (zix (zfz (zlst (zcons (zc (.int 0)) (zcons (zc (.int 0)) (zcons (zbin .sub (zbin .pow (zc (.int 10)) (zc (.int 30))) (zc (.int 300))) znil))))) (zcall o i__law_take (zcons (zvar 0) (zcons (zc (.int 3)) znil)))))
 (sseq (spar 4 5 (zcons (zix (zfz (zlst (zcons (zc (.int 3)) (zcons (zc (.int 8)) (zcons (zc (.int 40)) znil))))) (zcall o i__law_take (zcons (zvar 0) (zcons (zc (.int 3)) znil)))) (zcons (zix (zfz (zlst (zcons (zc (.int 1)) (zcons (zc (.int 3)) (zcons (zc (.int 6)) (zcons (zc (.int 60)) znil)))))) (zcall o i__law_take (zcons (zvar 0) (zcons (zc (.int 4)) znil)))) znil)))
 (sseq (sasg (gnm 2) (znew (zlst znil)))
 (sseq (sfor (gnm 3) (zst (zrng (zc (.int 0)) (zcall o i__law_take (zcons (zvar 0) (zcons (zc (.int 12)) znil))))) (lb__law_drawn_0 o))
 (sseq (sret (ztupq (zst (zsort (zofL (zvar 2))))))
 snil)))))
def m__law_drawn : Fn := ⟨1, 7, mb__law_drawn⟩

abbrev N__law_beats : List Str := ["_law_call", "_law_many"]
def mb__law_beats (o : Orc) : Sv :=
 (sseq (sret (zfz (zlrg (zix (zvar 0) (zc (.int 0))) (zbin .add (zmn2 (zix (zvar 0) (zc (.int 1))) (zbin .add (zix (zvar 0) (zc (.int 0))) (zvar 1))) (zc (.int 1))))))
 snil)
def m__law_beats : Fn := ⟨2, 2, mb__law_beats⟩

abbrev N__law_placed : List Str := ["_law_calls", "_law_hands", "_law_at", "_law_places", "_law_tried", "_law_beat", "_law_there", "_law_other", "_law_k"]
def lb__law_placed_0 (o : Orc) : Sv :=
 (sseq (sif (ztru (zcall o i__law_placed (zcons (zvar 0) (zcons (zvar 1) (zcons (zvar 7) (zcons (zvar 3) (zcons (zvar 4) znil))))))) (sseq (sasg (gsubK (zvar 3) (zvar 2)) (zvar 5))
 (sseq (sret (zc (.bl true)))
 snil)) snil)
 snil)
def lb__law_placed_1 (o : Orc) : Sv :=
 (sseq (sif (zdnin (zvar 5) (zvar 4)) (sseq (sasg (gsubK (zvar 4) (zvar 5)) (zc (.bl true)))
 (sseq (sasg (gnm 6) (zfz (zdkeys 3 5 8)))
 (sseq (sif (zcmp .lt (zlen (zvar 6)) (zvar 1)) (sseq (sasg (gsubK (zvar 3) (zvar 2)) (zvar 5))
 (sseq (sret (zc (.bl true)))
 snil)) snil)
 (sseq (sfor (gnm 7) (zof (zvar 6)) (lb__law_placed_0 o))
 snil)))) snil)
 snil)
def mb__law_placed (o : Orc) : Sv :=
 (sseq (sfor (gnm 5) (zof (zcall o i__law_beats (zcons (zix (zvar 0) (zvar 2)) (zcons (zlen (zvar 0)) znil)))) (lb__law_placed_1 o))
 (sseq (sret (zc (.bl false)))
 snil))
def m__law_placed : Fn := ⟨5, 9, mb__law_placed⟩

abbrev N__law_all_placed : List Str := ["_law_calls", "_law_hands", "_law_places", "_law_at"]
def ce__law_all_placed_0 (o : Orc) : Ev D :=
 (zcall o i__law_placed (zcons (zvar 0) (zcons (zvar 1) (zcons (zvar 3) (zcons (zvar 2) (zcons znewK znil))))))
def mb__law_all_placed (o : Orc) : Sv :=
 (sseq (sasg (gnm 2) znewK)
 (sseq (sif (zcmp .eq (zvar 1) (zc (.int 0))) (sseq (sret (zbl (zcmp .eqE (zvar 0) (ztup znil))))
 snil) snil)
 (sseq (sret (zallq (zcomp [3] (gnm 3) (zst (zrng (zc (.int 0)) (zlen (zvar 0)))) ztt (ce__law_all_placed_0 o))))
 snil)))
def m__law_all_placed : Fn := ⟨2, 4, mb__law_all_placed⟩

abbrev N__law_whole : List Str := ["_law_thing"]
def mb__law_whole (o : Orc) : Sv :=
 (sseq (sret (zandv (zisi .int (zvar 0)) (zbl (znot (ztru (zisi .bool (zvar 0)))))))
 snil)
def m__law_whole : Fn := ⟨1, 1, mb__law_whole⟩

abbrev N__law_is_plan : List Str := ["_law_calls", "_law_plan", "_law_hands", "_law_beat", "_law_call"]
def mb__law_is_plan (o : Orc) : Sv :=
 (sseq (sif (zor (znot (ztru (zisi .tuple (zvar 1)))) (zor (zcmp .ne (zlen (zvar 1)) (zlen (zvar 0))) (znot (ztru (zallq (zcomp [3] (gnm 3) (zof (zvar 1)) ztt (zcall o i__law_whole (zcons (zvar 3) znil)))))))) (sseq (sret (zc (.bl false)))
 snil) snil)
 (sseq (sif (znot (ztru (zallq (zcomp [4, 3] (gtup 2 (gcons (gnm 4) (gcons (gnm 3) gnil))) (zzip (zvar 0) (zvar 1)) ztt (zbl (zchn .le .le (zix (zvar 4) (zc (.int 0))) (zvar 3) (zix (zvar 4) (zc (.int 1))))))))) (sseq (sret (zc (.bl false)))
 snil) snil)
 (sseq (sret (zbl (zcmp .le (zmaxq (zcatL (zfz (zlst (zcons (zc (.int 0)) znil))) (zfz (zcomp [3] (gnm 3) (zof (zvar 1)) ztt (zcnt (zvar 1) (zvar 3)))))) (zvar 2))))
 snil)))
def m__law_is_plan : Fn := ⟨3, 5, mb__law_is_plan⟩

abbrev N__law_is_short : List Str := ["_law_calls", "_law_first", "_law_last", "_law_hands", "_law_call"]
def mb__law_is_short (o : Orc) : Sv :=
 (sseq (sif (zor (znot (ztru (zcall o i__law_whole (zcons (zvar 1) znil)))) (zor (znot (ztru (zcall o i__law_whole (zcons (zvar 2) znil)))) (znot (zcmp .le (zvar 1) (zvar 2))))) (sseq (sret (zc (.bl false)))
 snil) snil)
 (sseq (sret (zbl (zcmp .gt (zlenq (zst (zcomp [4] (gnm 4) (zof (zvar 0)) (zand (zcmp .le (zvar 1) (zix (zvar 4) (zc (.int 0)))) (zcmp .le (zix (zvar 4) (zc (.int 1))) (zvar 2))) (zc (.int 1))))) (zbin .mul (zvar 3) (zbin .add (zbin .sub (zvar 2) (zvar 1)) (zc (.int 1)))))))
 snil))
def m__law_is_short : Fn := ⟨4, 5, mb__law_is_short⟩

abbrev N__law_how : List Str := ["_law_calls", "_law_found", "_law_how_here", "_law_plan", "_law_stretch"]
def mb__law_how (o : Orc) : Sv :=
 (sseq (sasg (gnm 1) (zcall o i_least_hands (zcons (zvar 0) znil)))
 (sseq (sif (zor (znot (ztru (zisi .tuple (zvar 1)))) (zor (zcmp .ne (zlen (zvar 1)) (zc (.int 3))) (znot (ztru (zcall o i__law_whole (zcons (zix (zvar 1) (zc (.int 0))) znil)))))) (sseq (sret (zc .non))
 snil) snil)
 (sseq (sasg (gtup 3 (gcons (gnm 2) (gcons (gnm 3) (gcons (gnm 4) gnil)))) (zvar 1))
 (sseq (sif (zor (znot (ztru (zcall o i__law_is_plan (zcons (zvar 0) (zcons (zvar 3) (zcons (zvar 2) znil)))))) (znot (ztru (zcall o i__law_all_placed (zcons (zvar 0) (zcons (zvar 2) znil)))))) (sseq (sret (zc .non))
 snil) snil)
 (sseq (sif (zcmp .eq (zvar 2) (zc (.int 0))) (sseq (sret (zix (zfz (zlst (zcons (zc .non) (zcons (zc (.int 0)) znil)))) (zint (zandv (zbl (zcmp .eqE (zvar 0) (ztup znil))) (zbl (zcmp .isN (zvar 4) (zc .non)))))))
 snil) snil)
 (sseq (sif (zor (znot (ztru (zisi .tuple (zvar 4)))) (zor (zcmp .ne (zlen (zvar 4)) (zc (.int 2))) (ztru (zcall o i__law_all_placed (zcons (zvar 0) (zcons (zbin .sub (zvar 2) (zc (.int 1))) znil)))))) (sseq (sret (zc .non))
 snil) snil)
 (sseq (sret (zix (zfz (zlst (zcons (zc .non) (zcons (zvar 2) znil)))) (zint (zcall o i__law_is_short (zcons (zvar 0) (zcons (zix (zvar 4) (zc (.int 0))) (zcons (zix (zvar 4) (zc (.int 1))) (zcons (zbin .sub (zvar 2) (zc (.int 1))) znil))))))))
 snil)))))))
def m__law_how : Fn := ⟨1, 5, mb__law_how⟩

abbrev N__law_some_hands : List Str := ["_law_calls", "_law_how_here", "_law_hands", "_law_said"]
def lb__law_some_hands_0 (o : Orc) : Sv :=
 (sseq (sasg (gnm 3) (zcall o i_with_hands (zcons (zvar 0) (zcons (zvar 2) znil))))
 (sseq (sif (zor (znot (ztru (zisi .tuple (zvar 3)))) (zor (zcmp .ne (zlen (zvar 3)) (zc (.int 2))) (zcmp .ne (zix (zvar 3) (zc (.int 0))) (zc (.str "plan"))))) (sseq (sret (zc (.bl false)))
 snil) snil)
 (sseq (sif (znot (ztru (zcall o i__law_is_plan (zcons (zvar 0) (zcons (zix (zvar 3) (zc (.int 1))) (zcons (zvar 2) znil)))))) (sseq (sret (zc (.bl false)))
 snil) snil)
 snil)))
def lb__law_some_hands_1 (o : Orc) : Sv :=
 (sseq (sasg (gnm 3) (zcall o i_with_hands (zcons (zvar 0) (zcons (zvar 2) znil))))
 (sseq (sif (zor (znot (ztru (zisi .tuple (zvar 3)))) (zor (zcmp .ne (zlen (zvar 3)) (zc (.int 3))) (zcmp .ne (zix (zvar 3) (zc (.int 0))) (zc (.str "short"))))) (sseq (sret (zc (.bl false)))
 snil) snil)
 (sseq (sif (znot (ztru (zcall o i__law_is_short (zcons (zvar 0) (zcons (zix (zvar 3) (zc (.int 1))) (zcons (zix (zvar 3) (zc (.int 2))) (zcons (zvar 2) znil))))))) (sseq (sret (zc (.bl false)))
 snil) snil)
 snil)))
def mb__law_some_hands (o : Orc) : Sv :=
 (sseq (sfor (gnm 2) (zst (zlst (zcons (zvar 1) (zcons (zbin .add (zvar 1) (zc (.int 1))) (zcons (zbin .add (zvar 1) (zc (.int 7))) (zcons (zbin .pow (zc (.int 10)) (zc (.int 30))) znil)))))) (lb__law_some_hands_0 o))
 (sseq (sfor (gnm 2) (zst (zrng (zc (.int 0)) (zvar 1))) (lb__law_some_hands_1 o))
 (sseq (sret (zc (.bl true)))
 snil)))
def m__law_some_hands : Fn := ⟨2, 4, mb__law_some_hands⟩

abbrev N__law_others : List Str := ["_law_pool_here", "_law_calls", "_law_how_here", "_law_first", "_law_found", "_law_move", "_law_at", "_law_rest", "_law_one", "_law_other"]
def ce__law_others_0 (o : Orc) : Ev D :=
 (ztup (zcons (zbin .add (zvar 8) (zvar 5)) (zcons (zbin .add (zvar 9) (zvar 5)) znil)))
def mb__law_others (o : Orc) : Sv :=
 (sseq (sasg (gnm 3) (zbin .add (zc (.int 1)) (zcall o i__law_take (zcons (zvar 0) (zcons (zc (.int 40)) znil)))))
 (sseq (sasg (gnm 4) (znew (zlst (zcons (ztup (zcons (ztupq (zst (zsortT (zbin .add (zvar 1) (ztup (zcons (ztup (zcons (zvar 3) (zcons (zbin .add (zvar 3) (zcall o i__law_take (zcons (zvar 0) (zcons (zc (.int 4)) znil)))) znil))) znil)))))) (zcons (zvar 2) (zcons (zbin .add (zvar 2) (zc (.int 1))) znil)))) znil))))
 (sseq (sasg (gnm 5) (zcall o i__law_take (zcons (zvar 0) (zcons (zc (.int 200)) znil))))
 (sseq (sexp (zm1 .append (zvar 4) (ztup (zcons (ztupq (zst (zcomp [8, 9] (gtup 2 (gcons (gnm 8) (gcons (gnm 9) gnil))) (zof (zvar 1)) ztt (ce__law_others_0 o)))) (zcons (zvar 2) (zcons (zvar 2) znil))))))
 (sseq (sif (zcmp .lt (zlen (zvar 1)) (zc (.int 7))) (sseq (sexp (zm1 .append (zvar 4) (ztup (zcons (ztupq (zst (zsortT (zbin .add (zvar 1) (zvar 1))))) (zcons (zvar 2) (zcons (zbin .mul (zc (.int 2)) (zvar 2)) znil))))))
 snil) snil)
 (sseq (sif (zcmp .ne (zvar 1) (ztup znil)) (sseq (sasg (gnm 6) (zcall o i__law_take (zcons (zvar 0) (zcons (zlen (zvar 1)) znil))))
 (sseq (sasg (gtup 2 (gcons (gnm 7) (gcons (gtup 2 (gcons (gnm 8) (gcons (gnm 9) gnil))) gnil))) (ztup (zcons (zbin .add (zslT (zvar 1) znone (zsome (zvar 6))) (zslT (zvar 1) (zsome (zbin .add (zvar 6) (zc (.int 1)))) znone)) (zcons (zix (zvar 1) (zvar 6)) znil))))
 (sseq (sexp (zm1 .append (zvar 4) (ztup (zcons (zvar 7) (zcons (zbin .sub (zvar 2) (zc (.int 1))) (zcons (zvar 2) znil))))))
 (sseq (sexp (zm1 .append (zvar 4) (ztup (zcons (ztupq (zst (zsortT (zbin .add (zvar 7) (ztup (zcons (ztup (zcons (zvar 8) (zcons (zbin .add (zvar 9) (zcall o i__law_take (zcons (zvar 0) (zcons (zc (.int 9)) znil)))) znil))) znil)))))) (zcons (zbin .sub (zvar 2) (zc (.int 1))) (zcons (zvar 2) znil))))))
 (sseq (sexp (zm1 .append (zvar 4) (ztup (zcons (ztupq (zst (zsortT (zbin .add (zvar 7) (ztup (zcons (ztup (zcons (zvar 8) (zcons (zmx2 (zvar 8) (zbin .sub (zvar 9) (zcall o i__law_take (zcons (zvar 0) (zcons (zc (.int 4)) znil))))) znil))) znil)))))) (zcons (zvar 2) (zcons (zbin .add (zvar 2) (zc (.int 1))) znil))))))
 snil))))) snil)
 (sseq (sret (zvar 4))
 snil)))))))
def m__law_others : Fn := ⟨3, 10, mb__law_others⟩

abbrev N_law : List Str := ["_law_script", "_law_k", "_law_pool_here", "_law_calls", "_law_how_here", "_law_others_here", "_law_least", "_law_most", "_law_found"]
def lb_law_0 (o : Orc) : Sv :=
 (sseq (sasg (gnm 8) (zcall o i__law_how (zcons (zvar 5) znil)))
 (sseq (sif (zor (zcmp .isN (zvar 8) (zc .non)) (znot (zchn .le .le (zvar 6) (zvar 8) (zvar 7)))) (sseq (sret (zc (.bl false)))
 snil) snil)
 snil))
def lb_law_1 (o : Orc) : Sv :=
 (sseq (sasg (gnm 2) (zcall o i__law_pool (zcons (zvar 0) (zcons (zvar 1) znil))))
 (sseq (sasg (gnm 3) (zcall o i__law_drawn (zcons (zvar 2) znil)))
 (sseq (sasg (gnm 4) (zcall o i__law_how (zcons (zvar 3) znil)))
 (sseq (sif (zor (zcmp .isN (zvar 4) (zc .non)) (znot (ztru (zcall o i__law_some_hands (zcons (zvar 3) (zcons (zvar 4) znil)))))) (sseq (sret (zc (.bl false)))
 snil) snil)
 (sseq (sfor (gtup 3 (gcons (gnm 5) (gcons (gnm 6) (gcons (gnm 7) gnil)))) (zof (zcall o i__law_others (zcons (zvar 2) (zcons (zvar 3) (zcons (zvar 4) znil))))) (lb_law_0 o))
 snil)))))
def mb_law (o : Orc) : Sv :=
 (sseq (sfor (gnm 1) (zst (zrng (zc (.int 0)) (zmx2 (zc (.int 2)) (zmn2 (zlen (zvar 0)) (zc (.int 10)))))) (lb_law_1 o))
 (sseq (sret (zc (.bl true)))
 snil))
def m_law : Fn := ⟨1, 9, mb_law⟩

noncomputable def Pg : List Fn := [m_is_whole, m_is_between, m_is_stretch, m_are_calls, m_check_calls, m_check_many, m_within, m_wanted, m_plan_by, m_least_hands, m_with_hands, m__law_pool, m__law_take, m__law_drawn, m__law_beats, m__law_placed, m__law_all_placed, m__law_whole, m__law_is_plan, m__law_is_short, m__law_how, m__law_some_hands, m__law_others, m_law]

theorem c_is_whole (k : Nat) (a0 : D) (A : Hh) : callN Pg (k + 1) i_is_whole [a0] A = endD A (mb_is_whole ⟨callN Pg k⟩ [some a0] A) := rfl
theorem c_is_between (k : Nat) (a0 a1 a2 : D) (A : Hh) : callN Pg (k + 1) i_is_between [a0, a1, a2] A = endD A (mb_is_between ⟨callN Pg k⟩ [some a0, some a1, some a2] A) := rfl
theorem c_is_stretch (k : Nat) (a0 a1 : D) (A : Hh) : callN Pg (k + 1) i_is_stretch [a0, a1] A = endD A (mb_is_stretch ⟨callN Pg k⟩ [some a0, some a1] A) := rfl
theorem c_are_calls (k : Nat) (a0 : D) (A : Hh) : callN Pg (k + 1) i_are_calls [a0] A = endD A (mb_are_calls ⟨callN Pg k⟩ [some a0, none, none] A) := rfl
theorem c_check_calls (k : Nat) (a0 : D) (A : Hh) : callN Pg (k + 1) i_check_calls [a0] A = endD A (mb_check_calls ⟨callN Pg k⟩ [some a0] A) := rfl
theorem c_check_many (k : Nat) (a0 : D) (A : Hh) : callN Pg (k + 1) i_check_many [a0] A = endD A (mb_check_many ⟨callN Pg k⟩ [some a0] A) := rfl
theorem c_within (k : Nat) (a0 a1 a2 : D) (A : Hh) : callN Pg (k + 1) i_within [a0, a1, a2] A = endD A (mb_within ⟨callN Pg k⟩ [some a0, some a1, some a2, none] A) := rfl
theorem c_wanted (k : Nat) (a0 : D) (A : Hh) : callN Pg (k + 1) i_wanted [a0] A = endD A (mb_wanted ⟨callN Pg k⟩ [some a0, none, none, none, none, none, none, none] A) := rfl
theorem c_plan_by (k : Nat) (a0 a1 : D) (A : Hh) : callN Pg (k + 1) i_plan_by [a0, a1] A = endD A (mb_plan_by ⟨callN Pg k⟩ [some a0, some a1, none, none, none, none, none, none] A) := rfl
theorem c_least_hands (k : Nat) (a0 : D) (A : Hh) : callN Pg (k + 1) i_least_hands [a0] A = endD A (mb_least_hands ⟨callN Pg k⟩ [some a0, none, none] A) := rfl
theorem c_with_hands (k : Nat) (a0 a1 : D) (A : Hh) : callN Pg (k + 1) i_with_hands [a0, a1] A = endD A (mb_with_hands ⟨callN Pg k⟩ [some a0, some a1, none, none] A) := rfl
theorem c__law_pool (k : Nat) (a0 a1 : D) (A : Hh) : callN Pg (k + 1) i__law_pool [a0, a1] A = endD A (mb__law_pool ⟨callN Pg k⟩ [some a0, some a1, none, none, none, none] A) := rfl
theorem c__law_take (k : Nat) (a0 a1 : D) (A : Hh) : callN Pg (k + 1) i__law_take [a0, a1] A = endD A (mb__law_take ⟨callN Pg k⟩ [some a0, some a1, none] A) := rfl
theorem c__law_drawn (k : Nat) (a0 : D) (A : Hh) : callN Pg (k + 1) i__law_drawn [a0] A = endD A (mb__law_drawn ⟨callN Pg k⟩ [some a0, none, none, none, none, none, none] A) := rfl
theorem c__law_beats (k : Nat) (a0 a1 : D) (A : Hh) : callN Pg (k + 1) i__law_beats [a0, a1] A = endD A (mb__law_beats ⟨callN Pg k⟩ [some a0, some a1] A) := rfl
theorem c__law_placed (k : Nat) (a0 a1 a2 a3 a4 : D) (A : Hh) : callN Pg (k + 1) i__law_placed [a0, a1, a2, a3, a4] A = endD A (mb__law_placed ⟨callN Pg k⟩ [some a0, some a1, some a2, some a3, some a4, none, none, none, none] A) := rfl
theorem c__law_all_placed (k : Nat) (a0 a1 : D) (A : Hh) : callN Pg (k + 1) i__law_all_placed [a0, a1] A = endD A (mb__law_all_placed ⟨callN Pg k⟩ [some a0, some a1, none, none] A) := rfl
theorem c__law_whole (k : Nat) (a0 : D) (A : Hh) : callN Pg (k + 1) i__law_whole [a0] A = endD A (mb__law_whole ⟨callN Pg k⟩ [some a0] A) := rfl
theorem c__law_is_plan (k : Nat) (a0 a1 a2 : D) (A : Hh) : callN Pg (k + 1) i__law_is_plan [a0, a1, a2] A = endD A (mb__law_is_plan ⟨callN Pg k⟩ [some a0, some a1, some a2, none, none] A) := rfl
theorem c__law_is_short (k : Nat) (a0 a1 a2 a3 : D) (A : Hh) : callN Pg (k + 1) i__law_is_short [a0, a1, a2, a3] A = endD A (mb__law_is_short ⟨callN Pg k⟩ [some a0, some a1, some a2, some a3, none] A) := rfl
theorem c__law_how (k : Nat) (a0 : D) (A : Hh) : callN Pg (k + 1) i__law_how [a0] A = endD A (mb__law_how ⟨callN Pg k⟩ [some a0, none, none, none, none] A) := rfl
theorem c__law_some_hands (k : Nat) (a0 a1 : D) (A : Hh) : callN Pg (k + 1) i__law_some_hands [a0, a1] A = endD A (mb__law_some_hands ⟨callN Pg k⟩ [some a0, some a1, none, none] A) := rfl
theorem c__law_others (k : Nat) (a0 a1 a2 : D) (A : Hh) : callN Pg (k + 1) i__law_others [a0, a1, a2] A = endD A (mb__law_others ⟨callN Pg k⟩ [some a0, some a1, some a2, none, none, none, none, none, none, none] A) := rfl
theorem c_law (k : Nat) (a0 : D) (A : Hh) : callN Pg (k + 1) i_law [a0] A = endD A (mb_law ⟨callN Pg k⟩ [some a0, none, none, none, none, none, none, none, none] A) := rfl
structure Fs (P : Program) (w : World) (K : PySem.W.Frag) (mg : Str → Option Value) (base : Heap) (c : Cn) (k : Nat) : Prop where
  b_abs : mg "abs" = none
  b_all : mg "all" = none
  b_bool : mg "bool" = none
  b_divmod : mg "divmod" = none
  b_int : mg "int" = none
  b_isinstance : mg "isinstance" = none
  b_len : mg "len" = none
  b_list : mg "list" = none
  b_max : mg "max" = none
  b_min : mg "min" = none
  b_range : mg "range" = none
  b_set : mg "set" = none
  b_sorted : mg "sorted" = none
  b_sum : mg "sum" = none
  b_tuple : mg "tuple" = none
  b_zip : mg "zip" = none
  i_BIG : ∃ t, mg "BIG" = some (.int 1000000000000000000000000000000 t)
  i_MOST_CALLS : ∃ t, mg "MOST_CALLS" = some (.int 12 t)
  e_NoMany : mg "NoMany" = some (.ref (c.eA 1))
  e_NoCalls : mg "NoCalls" = some (.ref (c.eA 2))
  r_NoMany : Rsb K mg c "NoMany" 1
  r_NoCalls : Rsb K mg c "NoCalls" 2
  ex : ExF K c.eA 3
  f_is_whole : Cal P w K mg base c Pg k "is_whole" 0
  f_is_between : Cal P w K mg base c Pg k "is_between" 1
  f_is_stretch : Cal P w K mg base c Pg k "is_stretch" 2
  f_are_calls : Cal P w K mg base c Pg k "are_calls" 3
  f_check_calls : Cal P w K mg base c Pg k "check_calls" 4
  f_check_many : Cal P w K mg base c Pg k "check_many" 5
  f_within : Cal P w K mg base c Pg k "within" 6
  f_wanted : Cal P w K mg base c Pg k "wanted" 7
  f_plan_by : Cal P w K mg base c Pg k "plan_by" 8
  f_least_hands : Cal P w K mg base c Pg k "least_hands" 9
  f_with_hands : Cal P w K mg base c Pg k "with_hands" 10
  f__law_pool : Cal P w K mg base c Pg k "_law_pool" 11
  f__law_take : Cal P w K mg base c Pg k "_law_take" 12
  f__law_drawn : Cal P w K mg base c Pg k "_law_drawn" 13
  f__law_beats : Cal P w K mg base c Pg k "_law_beats" 14
  f__law_placed : Cal P w K mg base c Pg k "_law_placed" 15
  f__law_all_placed : Cal P w K mg base c Pg k "_law_all_placed" 16
  f__law_whole : Cal P w K mg base c Pg k "_law_whole" 17
  f__law_is_plan : Cal P w K mg base c Pg k "_law_is_plan" 18
  f__law_is_short : Cal P w K mg base c Pg k "_law_is_short" 19
  f__law_how : Cal P w K mg base c Pg k "_law_how" 20
  f__law_some_hands : Cal P w K mg base c Pg k "_law_some_hands" 21
  f__law_others : Cal P w K mg base c Pg k "_law_others" 22
  f_law : Cal P w K mg base c Pg k "law" 23
section
variable {P : Program} {w : World} {K : PySem.W.Frag} {mg : Str → Option Value} {base : Heap} {c : Cn} {k : Nat} {cdv : Value} {A : Around} {outer : List Env} {s : Shared} {H : Hp} {E : XK} {f : Addr}
theorem sc_is_whole : FnScope N_is_whole ["x"] (defScope (top 6)) := ⟨rfl, rfl, rfl, by decide +kernel, rfl, by decide +kernel, by decide +kernel⟩
theorem b_is_whole (F : Fs P w K mg base c k) (hK : c.K = K) (hr : Room k (A.deeper (envOfC "is_whole" (defScope (top 6)) s.heap.objs.size f cdv))) :
    PSs (cxOf (L2.CX P w) P w K mg base N_is_whole "is_whole" (defScope (top 6)) f cdv A outer s H E) (defBody (top 6)) (tS c (fun cls d _ H' => E cls d H') (mb_is_whole ⟨callN Pg k⟩)) := by
  have hu := room_u hr
  have nd : (N_is_whole).Nodup := sc_is_whole.nd
  have tk : Takes (cxOf (L2.CX P w) P w K mg base N_is_whole "is_whole" (defScope (top 6)) f cdv A outer s H E) (fun cls d _ H' => E cls d H') := takes_of rfl rfl rfl rfl
  have hp : PassesOwn (model P w) (A.deeper (envOfC "is_whole" (defScope (top 6)) s.heap.objs.size f cdv)) (envOfC "is_whole" (defScope (top 6)) s.heap.objs.size f cdv) (cxOf (L2.CX P w) P w K mg base N_is_whole "is_whole" (defScope (top 6)) f cdv A outer s H E).xe := passes_of rfl
  delta mb_is_whole
  exact (s_cons (s_ret (z_andv hK (z_isi .int hK (by rfl) F.b_isinstance (by rfl) F.b_int (z_var 0)) (z_onev (z_notv hK (z_isi .bool hK (by rfl) F.b_isinstance (by rfl) F.b_bool (z_var 0))))))
 s_nil)

theorem sc_is_between : FnScope N_is_between ["x", "low", "high"] (defScope (top 7)) := ⟨rfl, rfl, rfl, by decide +kernel, rfl, by decide +kernel, by decide +kernel⟩
theorem b_is_between (F : Fs P w K mg base c k) (hK : c.K = K) (hr : Room k (A.deeper (envOfC "is_between" (defScope (top 7)) s.heap.objs.size f cdv))) :
    PSs (cxOf (L2.CX P w) P w K mg base N_is_between "is_between" (defScope (top 7)) f cdv A outer s H E) (defBody (top 7)) (tS c (fun cls d _ H' => E cls d H') (mb_is_between ⟨callN Pg k⟩)) := by
  have hu := room_u hr
  have nd : (N_is_between).Nodup := sc_is_between.nd
  have tk : Takes (cxOf (L2.CX P w) P w K mg base N_is_between "is_between" (defScope (top 7)) f cdv A outer s H E) (fun cls d _ H' => E cls d H') := takes_of rfl rfl rfl rfl
  have hp : PassesOwn (model P w) (A.deeper (envOfC "is_between" (defScope (top 7)) s.heap.objs.size f cdv)) (envOfC "is_between" (defScope (top 7)) s.heap.objs.size f cdv) (cxOf (L2.CX P w) P w K mg base N_is_between "is_between" (defScope (top 7)) f cdv A outer s H E).xe := passes_of rfl
  delta mb_is_between
  exact (s_cons (s_ret (z_andv hK (z_cal F.f_is_whole tk hr (by rfl) (z_cons (z_var 0) z_nil)) (z_onev (z_chn (cok_le hu hK) (cok_le hu hK) (z_var 1) (z_var 0) (z_var 2)))))
 s_nil)

theorem sc_is_stretch : FnScope N_is_stretch ["thing", "most"] (defScope (top 10)) := ⟨rfl, rfl, rfl, by decide +kernel, rfl, by decide +kernel, by decide +kernel⟩
theorem b_is_stretch (F : Fs P w K mg base c k) (hK : c.K = K) (hr : Room k (A.deeper (envOfC "is_stretch" (defScope (top 10)) s.heap.objs.size f cdv))) :
    PSs (cxOf (L2.CX P w) P w K mg base N_is_stretch "is_stretch" (defScope (top 10)) f cdv A outer s H E) (defBody (top 10)) (tS c (fun cls d _ H' => E cls d H') (mb_is_stretch ⟨callN Pg k⟩)) := by
  have hu := room_u hr
  have nd : (N_is_stretch).Nodup := sc_is_stretch.nd
  have tk : Takes (cxOf (L2.CX P w) P w K mg base N_is_stretch "is_stretch" (defScope (top 10)) f cdv A outer s H E) (fun cls d _ H' => E cls d H') := takes_of rfl rfl rfl rfl
  have hp : PassesOwn (model P w) (A.deeper (envOfC "is_stretch" (defScope (top 10)) s.heap.objs.size f cdv)) (envOfC "is_stretch" (defScope (top 10)) s.heap.objs.size f cdv) (cxOf (L2.CX P w) P w K mg base N_is_stretch "is_stretch" (defScope (top 10)) f cdv A outer s H E).xe := passes_of rfl
  delta mb_is_stretch
  exact (s_cons (s_ret (z_andv hK (z_cal F.f_is_between tk hr (by rfl) (z_cons (z_ix hK (z_var 0) z_int) (z_cons z_int (z_cons (z_gint (by rfl) F.i_BIG) z_nil)))) (z_onev (z_cal F.f_is_between tk hr (by rfl) (z_cons (z_ix hK (z_var 0) z_int) (z_cons (z_ix hK (z_var 0) z_int) (z_cons (z_var 1) z_nil)))))))
 s_nil)

theorem sc_are_calls : FnScope N_are_calls ["thing"] (defScope (top 11)) := ⟨rfl, rfl, rfl, by decide +kernel, rfl, by decide +kernel, by decide +kernel⟩
theorem b_are_calls (F : Fs P w K mg base c k) (hK : c.K = K) (hr : Room k (A.deeper (envOfC "are_calls" (defScope (top 11)) s.heap.objs.size f cdv))) :
    PSs (cxOf (L2.CX P w) P w K mg base N_are_calls "are_calls" (defScope (top 11)) f cdv A outer s H E) (defBody (top 11)) (tS c (fun cls d _ H' => E cls d H') (mb_are_calls ⟨callN Pg k⟩)) := by
  have hu := room_u hr
  have nd : (N_are_calls).Nodup := sc_are_calls.nd
  have tk : Takes (cxOf (L2.CX P w) P w K mg base N_are_calls "are_calls" (defScope (top 11)) f cdv A outer s H E) (fun cls d _ H' => E cls d H') := takes_of rfl rfl rfl rfl
  have hp : PassesOwn (model P w) (A.deeper (envOfC "are_calls" (defScope (top 11)) s.heap.objs.size f cdv)) (envOfC "are_calls" (defScope (top 11)) s.heap.objs.size f cdv) (cxOf (L2.CX P w) P w K mg base N_are_calls "are_calls" (defScope (top 11)) f cdv A outer s H E).xe := passes_of rfl
  delta mb_are_calls
  exact (s_cons (s_if (z_or (z_not (z_tru hK (z_isi .tuple hK (by rfl) F.b_isinstance (by rfl) F.b_tuple (z_var 0)))) (z_or1 (z_cmpT cok_gt (z_len hK (by rfl) F.b_len (z_var 0)) (z_gint (by rfl) F.i_MOST_CALLS)))).pt (s_cons (s_ret z_bl)
 s_nil) s_nil)
 (s_cons (s_for hp (by rfl) (i_of hK (z_var 0)) (g_nm 1 nd (by rfl) (by first | exact Or.inl rfl | exact Or.inr rfl) (by first | exact Or.inl rfl | exact Or.inr rfl)) (s_cons (s_if (z_or (z_not (z_tru hK (z_isi .tuple hK (by rfl) F.b_isinstance (by rfl) F.b_tuple (z_var 1)))) (z_or (z_cmpT (cok_ne hu hK) (z_len hK (by rfl) F.b_len (z_var 1)) z_int) (z_or1 (z_not (z_tru hK (z_cal F.f_is_stretch tk hr (by rfl) (z_cons (z_var 1) (z_cons (z_gint (by rfl) F.i_BIG) z_nil)))))))).pt (s_cons (s_ret z_bl)
 s_nil) s_nil)
 s_nil))
 (s_cons (s_ret (z_allq hK (by rfl) (by rfl) F.b_all (z_nl (z_comp (own := [("k", 2)]) (by rfl) nd (i_rng (by rfl) F.b_range (z_sub (z_len hK (by rfl) F.b_len (z_var 0)) z_int)) (blkOk_by (own := [("k", 2)]) (N := N_are_calls) (sc := (defScope (top 11))) (by decide +kernel)) (fun _ _ _ _ _ => (g_nm 2 nd (by rfl) (by first | exact Or.inl rfl | exact Or.inr rfl) (by first | exact Or.inl rfl | exact Or.inr rfl))) (fun _ _ _ _ _ => ts_nil) (fun _ _ _ _ _ => (z_cmp (cok_le hu hK) (z_ix hK (z_var 0) (z_var 2)) (z_ix hK (z_var 0) (z_add (z_var 2) z_int hK)))) (by decide)))))
 s_nil)))

theorem sc_check_calls : FnScope N_check_calls ["thing"] (defScope (top 13)) := ⟨rfl, rfl, rfl, by decide +kernel, rfl, by decide +kernel, by decide +kernel⟩
theorem b_check_calls (F : Fs P w K mg base c k) (hK : c.K = K) (hr : Room k (A.deeper (envOfC "check_calls" (defScope (top 13)) s.heap.objs.size f cdv))) :
    PSs (cxOf (L2.CX P w) P w K mg base N_check_calls "check_calls" (defScope (top 13)) f cdv A outer s H E) (defBody (top 13)) (tS c (fun cls d _ H' => E cls d H') (mb_check_calls ⟨callN Pg k⟩)) := by
  have hu := room_u hr
  have nd : (N_check_calls).Nodup := sc_check_calls.nd
  have tk : Takes (cxOf (L2.CX P w) P w K mg base N_check_calls "check_calls" (defScope (top 13)) f cdv A outer s H E) (fun cls d _ H' => E cls d H') := takes_of rfl rfl rfl rfl
  have hp : PassesOwn (model P w) (A.deeper (envOfC "check_calls" (defScope (top 13)) s.heap.objs.size f cdv)) (envOfC "check_calls" (defScope (top 13)) s.heap.objs.size f cdv) (cxOf (L2.CX P w) P w K mg base N_check_calls "check_calls" (defScope (top 13)) f cdv A outer s H E).xe := passes_of rfl
  delta mb_check_calls
  exact (s_cons (s_if (z_not (z_tru hK (z_cal F.f_are_calls tk hr (by rfl) (z_cons (z_var 0) z_nil)))) (s_cons (s_raise (by rfl) tk (by rfl) F.r_NoCalls)
 s_nil) s_nil)
 s_nil)

theorem sc_check_many : FnScope N_check_many ["many"] (defScope (top 14)) := ⟨rfl, rfl, rfl, by decide +kernel, rfl, by decide +kernel, by decide +kernel⟩
theorem b_check_many (F : Fs P w K mg base c k) (hK : c.K = K) (hr : Room k (A.deeper (envOfC "check_many" (defScope (top 14)) s.heap.objs.size f cdv))) :
    PSs (cxOf (L2.CX P w) P w K mg base N_check_many "check_many" (defScope (top 14)) f cdv A outer s H E) (defBody (top 14)) (tS c (fun cls d _ H' => E cls d H') (mb_check_many ⟨callN Pg k⟩)) := by
  have hu := room_u hr
  have nd : (N_check_many).Nodup := sc_check_many.nd
  have tk : Takes (cxOf (L2.CX P w) P w K mg base N_check_many "check_many" (defScope (top 14)) f cdv A outer s H E) (fun cls d _ H' => E cls d H') := takes_of rfl rfl rfl rfl
  have hp : PassesOwn (model P w) (A.deeper (envOfC "check_many" (defScope (top 14)) s.heap.objs.size f cdv)) (envOfC "check_many" (defScope (top 14)) s.heap.objs.size f cdv) (cxOf (L2.CX P w) P w K mg base N_check_many "check_many" (defScope (top 14)) f cdv A outer s H E).xe := passes_of rfl
  delta mb_check_many
  exact (s_cons (s_if (z_or (z_not (z_tru hK (z_cal F.f_is_whole tk hr (by rfl) (z_cons (z_var 0) z_nil)))) (z_or1 (z_cmpT (cok_lt hu hK) (z_var 0) z_int))).pt (s_cons (s_raise (by rfl) tk (by rfl) F.r_NoMany)
 s_nil) s_nil)
 s_nil)

theorem sc_within : FnScope N_within ["calls", "first", "last"] (defScope (top 15)) := ⟨rfl, rfl, rfl, by decide +kernel, rfl, by decide +kernel, by decide +kernel⟩
theorem b_within (F : Fs P w K mg base c k) (hK : c.K = K) (hr : Room k (A.deeper (envOfC "within" (defScope (top 15)) s.heap.objs.size f cdv))) :
    PSs (cxOf (L2.CX P w) P w K mg base N_within "within" (defScope (top 15)) f cdv A outer s H E) (defBody (top 15)) (tS c (fun cls d _ H' => E cls d H') (mb_within ⟨callN Pg k⟩)) := by
  have hu := room_u hr
  have nd : (N_within).Nodup := sc_within.nd
  have tk : Takes (cxOf (L2.CX P w) P w K mg base N_within "within" (defScope (top 15)) f cdv A outer s H E) (fun cls d _ H' => E cls d H') := takes_of rfl rfl rfl rfl
  have hp : PassesOwn (model P w) (A.deeper (envOfC "within" (defScope (top 15)) s.heap.objs.size f cdv)) (envOfC "within" (defScope (top 15)) s.heap.objs.size f cdv) (cxOf (L2.CX P w) P w K mg base N_within "within" (defScope (top 15)) f cdv A outer s H E).xe := passes_of rfl
  delta mb_within
  exact (s_cons (s_ret (z_lenq hK (by rfl) F.b_len (z_st (z_nq (z_comp (own := [("call", 3)]) (by rfl) nd (i_of hK (z_var 0)) (blkOk_by (own := [("call", 3)]) (N := N_within) (sc := (defScope (top 15))) (by decide +kernel)) (fun _ _ _ _ _ => (g_nm 3 nd (by rfl) (by first | exact Or.inl rfl | exact Or.inr rfl) (by first | exact Or.inl rfl | exact Or.inr rfl))) (fun _ _ _ _ _ => (ts_one (z_and (z_cmpT (cok_le hu hK) (z_var 1) (z_ix hK (z_var 3) z_int)) (z_and1 (z_cmpT (cok_le hu hK) (z_ix hK (z_var 3) z_int) (z_var 2)))).pt)) (fun _ _ _ _ _ => (z_var 3)) (by decide))))))
 s_nil)

theorem sc_wanted : FnScope N_wanted ["calls"] (defScope (top 16)) := ⟨rfl, rfl, rfl, by decide +kernel, rfl, by decide +kernel, by decide +kernel⟩
theorem b_wanted (F : Fs P w K mg base c k) (hK : c.K = K) (hr : Room k (A.deeper (envOfC "wanted" (defScope (top 16)) s.heap.objs.size f cdv))) :
    PSs (cxOf (L2.CX P w) P w K mg base N_wanted "wanted" (defScope (top 16)) f cdv A outer s H E) (defBody (top 16)) (tS c (fun cls d _ H' => E cls d H') (mb_wanted ⟨callN Pg k⟩)) := by
  have hu := room_u hr
  have nd : (N_wanted).Nodup := sc_wanted.nd
  have tk : Takes (cxOf (L2.CX P w) P w K mg base N_wanted "wanted" (defScope (top 16)) f cdv A outer s H E) (fun cls d _ H' => E cls d H') := takes_of rfl rfl rfl rfl
  have hp : PassesOwn (model P w) (A.deeper (envOfC "wanted" (defScope (top 16)) s.heap.objs.size f cdv)) (envOfC "wanted" (defScope (top 16)) s.heap.objs.size f cdv) (cxOf (L2.CX P w) P w K mg base N_wanted "wanted" (defScope (top 16)) f cdv A outer s H E).xe := passes_of rfl
  delta mb_wanted
  exact (s_cons (s_asg (z_tup (z_cons z_int (z_cons z_non z_nil))) (g_wk (g_tup hK (by rfl) (g_cons (g_nm 2 nd (by rfl) (by first | exact Or.inl rfl | exact Or.inr rfl) (by first | exact Or.inl rfl | exact Or.inr rfl)) (g_cons (g_nm 3 nd (by rfl) (by first | exact Or.inl rfl | exact Or.inr rfl) (by first | exact Or.inl rfl | exact Or.inr rfl)) g_nil)))))
 (s_cons (s_for hp (by rfl) (i_st hK (z_sortset hK (by rfl) (by rfl) F.b_sorted (by rfl) F.b_set (z_nl (z_comp (own := [("call", 7)]) (by rfl) nd (i_of hK (z_var 0)) (blkOk_by (own := [("call", 7)]) (N := N_wanted) (sc := (defScope (top 16))) (by decide +kernel)) (fun _ _ _ _ _ => (g_nm 7 nd (by rfl) (by first | exact Or.inl rfl | exact Or.inr rfl) (by first | exact Or.inl rfl | exact Or.inr rfl))) (fun _ _ _ _ _ => ts_nil) (fun _ _ _ _ _ => (z_ix hK (z_var 7) z_int)) (by decide))))) (g_nm 1 nd (by rfl) (by first | exact Or.inl rfl | exact Or.inr rfl) (by first | exact Or.inl rfl | exact Or.inr rfl)) (s_cons (s_for hp (by rfl) (i_st hK (z_sortset hK (by rfl) (by rfl) F.b_sorted (by rfl) F.b_set (z_nl (z_comp (own := [("call", 7)]) (by rfl) nd (i_of hK (z_var 0)) (blkOk_by (own := [("call", 7)]) (N := N_wanted) (sc := (defScope (top 16))) (by decide +kernel)) (fun _ _ _ _ _ => (g_nm 7 nd (by rfl) (by first | exact Or.inl rfl | exact Or.inr rfl) (by first | exact Or.inl rfl | exact Or.inr rfl))) (fun _ _ _ _ _ => ts_nil) (fun _ _ _ _ _ => (z_ix hK (z_var 7) z_int)) (by decide))))) (g_nm 4 nd (by rfl) (by first | exact Or.inl rfl | exact Or.inr rfl) (by first | exact Or.inl rfl | exact Or.inr rfl)) (s_cons (s_if (z_cmpT (cok_le hu hK) (z_var 1) (z_var 4)) (s_cons (s_set 5 nd (by rfl) (by first | exact Or.inl rfl | exact Or.inr rfl) (z_add (z_sub (z_var 4) (z_var 1)) z_int hK) (by first | exact Or.inl rfl | exact Or.inr rfl))
 (s_cons (s_set 6 nd (by rfl) (by first | exact Or.inl rfl | exact Or.inr rfl) (z_fdiv (z_sub (z_add (z_cal F.f_within tk hr (by rfl) (z_cons (z_var 0) (z_cons (z_var 1) (z_cons (z_var 4) z_nil)))) (z_var 5) hK) z_int) (z_var 5)) (by first | exact Or.inl rfl | exact Or.inr rfl))
 (s_cons (s_if (z_cmpT cok_gt (z_var 6) (z_var 2)) (s_cons (s_par 2 3 (by rfl) nd (by rfl) (by rfl) (by decide) (by rfl) (by rfl) (z_cons (z_var 6) (z_cons (z_tup (z_cons (z_var 1) (z_cons (z_var 4) z_nil))) z_nil)))
 s_nil) s_nil)
 s_nil))) s_nil)
 s_nil))
 s_nil))
 (s_cons (s_ret (z_tup (z_cons (z_var 2) (z_cons (z_var 3) z_nil))))
 s_nil)))

theorem sc_plan_by : FnScope N_plan_by ["calls", "many"] (defScope (top 17)) := ⟨rfl, rfl, rfl, by decide +kernel, rfl, by decide +kernel, by decide +kernel⟩
theorem b_plan_by (F : Fs P w K mg base c k) (hK : c.K = K) (hr : Room k (A.deeper (envOfC "plan_by" (defScope (top 17)) s.heap.objs.size f cdv))) :
    PSs (cxOf (L2.CX P w) P w K mg base N_plan_by "plan_by" (defScope (top 17)) f cdv A outer s H E) (defBody (top 17)) (tS c (fun cls d _ H' => E cls d H') (mb_plan_by ⟨callN Pg k⟩)) := by
  have hu := room_u hr
  have nd : (N_plan_by).Nodup := sc_plan_by.nd
  have tk : Takes (cxOf (L2.CX P w) P w K mg base N_plan_by "plan_by" (defScope (top 17)) f cdv A outer s H E) (fun cls d _ H' => E cls d H') := takes_of rfl rfl rfl rfl
  have hp : PassesOwn (model P w) (A.deeper (envOfC "plan_by" (defScope (top 17)) s.heap.objs.size f cdv)) (envOfC "plan_by" (defScope (top 17)) s.heap.objs.size f cdv) (cxOf (L2.CX P w) P w K mg base N_plan_by "plan_by" (defScope (top 17)) f cdv A outer s H E).xe := passes_of rfl
  delta mb_plan_by
  exact (s_cons (s_set 2 nd (by rfl) (by first | exact Or.inl rfl | exact Or.inr rfl) (z_new (z_rep (z_lst (z_cons z_non z_nil)) (z_len hK (by rfl) F.b_len (z_var 0)))) (by first | exact Or.inl rfl | exact Or.inr rfl))
 (s_cons (s_set 3 nd (by rfl) (by first | exact Or.inl rfl | exact Or.inr rfl) z_int (by first | exact Or.inl rfl | exact Or.inr rfl))
 (s_cons (s_set 4 nd (by rfl) (by first | exact Or.inl rfl | exact Or.inr rfl) (z_new (z_lstr (by rfl) (by rfl) F.b_list (by rfl) F.b_range (z_len hK (by rfl) F.b_len (z_var 0)))) (by first | exact Or.inl rfl | exact Or.inr rfl))
 (s_cons (s_while hp (z_cmpT (cok_ne hu hK) (z_var 4) (z_fz (z_lst z_nil))) (s_cons (s_set 3 nd (by rfl) (by first | exact Or.inl rfl | exact Or.inr rfl) (z_mx2 (by rfl) (by rfl) F.b_max (z_add (z_var 3) z_int hK) (z_minq hK (by rfl) (by rfl) F.b_min (z_nl (z_comp (own := [("k", 7)]) (by rfl) nd (i_of hK (z_var 4)) (blkOk_by (own := [("k", 7)]) (N := N_plan_by) (sc := (defScope (top 17))) (by decide +kernel)) (fun _ _ _ _ _ => (g_nm 7 nd (by rfl) (by first | exact Or.inl rfl | exact Or.inr rfl) (by first | exact Or.inl rfl | exact Or.inr rfl))) (fun _ _ _ _ _ => ts_nil) (fun _ _ _ _ _ => (z_ix hK (z_ix hK (z_var 0) (z_var 7)) z_int)) (by decide))))) (by first | exact Or.inl rfl | exact Or.inr rfl))
 (s_cons (s_set 5 nd (by rfl) (by first | exact Or.inl rfl | exact Or.inr rfl) (z_fz (z_sort hK (by rfl) F.b_sorted (z_nl (z_comp (own := [("k", 7)]) (by rfl) nd (i_of hK (z_var 4)) (blkOk_by (own := [("k", 7)]) (N := N_plan_by) (sc := (defScope (top 17))) (by decide +kernel)) (fun _ _ _ _ _ => (g_nm 7 nd (by rfl) (by first | exact Or.inl rfl | exact Or.inr rfl) (by first | exact Or.inl rfl | exact Or.inr rfl))) (fun _ _ _ _ _ => (ts_one (z_cmpT (cok_le hu hK) (z_ix hK (z_ix hK (z_var 0) (z_var 7)) z_int) (z_var 3)))) (fun _ _ _ _ _ => (z_tup (z_cons (z_ix hK (z_ix hK (z_var 0) (z_var 7)) z_int) (z_cons (z_var 7) z_nil)))) (by decide))))) (by first | exact Or.inl rfl | exact Or.inr rfl))
 (s_cons (s_for hp (by rfl) (i_st hK (z_slL hK (z_var 5) z_no (z_so (z_var 1)))) (g_wk (g_tup hK (by rfl) (g_cons (g_nm 6 nd (by rfl) (by first | exact Or.inl rfl | exact Or.inr rfl) (by first | exact Or.inl rfl | exact Or.inr rfl)) (g_cons (g_nm 7 nd (by rfl) (by first | exact Or.inl rfl | exact Or.inr rfl) (by first | exact Or.inl rfl | exact Or.inr rfl)) g_nil)))) (s_cons (s_asg (z_var 3) (g_sub hK (z_var 2) (z_var 7)))
 (s_cons (s_exp (z_remove hK (z_var 4) (z_var 7)))
 s_nil)))
 s_nil))))
 (s_cons (s_ret (z_tupq hK (by rfl) F.b_tuple (z_of (z_var 2))))
 s_nil)))))

theorem sc_least_hands : FnScope N_least_hands ["calls"] (defScope (top 18)) := ⟨rfl, rfl, rfl, by decide +kernel, rfl, by decide +kernel, by decide +kernel⟩
theorem b_least_hands (F : Fs P w K mg base c k) (hK : c.K = K) (hr : Room k (A.deeper (envOfC "least_hands" (defScope (top 18)) s.heap.objs.size f cdv))) :
    PSs (cxOf (L2.CX P w) P w K mg base N_least_hands "least_hands" (defScope (top 18)) f cdv A outer s H E) (defBody (top 18)) (tS c (fun cls d _ H' => E cls d H') (mb_least_hands ⟨callN Pg k⟩)) := by
  have hu := room_u hr
  have nd : (N_least_hands).Nodup := sc_least_hands.nd
  have tk : Takes (cxOf (L2.CX P w) P w K mg base N_least_hands "least_hands" (defScope (top 18)) f cdv A outer s H E) (fun cls d _ H' => E cls d H') := takes_of rfl rfl rfl rfl
  have hp : PassesOwn (model P w) (A.deeper (envOfC "least_hands" (defScope (top 18)) s.heap.objs.size f cdv)) (envOfC "least_hands" (defScope (top 18)) s.heap.objs.size f cdv) (cxOf (L2.CX P w) P w K mg base N_least_hands "least_hands" (defScope (top 18)) f cdv A outer s H E).xe := passes_of rfl
  delta mb_least_hands
  exact (s_cons (s_exp (z_cal F.f_check_calls tk hr (by rfl) (z_cons (z_var 0) z_nil)))
 (s_cons (s_asg (z_cal F.f_wanted tk hr (by rfl) (z_cons (z_var 0) z_nil)) (g_wk (g_tup hK (by rfl) (g_cons (g_nm 1 nd (by rfl) (by first | exact Or.inl rfl | exact Or.inr rfl) (by first | exact Or.inl rfl | exact Or.inr rfl)) (g_cons (g_nm 2 nd (by rfl) (by first | exact Or.inl rfl | exact Or.inr rfl) (by first | exact Or.inl rfl | exact Or.inr rfl)) g_nil)))))
 (s_cons (s_ret (z_tup (z_cons (z_var 1) (z_cons (z_cal F.f_plan_by tk hr (by rfl) (z_cons (z_var 0) (z_cons (z_var 1) z_nil))) (z_cons (z_var 2) z_nil)))))
 s_nil)))

theorem sc_with_hands : FnScope N_with_hands ["calls", "many"] (defScope (top 19)) := ⟨rfl, rfl, rfl, by decide +kernel, rfl, by decide +kernel, by decide +kernel⟩
theorem b_with_hands (F : Fs P w K mg base c k) (hK : c.K = K) (hr : Room k (A.deeper (envOfC "with_hands" (defScope (top 19)) s.heap.objs.size f cdv))) :
    PSs (cxOf (L2.CX P w) P w K mg base N_with_hands "with_hands" (defScope (top 19)) f cdv A outer s H E) (defBody (top 19)) (tS c (fun cls d _ H' => E cls d H') (mb_with_hands ⟨callN Pg k⟩)) := by
  have hu := room_u hr
  have nd : (N_with_hands).Nodup := sc_with_hands.nd
  have tk : Takes (cxOf (L2.CX P w) P w K mg base N_with_hands "with_hands" (defScope (top 19)) f cdv A outer s H E) (fun cls d _ H' => E cls d H') := takes_of rfl rfl rfl rfl
  have hp : PassesOwn (model P w) (A.deeper (envOfC "with_hands" (defScope (top 19)) s.heap.objs.size f cdv)) (envOfC "with_hands" (defScope (top 19)) s.heap.objs.size f cdv) (cxOf (L2.CX P w) P w K mg base N_with_hands "with_hands" (defScope (top 19)) f cdv A outer s H E).xe := passes_of rfl
  delta mb_with_hands
  exact (s_cons (s_exp (z_cal F.f_check_calls tk hr (by rfl) (z_cons (z_var 0) z_nil)))
 (s_cons (s_exp (z_cal F.f_check_many tk hr (by rfl) (z_cons (z_var 1) z_nil)))
 (s_cons (s_asg (z_cal F.f_wanted tk hr (by rfl) (z_cons (z_var 0) z_nil)) (g_wk (g_tup hK (by rfl) (g_cons (g_nm 2 nd (by rfl) (by first | exact Or.inl rfl | exact Or.inr rfl) (by first | exact Or.inl rfl | exact Or.inr rfl)) (g_cons (g_nm 3 nd (by rfl) (by first | exact Or.inl rfl | exact Or.inr rfl) (by first | exact Or.inl rfl | exact Or.inr rfl)) g_nil)))))
 (s_cons (s_if (z_cmpT (cok_le hu hK) (z_var 2) (z_var 1)) (s_cons (s_ret (z_tup (z_cons z_str (z_cons (z_cal F.f_plan_by tk hr (by rfl) (z_cons (z_var 0) (z_cons (z_var 1) z_nil))) z_nil))))
 s_nil) s_nil)
 (s_cons (s_ret (z_add (z_tup (z_cons z_str z_nil)) (z_var 3) hK))
 s_nil)))))

theorem sc__law_pool : FnScope N__law_pool ["_law_script", "_law_k"] (defScope (top 21)) := ⟨rfl, rfl, rfl, by decide +kernel, rfl, by decide +kernel, by decide +kernel⟩
theorem b__law_pool (F : Fs P w K mg base c k) (hK : c.K = K) (hr : Room k (A.deeper (envOfC "_law_pool" (defScope (top 21)) s.heap.objs.size f cdv))) :
    PSs (cxOf (L2.CX P w) P w K mg base N__law_pool "_law_pool" (defScope (top 21)) f cdv A outer s H E) (defBody (top 21)) (tS c (fun cls d _ H' => E cls d H') (mb__law_pool ⟨callN Pg k⟩)) := by
  have hu := room_u hr
  have nd : (N__law_pool).Nodup := sc__law_pool.nd
  have tk : Takes (cxOf (L2.CX P w) P w K mg base N__law_pool "_law_pool" (defScope (top 21)) f cdv A outer s H E) (fun cls d _ H' => E cls d H') := takes_of rfl rfl rfl rfl
  have hp : PassesOwn (model P w) (A.deeper (envOfC "_law_pool" (defScope (top 21)) s.heap.objs.size f cdv)) (envOfC "_law_pool" (defScope (top 21)) s.heap.objs.size f cdv) (cxOf (L2.CX P w) P w K mg base N__law_pool "_law_pool" (defScope (top 21)) f cdv A outer s H E).xe := passes_of rfl
  delta mb__law_pool
  exact (s_cons (s_set 2 nd (by rfl) (by first | exact Or.inl rfl | exact Or.inr rfl) (z_sumq hK (by rfl) (by rfl) F.b_sum (z_nl (z_slL hK (z_var 0) (z_so (z_var 1)) (z_so (z_add (z_var 1) z_int hK))))) (by first | exact Or.inl rfl | exact Or.inr rfl))
 (s_cons (s_if (z_or (z_cmpT (cok_lt hu hK) (z_var 2) z_int) (z_or1 (z_cmpT cok_ge (z_var 2) (z_pow z_int z_int)))).pt (s_cons (s_ret (z_new (z_lst (z_cons (z_mod (z_abs (by rfl) F.b_abs (z_var 2)) (z_mul hK (z_mul hK (z_mul hK (z_mul hK (z_mul hK (z_pow z_int z_int) (z_pow z_int z_int)) (z_pow z_int z_int)) (z_pow z_int z_int)) (z_pow z_int z_int)) (z_pow z_int z_int))) z_nil))))
 s_nil) s_nil)
 (s_cons (s_set 3 nd (by rfl) (by first | exact Or.inl rfl | exact Or.inr rfl) (z_add (z_add (z_mul hK (z_var 2) z_int) (z_mul hK (z_mul hK z_int (z_var 1)) (z_var 1)) hK) z_int hK) (by first | exact Or.inl rfl | exact Or.inr rfl))
 (s_cons (s_set 4 nd (by rfl) (by first | exact Or.inl rfl | exact Or.inr rfl) z_int (by first | exact Or.inl rfl | exact Or.inr rfl))
 (s_cons (s_for hp (by rfl) (i_rng (by rfl) F.b_range z_int) (g_nm 5 nd (by rfl) (by first | exact Or.inl rfl | exact Or.inr rfl) (by first | exact Or.inl rfl | exact Or.inr rfl)) (s_cons (s_set 3 nd (by rfl) (by first | exact Or.inl rfl | exact Or.inr rfl) (z_mod (z_add (z_add (z_mul hK (z_mod (z_var 3) z_int) z_int) (z_mul hK z_int (z_var 5)) hK) z_int hK) z_int) (by first | exact Or.inl rfl | exact Or.inr rfl))
 (s_cons (s_set 4 nd (by rfl) (by first | exact Or.inl rfl | exact Or.inr rfl) (z_add (z_mul hK (z_var 4) (z_pow z_int z_int)) (z_mod (z_mul hK (z_var 3) (z_add (z_mod (z_var 3) z_int) z_int hK)) z_int) hK) (by first | exact Or.inl rfl | exact Or.inr rfl))
 s_nil)))
 (s_cons (s_ret (z_new (z_lst (z_cons (z_var 4) z_nil))))
 s_nil))))))

theorem sc__law_take : FnScope N__law_take ["_law_pool_here", "_law_many"] (defScope (top 22)) := ⟨rfl, rfl, rfl, by decide +kernel, rfl, by decide +kernel, by decide +kernel⟩
theorem b__law_take (F : Fs P w K mg base c k) (hK : c.K = K) (hr : Room k (A.deeper (envOfC "_law_take" (defScope (top 22)) s.heap.objs.size f cdv))) :
    PSs (cxOf (L2.CX P w) P w K mg base N__law_take "_law_take" (defScope (top 22)) f cdv A outer s H E) (defBody (top 22)) (tS c (fun cls d _ H' => E cls d H') (mb__law_take ⟨callN Pg k⟩)) := by
  have hu := room_u hr
  have nd : (N__law_take).Nodup := sc__law_take.nd
  have tk : Takes (cxOf (L2.CX P w) P w K mg base N__law_take "_law_take" (defScope (top 22)) f cdv A outer s H E) (fun cls d _ H' => E cls d H') := takes_of rfl rfl rfl rfl
  have hp : PassesOwn (model P w) (A.deeper (envOfC "_law_take" (defScope (top 22)) s.heap.objs.size f cdv)) (envOfC "_law_take" (defScope (top 22)) s.heap.objs.size f cdv) (cxOf (L2.CX P w) P w K mg base N__law_take "_law_take" (defScope (top 22)) f cdv A outer s H E).xe := passes_of rfl
  delta mb__law_take
  exact (s_cons (s_asg (z_dvm (by rfl) F.b_divmod (z_ix hK (z_var 0) z_int) (z_var 1)) (g_wk (g_tup hK (by rfl) (g_cons (g_sub hK (z_var 0) z_int) (g_cons (g_nm 2 nd (by rfl) (by first | exact Or.inl rfl | exact Or.inr rfl) (by first | exact Or.inl rfl | exact Or.inr rfl)) g_nil)))))
 (s_cons (s_ret (z_var 2))
 s_nil))

theorem sc__law_drawn : FnScope N__law_drawn ["_law_pool_here"] (defScope (top 23)) := ⟨rfl, rfl, rfl, by decide +kernel, rfl, by decide +kernel, by decide +kernel⟩
theorem b__law_drawn (F : Fs P w K mg base c k) (hK : c.K = K) (hr : Room k (A.deeper (envOfC "_law_drawn" (defScope (top 23)) s.heap.objs.size f cdv))) :
    PSs (cxOf (L2.CX P w) P w K mg base N__law_drawn "_law_drawn" (defScope (top 23)) f cdv A outer s H E) (defBody (top 23)) (tS c (fun cls d _ H' => E cls d H') (mb__law_drawn ⟨callN Pg k⟩)) := by
  have hu := room_u hr
  have nd : (N__law_drawn).Nodup := sc__law_drawn.nd
  have tk : Takes (cxOf (L2.CX P w) P w K mg base N__law_drawn "_law_drawn" (defScope (top 23)) f cdv A outer s H E) (fun cls d _ H' => E cls d H') := takes_of rfl rfl rfl rfl
  have hp : PassesOwn (model P w) (A.deeper (envOfC "_law_drawn" (defScope (top 23)) s.heap.objs.size f cdv)) (envOfC "_law_drawn" (defScope (top 23)) s.heap.objs.size f cdv) (cxOf (L2.CX P w) P w K mg base N__law_drawn "_law_drawn" (defScope (top 23)) f cdv A outer s H E).xe := passes_of rfl
  delta mb__law_drawn lb__law_drawn_0
  exact (s_cons (s_set 1 nd (by rfl) (by first | exact Or.inl rfl | exact Or.inr rfl) (z_ix hK (z_fz (z_lst (z_cons z_int (z_cons z_int (z_cons (z_sub (z_pow z_int z_int) z_int) z_nil))))) (z_cal F.f__law_take tk hr (by rfl) (z_cons (z_var 0) (z_cons z_int z_nil)))) (by first | exact Or.inl rfl | exact Or.inr rfl))
 (s_cons (s_par 4 5 (by rfl) nd (by rfl) (by rfl) (by decide) (by rfl) (by rfl) (z_cons (z_ix hK (z_fz (z_lst (z_cons z_int (z_cons z_int (z_cons z_int z_nil))))) (z_cal F.f__law_take tk hr (by rfl) (z_cons (z_var 0) (z_cons z_int z_nil)))) (z_cons (z_ix hK (z_fz (z_lst (z_cons z_int (z_cons z_int (z_cons z_int (z_cons z_int z_nil)))))) (z_cal F.f__law_take tk hr (by rfl) (z_cons (z_var 0) (z_cons z_int z_nil)))) z_nil)))
 (s_cons (s_set 2 nd (by rfl) (by first | exact Or.inl rfl | exact Or.inr rfl) (z_new (z_lst z_nil)) (by first | exact Or.inl rfl | exact Or.inr rfl))
 (s_cons (s_for hp (by rfl) (i_rng (by rfl) F.b_range (z_cal F.f__law_take tk hr (by rfl) (z_cons (z_var 0) (z_cons z_int z_nil)))) (g_nm 3 nd (by rfl) (by first | exact Or.inl rfl | exact Or.inr rfl) (by first | exact Or.inl rfl | exact Or.inr rfl)) (s_cons (s_set 6 nd (by rfl) (by first | exact Or.inl rfl | exact Or.inr rfl) (z_add (z_add (z_var 1) z_int hK) (z_cal F.f__law_take tk hr (by rfl) (z_cons (z_var 0) (z_cons (z_var 4) z_nil))) hK) (by first | exact Or.inl rfl | exact Or.inr rfl))
 (s_cons (s_exp (z_append hK (z_var 2) (z_tup (z_cons (z_var 6) (z_cons (z_add (z_var 6) (z_cal F.f__law_take tk hr (by rfl) (z_cons (z_var 0) (z_cons (z_var 5) z_nil))) hK) z_nil)))))
 s_nil)))
 (s_cons (s_ret (z_tupq hK (by rfl) F.b_tuple (z_st (z_nq (z_sort hK (by rfl) F.b_sorted (z_ofL (z_var 2)))))))
 s_nil)))))

theorem sc__law_beats : FnScope N__law_beats ["_law_call", "_law_many"] (defScope (top 24)) := ⟨rfl, rfl, rfl, by decide +kernel, rfl, by decide +kernel, by decide +kernel⟩
theorem b__law_beats (F : Fs P w K mg base c k) (hK : c.K = K) (hr : Room k (A.deeper (envOfC "_law_beats" (defScope (top 24)) s.heap.objs.size f cdv))) :
    PSs (cxOf (L2.CX P w) P w K mg base N__law_beats "_law_beats" (defScope (top 24)) f cdv A outer s H E) (defBody (top 24)) (tS c (fun cls d _ H' => E cls d H') (mb__law_beats ⟨callN Pg k⟩)) := by
  have hu := room_u hr
  have nd : (N__law_beats).Nodup := sc__law_beats.nd
  have tk : Takes (cxOf (L2.CX P w) P w K mg base N__law_beats "_law_beats" (defScope (top 24)) f cdv A outer s H E) (fun cls d _ H' => E cls d H') := takes_of rfl rfl rfl rfl
  have hp : PassesOwn (model P w) (A.deeper (envOfC "_law_beats" (defScope (top 24)) s.heap.objs.size f cdv)) (envOfC "_law_beats" (defScope (top 24)) s.heap.objs.size f cdv) (cxOf (L2.CX P w) P w K mg base N__law_beats "_law_beats" (defScope (top 24)) f cdv A outer s H E).xe := passes_of rfl
  delta mb__law_beats
  exact (s_cons (s_ret (z_fz (z_lrg (by rfl) (by rfl) F.b_list (by rfl) F.b_range (z_ix hK (z_var 0) z_int) (z_add (z_mn2 (by rfl) (by rfl) F.b_min (z_ix hK (z_var 0) z_int) (z_add (z_ix hK (z_var 0) z_int) (z_var 1) hK)) z_int hK))))
 s_nil)

theorem sc__law_placed : FnScope N__law_placed ["_law_calls", "_law_hands", "_law_at", "_law_places", "_law_tried"] (defScope (top 25)) := ⟨rfl, rfl, rfl, by decide +kernel, rfl, by decide +kernel, by decide +kernel⟩
theorem b__law_placed (F : Fs P w K mg base c k) (hK : c.K = K) (hr : Room k (A.deeper (envOfC "_law_placed" (defScope (top 25)) s.heap.objs.size f cdv))) :
    PSs (cxOf (L2.CX P w) P w K mg base N__law_placed "_law_placed" (defScope (top 25)) f cdv A outer s H E) (defBody (top 25)) (tS c (fun cls d _ H' => E cls d H') (mb__law_placed ⟨callN Pg k⟩)) := by
  have hu := room_u hr
  have nd : (N__law_placed).Nodup := sc__law_placed.nd
  have tk : Takes (cxOf (L2.CX P w) P w K mg base N__law_placed "_law_placed" (defScope (top 25)) f cdv A outer s H E) (fun cls d _ H' => E cls d H') := takes_of rfl rfl rfl rfl
  have hp : PassesOwn (model P w) (A.deeper (envOfC "_law_placed" (defScope (top 25)) s.heap.objs.size f cdv)) (envOfC "_law_placed" (defScope (top 25)) s.heap.objs.size f cdv) (cxOf (L2.CX P w) P w K mg base N__law_placed "_law_placed" (defScope (top 25)) f cdv A outer s H E).xe := passes_of rfl
  delta mb__law_placed lb__law_placed_0 lb__law_placed_1
  exact (s_cons (s_for hp (by rfl) (i_of hK (z_cal F.f__law_beats tk hr (by rfl) (z_cons (z_ix hK (z_var 0) (z_var 2)) (z_cons (z_len hK (by rfl) F.b_len (z_var 0)) z_nil)))) (g_nm 5 nd (by rfl) (by first | exact Or.inl rfl | exact Or.inr rfl) (by first | exact Or.inl rfl | exact Or.inr rfl)) (s_cons (s_if (z_dninT hu (z_var 5) (z_var 4)) (s_cons (s_asg z_bl (g_subK hu (z_var 4) (z_var 5)))
 (s_cons (s_setDk 6 (di := 3) (xi := 5) (j := 8) (own := [("_law_k", 8)]) (by rfl) (by rfl) (sw_true rfl rfl rfl (by decide +kernel)) hu (by rfl) nd (blkOk_by (own := [("_law_k", 8)]) (N := N__law_placed) (sc := (defScope (top 25))) (by decide +kernel)) (by rfl) (by decide) (by decide) (pe_var (by rfl) (by first | exact Or.inl rfl | exact Or.inr (Or.inl rfl) | exact Or.inr (Or.inr rfl))) (fun _ _ _ _ _ => (pg_name nd (by rfl) (by first | exact Or.inl rfl | exact Or.inr rfl) (by first | exact Or.inl rfl | exact Or.inr rfl))) (fun _ _ _ _ _ => (pe_var (by rfl) (by first | exact Or.inl rfl | exact Or.inr (Or.inl rfl) | exact Or.inr (Or.inr rfl)))) (fun _ _ _ _ _ => (pe_var (by rfl) (by first | exact Or.inl rfl | exact Or.inr (Or.inl rfl) | exact Or.inr (Or.inr rfl)))) (fun _ _ _ _ _ => (pe_var (by rfl) (by first | exact Or.inl rfl | exact Or.inr (Or.inl rfl) | exact Or.inr (Or.inr rfl)))) (fun _ _ _ _ _ => (pe_var (by rfl) (by first | exact Or.inl rfl | exact Or.inr (Or.inl rfl) | exact Or.inr (Or.inr rfl)))) (fun _ _ => rfl))
 (s_cons (s_if (z_cmpT (cok_lt hu hK) (z_len hK (by rfl) F.b_len (z_var 6)) (z_var 1)) (s_cons (s_asg (z_var 5) (g_subK hu (z_var 3) (z_var 2)))
 (s_cons (s_ret z_bl)
 s_nil)) s_nil)
 (s_cons (s_for hp (by rfl) (i_of hK (z_var 6)) (g_nm 7 nd (by rfl) (by first | exact Or.inl rfl | exact Or.inr rfl) (by first | exact Or.inl rfl | exact Or.inr rfl)) (s_cons (s_if (z_tru hK (z_cal F.f__law_placed tk hr (by rfl) (z_cons (z_var 0) (z_cons (z_var 1) (z_cons (z_var 7) (z_cons (z_var 3) (z_cons (z_var 4) z_nil))))))) (s_cons (s_asg (z_var 5) (g_subK hu (z_var 3) (z_var 2)))
 (s_cons (s_ret z_bl)
 s_nil)) s_nil)
 s_nil))
 s_nil)))) s_nil)
 s_nil))
 (s_cons (s_ret z_bl)
 s_nil))

theorem sc__law_all_placed : FnScope N__law_all_placed ["_law_calls", "_law_hands"] (defScope (top 26)) := ⟨rfl, rfl, rfl, by decide +kernel, rfl, by decide +kernel, by decide +kernel⟩
theorem b__law_all_placed (F : Fs P w K mg base c k) (hK : c.K = K) (hr : Room k (A.deeper (envOfC "_law_all_placed" (defScope (top 26)) s.heap.objs.size f cdv))) :
    PSs (cxOf (L2.CX P w) P w K mg base N__law_all_placed "_law_all_placed" (defScope (top 26)) f cdv A outer s H E) (defBody (top 26)) (tS c (fun cls d _ H' => E cls d H') (mb__law_all_placed ⟨callN Pg k⟩)) := by
  have hu := room_u hr
  have nd : (N__law_all_placed).Nodup := sc__law_all_placed.nd
  have tk : Takes (cxOf (L2.CX P w) P w K mg base N__law_all_placed "_law_all_placed" (defScope (top 26)) f cdv A outer s H E) (fun cls d _ H' => E cls d H') := takes_of rfl rfl rfl rfl
  have hp : PassesOwn (model P w) (A.deeper (envOfC "_law_all_placed" (defScope (top 26)) s.heap.objs.size f cdv)) (envOfC "_law_all_placed" (defScope (top 26)) s.heap.objs.size f cdv) (cxOf (L2.CX P w) P w K mg base N__law_all_placed "_law_all_placed" (defScope (top 26)) f cdv A outer s H E).xe := passes_of rfl
  delta mb__law_all_placed ce__law_all_placed_0
  exact (s_cons (s_set 2 nd (by rfl) (by first | exact Or.inl rfl | exact Or.inr rfl) z_newK (by first | exact Or.inl rfl | exact Or.inr rfl))
 (s_cons (s_if (z_cmpT (cok_eq hu hK) (z_var 1) z_int) (s_cons (s_ret (z_cmp (cok_eqE hu hK) (z_var 0) (z_tup z_nil)))
 s_nil) s_nil)
 (s_cons (s_ret (z_allq hK (by rfl) (by rfl) F.b_all (z_nl (z_comp (own := [("_law_at", 3)]) (by rfl) nd (i_rng (by rfl) F.b_range (z_len hK (by rfl) F.b_len (z_var 0))) (blkOk_by (own := [("_law_at", 3)]) (N := N__law_all_placed) (sc := (defScope (top 26))) (by decide +kernel)) (fun _ _ _ _ _ => (g_nm 3 nd (by rfl) (by first | exact Or.inl rfl | exact Or.inr rfl) (by first | exact Or.inl rfl | exact Or.inr rfl))) (fun _ _ _ _ _ => ts_nil) (fun _ _ _ _ _ => (z_cal F.f__law_placed takes0 hr (by rfl) (z_cons (z_var 0) (z_cons (z_var 1) (z_cons (z_var 3) (z_cons (z_var 2) (z_cons z_newK z_nil))))))) (by decide)))))
 s_nil)))

theorem sc__law_whole : FnScope N__law_whole ["_law_thing"] (defScope (top 27)) := ⟨rfl, rfl, rfl, by decide +kernel, rfl, by decide +kernel, by decide +kernel⟩
theorem b__law_whole (F : Fs P w K mg base c k) (hK : c.K = K) (hr : Room k (A.deeper (envOfC "_law_whole" (defScope (top 27)) s.heap.objs.size f cdv))) :
    PSs (cxOf (L2.CX P w) P w K mg base N__law_whole "_law_whole" (defScope (top 27)) f cdv A outer s H E) (defBody (top 27)) (tS c (fun cls d _ H' => E cls d H') (mb__law_whole ⟨callN Pg k⟩)) := by
  have hu := room_u hr
  have nd : (N__law_whole).Nodup := sc__law_whole.nd
  have tk : Takes (cxOf (L2.CX P w) P w K mg base N__law_whole "_law_whole" (defScope (top 27)) f cdv A outer s H E) (fun cls d _ H' => E cls d H') := takes_of rfl rfl rfl rfl
  have hp : PassesOwn (model P w) (A.deeper (envOfC "_law_whole" (defScope (top 27)) s.heap.objs.size f cdv)) (envOfC "_law_whole" (defScope (top 27)) s.heap.objs.size f cdv) (cxOf (L2.CX P w) P w K mg base N__law_whole "_law_whole" (defScope (top 27)) f cdv A outer s H E).xe := passes_of rfl
  delta mb__law_whole
  exact (s_cons (s_ret (z_andv hK (z_isi .int hK (by rfl) F.b_isinstance (by rfl) F.b_int (z_var 0)) (z_onev (z_notv hK (z_isi .bool hK (by rfl) F.b_isinstance (by rfl) F.b_bool (z_var 0))))))
 s_nil)

theorem sc__law_is_plan : FnScope N__law_is_plan ["_law_calls", "_law_plan", "_law_hands"] (defScope (top 28)) := ⟨rfl, rfl, rfl, by decide +kernel, rfl, by decide +kernel, by decide +kernel⟩
theorem b__law_is_plan (F : Fs P w K mg base c k) (hK : c.K = K) (hr : Room k (A.deeper (envOfC "_law_is_plan" (defScope (top 28)) s.heap.objs.size f cdv))) :
    PSs (cxOf (L2.CX P w) P w K mg base N__law_is_plan "_law_is_plan" (defScope (top 28)) f cdv A outer s H E) (defBody (top 28)) (tS c (fun cls d _ H' => E cls d H') (mb__law_is_plan ⟨callN Pg k⟩)) := by
  have hu := room_u hr
  have nd : (N__law_is_plan).Nodup := sc__law_is_plan.nd
  have tk : Takes (cxOf (L2.CX P w) P w K mg base N__law_is_plan "_law_is_plan" (defScope (top 28)) f cdv A outer s H E) (fun cls d _ H' => E cls d H') := takes_of rfl rfl rfl rfl
  have hp : PassesOwn (model P w) (A.deeper (envOfC "_law_is_plan" (defScope (top 28)) s.heap.objs.size f cdv)) (envOfC "_law_is_plan" (defScope (top 28)) s.heap.objs.size f cdv) (cxOf (L2.CX P w) P w K mg base N__law_is_plan "_law_is_plan" (defScope (top 28)) f cdv A outer s H E).xe := passes_of rfl
  delta mb__law_is_plan
  exact (s_cons (s_if (z_or (z_not (z_tru hK (z_isi .tuple hK (by rfl) F.b_isinstance (by rfl) F.b_tuple (z_var 1)))) (z_or (z_cmpT (cok_ne hu hK) (z_len hK (by rfl) F.b_len (z_var 1)) (z_len hK (by rfl) F.b_len (z_var 0))) (z_or1 (z_not (z_tru hK (z_allq hK (by rfl) (by rfl) F.b_all (z_nl (z_comp (own := [("_law_beat", 3)]) (by rfl) nd (i_of hK (z_var 1)) (blkOk_by (own := [("_law_beat", 3)]) (N := N__law_is_plan) (sc := (defScope (top 28))) (by decide +kernel)) (fun _ _ _ _ _ => (g_nm 3 nd (by rfl) (by first | exact Or.inl rfl | exact Or.inr rfl) (by first | exact Or.inl rfl | exact Or.inr rfl))) (fun _ _ _ _ _ => ts_nil) (fun _ _ _ _ _ => (z_cal F.f__law_whole takes0 hr (by rfl) (z_cons (z_var 3) z_nil))) (by decide))))))))).pt (s_cons (s_ret z_bl)
 s_nil) s_nil)
 (s_cons (s_if (z_not (z_tru hK (z_allq hK (by rfl) (by rfl) F.b_all (z_nl (z_comp (own := [("_law_call", 4), ("_law_beat", 3)]) (by rfl) nd (i_zip hK (by rfl) F.b_zip (z_var 0) (z_var 1)) (blkOk_by (own := [("_law_call", 4), ("_law_beat", 3)]) (N := N__law_is_plan) (sc := (defScope (top 28))) (by decide +kernel)) (fun _ _ _ _ _ => (g_tup hK (by rfl) (g_cons (g_nm 4 nd (by rfl) (by first | exact Or.inl rfl | exact Or.inr rfl) (by first | exact Or.inl rfl | exact Or.inr rfl)) (g_cons (g_nm 3 nd (by rfl) (by first | exact Or.inl rfl | exact Or.inr rfl) (by first | exact Or.inl rfl | exact Or.inr rfl)) g_nil)))) (fun _ _ _ _ _ => ts_nil) (fun _ _ _ _ _ => (z_chn (cok_le hu hK) (cok_le hu hK) (z_ix hK (z_var 4) z_int) (z_var 3) (z_ix hK (z_var 4) z_int))) (by decide)))))) (s_cons (s_ret z_bl)
 s_nil) s_nil)
 (s_cons (s_ret (z_cmp (cok_le hu hK) (z_maxq hK (by rfl) (by rfl) F.b_max (z_nl (z_catL hK (z_fz (z_lst (z_cons z_int z_nil))) (z_fz (z_comp (own := [("_law_beat", 3)]) (by rfl) nd (i_of hK (z_var 1)) (blkOk_by (own := [("_law_beat", 3)]) (N := N__law_is_plan) (sc := (defScope (top 28))) (by decide +kernel)) (fun _ _ _ _ _ => (g_nm 3 nd (by rfl) (by first | exact Or.inl rfl | exact Or.inr rfl) (by first | exact Or.inl rfl | exact Or.inr rfl))) (fun _ _ _ _ _ => ts_nil) (fun _ _ _ _ _ => (z_count hK (z_var 1) (z_var 3))) (by decide)))))) (z_var 2)))
 s_nil)))

theorem sc__law_is_short : FnScope N__law_is_short ["_law_calls", "_law_first", "_law_last", "_law_hands"] (defScope (top 29)) := ⟨rfl, rfl, rfl, by decide +kernel, rfl, by decide +kernel, by decide +kernel⟩
theorem b__law_is_short (F : Fs P w K mg base c k) (hK : c.K = K) (hr : Room k (A.deeper (envOfC "_law_is_short" (defScope (top 29)) s.heap.objs.size f cdv))) :
    PSs (cxOf (L2.CX P w) P w K mg base N__law_is_short "_law_is_short" (defScope (top 29)) f cdv A outer s H E) (defBody (top 29)) (tS c (fun cls d _ H' => E cls d H') (mb__law_is_short ⟨callN Pg k⟩)) := by
  have hu := room_u hr
  have nd : (N__law_is_short).Nodup := sc__law_is_short.nd
  have tk : Takes (cxOf (L2.CX P w) P w K mg base N__law_is_short "_law_is_short" (defScope (top 29)) f cdv A outer s H E) (fun cls d _ H' => E cls d H') := takes_of rfl rfl rfl rfl
  have hp : PassesOwn (model P w) (A.deeper (envOfC "_law_is_short" (defScope (top 29)) s.heap.objs.size f cdv)) (envOfC "_law_is_short" (defScope (top 29)) s.heap.objs.size f cdv) (cxOf (L2.CX P w) P w K mg base N__law_is_short "_law_is_short" (defScope (top 29)) f cdv A outer s H E).xe := passes_of rfl
  delta mb__law_is_short
  exact (s_cons (s_if (z_or (z_not (z_tru hK (z_cal F.f__law_whole tk hr (by rfl) (z_cons (z_var 1) z_nil)))) (z_or (z_not (z_tru hK (z_cal F.f__law_whole tk hr (by rfl) (z_cons (z_var 2) z_nil)))) (z_or1 (z_not (z_cmpT (cok_le hu hK) (z_var 1) (z_var 2)))))).pt (s_cons (s_ret z_bl)
 s_nil) s_nil)
 (s_cons (s_ret (z_cmp cok_gt (z_lenq hK (by rfl) F.b_len (z_st (z_nq (z_comp (own := [("_law_call", 4)]) (by rfl) nd (i_of hK (z_var 0)) (blkOk_by (own := [("_law_call", 4)]) (N := N__law_is_short) (sc := (defScope (top 29))) (by decide +kernel)) (fun _ _ _ _ _ => (g_nm 4 nd (by rfl) (by first | exact Or.inl rfl | exact Or.inr rfl) (by first | exact Or.inl rfl | exact Or.inr rfl))) (fun _ _ _ _ _ => (ts_one (z_and (z_cmpT (cok_le hu hK) (z_var 1) (z_ix hK (z_var 4) z_int)) (z_and1 (z_cmpT (cok_le hu hK) (z_ix hK (z_var 4) z_int) (z_var 2)))).pt)) (fun _ _ _ _ _ => z_int) (by decide))))) (z_mul hK (z_var 3) (z_add (z_sub (z_var 2) (z_var 1)) z_int hK))))
 s_nil))

theorem sc__law_how : FnScope N__law_how ["_law_calls"] (defScope (top 30)) := ⟨rfl, rfl, rfl, by decide +kernel, rfl, by decide +kernel, by decide +kernel⟩
theorem b__law_how (F : Fs P w K mg base c k) (hK : c.K = K) (hr : Room k (A.deeper (envOfC "_law_how" (defScope (top 30)) s.heap.objs.size f cdv))) :
    PSs (cxOf (L2.CX P w) P w K mg base N__law_how "_law_how" (defScope (top 30)) f cdv A outer s H E) (defBody (top 30)) (tS c (fun cls d _ H' => E cls d H') (mb__law_how ⟨callN Pg k⟩)) := by
  have hu := room_u hr
  have nd : (N__law_how).Nodup := sc__law_how.nd
  have tk : Takes (cxOf (L2.CX P w) P w K mg base N__law_how "_law_how" (defScope (top 30)) f cdv A outer s H E) (fun cls d _ H' => E cls d H') := takes_of rfl rfl rfl rfl
  have hp : PassesOwn (model P w) (A.deeper (envOfC "_law_how" (defScope (top 30)) s.heap.objs.size f cdv)) (envOfC "_law_how" (defScope (top 30)) s.heap.objs.size f cdv) (cxOf (L2.CX P w) P w K mg base N__law_how "_law_how" (defScope (top 30)) f cdv A outer s H E).xe := passes_of rfl
  delta mb__law_how
  exact (s_cons (s_set 1 nd (by rfl) (by first | exact Or.inl rfl | exact Or.inr rfl) (z_cal F.f_least_hands tk hr (by rfl) (z_cons (z_var 0) z_nil)) (by first | exact Or.inl rfl | exact Or.inr rfl))
 (s_cons (s_if (z_or (z_not (z_tru hK (z_isi .tuple hK (by rfl) F.b_isinstance (by rfl) F.b_tuple (z_var 1)))) (z_or (z_cmpT (cok_ne hu hK) (z_len hK (by rfl) F.b_len (z_var 1)) z_int) (z_or1 (z_not (z_tru hK (z_cal F.f__law_whole tk hr (by rfl) (z_cons (z_ix hK (z_var 1) z_int) z_nil))))))).pt (s_cons (s_ret z_non)
 s_nil) s_nil)
 (s_cons (s_asg (z_var 1) (g_wk (g_tup hK (by rfl) (g_cons (g_nm 2 nd (by rfl) (by first | exact Or.inl rfl | exact Or.inr rfl) (by first | exact Or.inl rfl | exact Or.inr rfl)) (g_cons (g_nm 3 nd (by rfl) (by first | exact Or.inl rfl | exact Or.inr rfl) (by first | exact Or.inl rfl | exact Or.inr rfl)) (g_cons (g_nm 4 nd (by rfl) (by first | exact Or.inl rfl | exact Or.inr rfl) (by first | exact Or.inl rfl | exact Or.inr rfl)) g_nil))))))
 (s_cons (s_if (z_or (z_not (z_tru hK (z_cal F.f__law_is_plan tk hr (by rfl) (z_cons (z_var 0) (z_cons (z_var 3) (z_cons (z_var 2) z_nil)))))) (z_or1 (z_not (z_tru hK (z_cal F.f__law_all_placed tk hr (by rfl) (z_cons (z_var 0) (z_cons (z_var 2) z_nil))))))).pt (s_cons (s_ret z_non)
 s_nil) s_nil)
 (s_cons (s_if (z_cmpT (cok_eq hu hK) (z_var 2) z_int) (s_cons (s_ret (z_ix hK (z_fz (z_lst (z_cons z_non (z_cons z_int z_nil)))) (z_toint (by rfl) F.b_int (z_andv hK (z_cmp (cok_eqE hu hK) (z_var 0) (z_tup z_nil)) (z_onev (z_cmp cok_isN (z_var 4) z_non))))))
 s_nil) s_nil)
 (s_cons (s_if (z_or (z_not (z_tru hK (z_isi .tuple hK (by rfl) F.b_isinstance (by rfl) F.b_tuple (z_var 4)))) (z_or (z_cmpT (cok_ne hu hK) (z_len hK (by rfl) F.b_len (z_var 4)) z_int) (z_or1 (z_tru hK (z_cal F.f__law_all_placed tk hr (by rfl) (z_cons (z_var 0) (z_cons (z_sub (z_var 2) z_int) z_nil))))))).pt (s_cons (s_ret z_non)
 s_nil) s_nil)
 (s_cons (s_ret (z_ix hK (z_fz (z_lst (z_cons z_non (z_cons (z_var 2) z_nil)))) (z_toint (by rfl) F.b_int (z_cal F.f__law_is_short tk hr (by rfl) (z_cons (z_var 0) (z_cons (z_ix hK (z_var 4) z_int) (z_cons (z_ix hK (z_var 4) z_int) (z_cons (z_sub (z_var 2) z_int) z_nil))))))))
 s_nil)))))))

theorem sc__law_some_hands : FnScope N__law_some_hands ["_law_calls", "_law_how_here"] (defScope (top 31)) := ⟨rfl, rfl, rfl, by decide +kernel, rfl, by decide +kernel, by decide +kernel⟩
theorem b__law_some_hands (F : Fs P w K mg base c k) (hK : c.K = K) (hr : Room k (A.deeper (envOfC "_law_some_hands" (defScope (top 31)) s.heap.objs.size f cdv))) :
    PSs (cxOf (L2.CX P w) P w K mg base N__law_some_hands "_law_some_hands" (defScope (top 31)) f cdv A outer s H E) (defBody (top 31)) (tS c (fun cls d _ H' => E cls d H') (mb__law_some_hands ⟨callN Pg k⟩)) := by
  have hu := room_u hr
  have nd : (N__law_some_hands).Nodup := sc__law_some_hands.nd
  have tk : Takes (cxOf (L2.CX P w) P w K mg base N__law_some_hands "_law_some_hands" (defScope (top 31)) f cdv A outer s H E) (fun cls d _ H' => E cls d H') := takes_of rfl rfl rfl rfl
  have hp : PassesOwn (model P w) (A.deeper (envOfC "_law_some_hands" (defScope (top 31)) s.heap.objs.size f cdv)) (envOfC "_law_some_hands" (defScope (top 31)) s.heap.objs.size f cdv) (cxOf (L2.CX P w) P w K mg base N__law_some_hands "_law_some_hands" (defScope (top 31)) f cdv A outer s H E).xe := passes_of rfl
  delta mb__law_some_hands lb__law_some_hands_0 lb__law_some_hands_1
  exact (s_cons (s_for hp (by rfl) (i_st hK (z_lst (z_cons (z_var 1) (z_cons (z_add (z_var 1) z_int hK) (z_cons (z_add (z_var 1) z_int hK) (z_cons (z_pow z_int z_int) z_nil)))))) (g_nm 2 nd (by rfl) (by first | exact Or.inl rfl | exact Or.inr rfl) (by first | exact Or.inl rfl | exact Or.inr rfl)) (s_cons (s_set 3 nd (by rfl) (by first | exact Or.inl rfl | exact Or.inr rfl) (z_cal F.f_with_hands tk hr (by rfl) (z_cons (z_var 0) (z_cons (z_var 2) z_nil))) (by first | exact Or.inl rfl | exact Or.inr rfl))
 (s_cons (s_if (z_or (z_not (z_tru hK (z_isi .tuple hK (by rfl) F.b_isinstance (by rfl) F.b_tuple (z_var 3)))) (z_or (z_cmpT (cok_ne hu hK) (z_len hK (by rfl) F.b_len (z_var 3)) z_int) (z_or1 (z_cmpT (cok_ne hu hK) (z_ix hK (z_var 3) z_int) z_str)))).pt (s_cons (s_ret z_bl)
 s_nil) s_nil)
 (s_cons (s_if (z_not (z_tru hK (z_cal F.f__law_is_plan tk hr (by rfl) (z_cons (z_var 0) (z_cons (z_ix hK (z_var 3) z_int) (z_cons (z_var 2) z_nil)))))) (s_cons (s_ret z_bl)
 s_nil) s_nil)
 s_nil))))
 (s_cons (s_for hp (by rfl) (i_rng (by rfl) F.b_range (z_var 1)) (g_nm 2 nd (by rfl) (by first | exact Or.inl rfl | exact Or.inr rfl) (by first | exact Or.inl rfl | exact Or.inr rfl)) (s_cons (s_set 3 nd (by rfl) (by first | exact Or.inl rfl | exact Or.inr rfl) (z_cal F.f_with_hands tk hr (by rfl) (z_cons (z_var 0) (z_cons (z_var 2) z_nil))) (by first | exact Or.inl rfl | exact Or.inr rfl))
 (s_cons (s_if (z_or (z_not (z_tru hK (z_isi .tuple hK (by rfl) F.b_isinstance (by rfl) F.b_tuple (z_var 3)))) (z_or (z_cmpT (cok_ne hu hK) (z_len hK (by rfl) F.b_len (z_var 3)) z_int) (z_or1 (z_cmpT (cok_ne hu hK) (z_ix hK (z_var 3) z_int) z_str)))).pt (s_cons (s_ret z_bl)
 s_nil) s_nil)
 (s_cons (s_if (z_not (z_tru hK (z_cal F.f__law_is_short tk hr (by rfl) (z_cons (z_var 0) (z_cons (z_ix hK (z_var 3) z_int) (z_cons (z_ix hK (z_var 3) z_int) (z_cons (z_var 2) z_nil))))))) (s_cons (s_ret z_bl)
 s_nil) s_nil)
 s_nil))))
 (s_cons (s_ret z_bl)
 s_nil)))

theorem sc__law_others : FnScope N__law_others ["_law_pool_here", "_law_calls", "_law_how_here"] (defScope (top 32)) := ⟨rfl, rfl, rfl, by decide +kernel, rfl, by decide +kernel, by decide +kernel⟩
theorem b__law_others (F : Fs P w K mg base c k) (hK : c.K = K) (hr : Room k (A.deeper (envOfC "_law_others" (defScope (top 32)) s.heap.objs.size f cdv))) :
    PSs (cxOf (L2.CX P w) P w K mg base N__law_others "_law_others" (defScope (top 32)) f cdv A outer s H E) (defBody (top 32)) (tS c (fun cls d _ H' => E cls d H') (mb__law_others ⟨callN Pg k⟩)) := by
  have hu := room_u hr
  have nd : (N__law_others).Nodup := sc__law_others.nd
  have tk : Takes (cxOf (L2.CX P w) P w K mg base N__law_others "_law_others" (defScope (top 32)) f cdv A outer s H E) (fun cls d _ H' => E cls d H') := takes_of rfl rfl rfl rfl
  have hp : PassesOwn (model P w) (A.deeper (envOfC "_law_others" (defScope (top 32)) s.heap.objs.size f cdv)) (envOfC "_law_others" (defScope (top 32)) s.heap.objs.size f cdv) (cxOf (L2.CX P w) P w K mg base N__law_others "_law_others" (defScope (top 32)) f cdv A outer s H E).xe := passes_of rfl
  delta mb__law_others ce__law_others_0
  exact (s_cons (s_set 3 nd (by rfl) (by first | exact Or.inl rfl | exact Or.inr rfl) (z_add z_int (z_cal F.f__law_take tk hr (by rfl) (z_cons (z_var 0) (z_cons z_int z_nil))) hK) (by first | exact Or.inl rfl | exact Or.inr rfl))
 (s_cons (s_set 4 nd (by rfl) (by first | exact Or.inl rfl | exact Or.inr rfl) (z_new (z_lst (z_cons (z_tup (z_cons (z_tupq hK (by rfl) F.b_tuple (z_st (z_nq (z_sortT hK (by rfl) F.b_sorted (z_add (z_var 1) (z_tup (z_cons (z_tup (z_cons (z_var 3) (z_cons (z_add (z_var 3) (z_cal F.f__law_take tk hr (by rfl) (z_cons (z_var 0) (z_cons z_int z_nil))) hK) z_nil))) z_nil)) hK))))) (z_cons (z_var 2) (z_cons (z_add (z_var 2) z_int hK) z_nil)))) z_nil))) (by first | exact Or.inl rfl | exact Or.inr rfl))
 (s_cons (s_set 5 nd (by rfl) (by first | exact Or.inl rfl | exact Or.inr rfl) (z_cal F.f__law_take tk hr (by rfl) (z_cons (z_var 0) (z_cons z_int z_nil))) (by first | exact Or.inl rfl | exact Or.inr rfl))
 (s_cons (s_exp (z_append hK (z_var 4) (z_tup (z_cons (z_tupq hK (by rfl) F.b_tuple (z_st (z_nq (z_comp (own := [("_law_one", 8), ("_law_other", 9)]) (by rfl) nd (i_of hK (z_var 1)) (blkOk_by (own := [("_law_one", 8), ("_law_other", 9)]) (N := N__law_others) (sc := (defScope (top 32))) (by decide +kernel)) (fun _ _ _ _ _ => (g_wk (g_tup hK (by rfl) (g_cons (g_nm 8 nd (by rfl) (by first | exact Or.inl rfl | exact Or.inr rfl) (by first | exact Or.inl rfl | exact Or.inr rfl)) (g_cons (g_nm 9 nd (by rfl) (by first | exact Or.inl rfl | exact Or.inr rfl) (by first | exact Or.inl rfl | exact Or.inr rfl)) g_nil))))) (fun _ _ _ _ _ => ts_nil) (fun _ _ _ _ _ => (z_tup (z_cons (z_add (z_var 8) (z_var 5) hK) (z_cons (z_add (z_var 9) (z_var 5) hK) z_nil)))) (by decide))))) (z_cons (z_var 2) (z_cons (z_var 2) z_nil))))))
 (s_cons (s_if (z_cmpT (cok_lt hu hK) (z_len hK (by rfl) F.b_len (z_var 1)) z_int) (s_cons (s_exp (z_append hK (z_var 4) (z_tup (z_cons (z_tupq hK (by rfl) F.b_tuple (z_st (z_nq (z_sortT hK (by rfl) F.b_sorted (z_add (z_var 1) (z_var 1) hK))))) (z_cons (z_var 2) (z_cons (z_mul hK z_int (z_var 2)) z_nil))))))
 s_nil) s_nil)
 (s_cons (s_if (z_cmpT (cok_ne hu hK) (z_var 1) (z_tup z_nil)) (s_cons (s_set 6 nd (by rfl) (by first | exact Or.inl rfl | exact Or.inr rfl) (z_cal F.f__law_take tk hr (by rfl) (z_cons (z_var 0) (z_cons (z_len hK (by rfl) F.b_len (z_var 1)) z_nil))) (by first | exact Or.inl rfl | exact Or.inr rfl))
 (s_cons (s_asg (z_tup (z_cons (z_add (z_slT hK (z_var 1) z_no (z_so (z_var 6))) (z_slT hK (z_var 1) (z_so (z_add (z_var 6) z_int hK)) z_no) hK) (z_cons (z_ix hK (z_var 1) (z_var 6)) z_nil))) (g_wk (g_tup hK (by rfl) (g_cons (g_nm 7 nd (by rfl) (by first | exact Or.inl rfl | exact Or.inr rfl) (by first | exact Or.inl rfl | exact Or.inr rfl)) (g_cons (g_wk (g_tup hK (by rfl) (g_cons (g_nm 8 nd (by rfl) (by first | exact Or.inl rfl | exact Or.inr rfl) (by first | exact Or.inl rfl | exact Or.inr rfl)) (g_cons (g_nm 9 nd (by rfl) (by first | exact Or.inl rfl | exact Or.inr rfl) (by first | exact Or.inl rfl | exact Or.inr rfl)) g_nil)))) g_nil)))))
 (s_cons (s_exp (z_append hK (z_var 4) (z_tup (z_cons (z_var 7) (z_cons (z_sub (z_var 2) z_int) (z_cons (z_var 2) z_nil))))))
 (s_cons (s_exp (z_append hK (z_var 4) (z_tup (z_cons (z_tupq hK (by rfl) F.b_tuple (z_st (z_nq (z_sortT hK (by rfl) F.b_sorted (z_add (z_var 7) (z_tup (z_cons (z_tup (z_cons (z_var 8) (z_cons (z_add (z_var 9) (z_cal F.f__law_take tk hr (by rfl) (z_cons (z_var 0) (z_cons z_int z_nil))) hK) z_nil))) z_nil)) hK))))) (z_cons (z_sub (z_var 2) z_int) (z_cons (z_var 2) z_nil))))))
 (s_cons (s_exp (z_append hK (z_var 4) (z_tup (z_cons (z_tupq hK (by rfl) F.b_tuple (z_st (z_nq (z_sortT hK (by rfl) F.b_sorted (z_add (z_var 7) (z_tup (z_cons (z_tup (z_cons (z_var 8) (z_cons (z_mx2 (by rfl) (by rfl) F.b_max (z_var 8) (z_sub (z_var 9) (z_cal F.f__law_take tk hr (by rfl) (z_cons (z_var 0) (z_cons z_int z_nil))))) z_nil))) z_nil)) hK))))) (z_cons (z_var 2) (z_cons (z_add (z_var 2) z_int hK) z_nil))))))
 s_nil))))) s_nil)
 (s_cons (s_ret (z_var 4))
 s_nil)))))))

theorem sc_law : FnScope N_law ["_law_script"] (defScope (top 33)) := ⟨rfl, rfl, rfl, by decide +kernel, rfl, by decide +kernel, by decide +kernel⟩
theorem b_law (F : Fs P w K mg base c k) (hK : c.K = K) (hr : Room k (A.deeper (envOfC "law" (defScope (top 33)) s.heap.objs.size f cdv))) :
    PSs (cxOf (L2.CX P w) P w K mg base N_law "law" (defScope (top 33)) f cdv A outer s H E) (defBody (top 33)) (tS c (fun cls d _ H' => E cls d H') (mb_law ⟨callN Pg k⟩)) := by
  have hu := room_u hr
  have nd : (N_law).Nodup := sc_law.nd
  have tk : Takes (cxOf (L2.CX P w) P w K mg base N_law "law" (defScope (top 33)) f cdv A outer s H E) (fun cls d _ H' => E cls d H') := takes_of rfl rfl rfl rfl
  have hp : PassesOwn (model P w) (A.deeper (envOfC "law" (defScope (top 33)) s.heap.objs.size f cdv)) (envOfC "law" (defScope (top 33)) s.heap.objs.size f cdv) (cxOf (L2.CX P w) P w K mg base N_law "law" (defScope (top 33)) f cdv A outer s H E).xe := passes_of rfl
  delta mb_law lb_law_0 lb_law_1
  exact (s_cons (s_for hp (by rfl) (i_rng (by rfl) F.b_range (z_mx2 (by rfl) (by rfl) F.b_max z_int (z_mn2 (by rfl) (by rfl) F.b_min (z_len hK (by rfl) F.b_len (z_var 0)) z_int))) (g_nm 1 nd (by rfl) (by first | exact Or.inl rfl | exact Or.inr rfl) (by first | exact Or.inl rfl | exact Or.inr rfl)) (s_cons (s_set 2 nd (by rfl) (by first | exact Or.inl rfl | exact Or.inr rfl) (z_cal F.f__law_pool tk hr (by rfl) (z_cons (z_var 0) (z_cons (z_var 1) z_nil))) (by first | exact Or.inl rfl | exact Or.inr rfl))
 (s_cons (s_set 3 nd (by rfl) (by first | exact Or.inl rfl | exact Or.inr rfl) (z_cal F.f__law_drawn tk hr (by rfl) (z_cons (z_var 2) z_nil)) (by first | exact Or.inl rfl | exact Or.inr rfl))
 (s_cons (s_set 4 nd (by rfl) (by first | exact Or.inl rfl | exact Or.inr rfl) (z_cal F.f__law_how tk hr (by rfl) (z_cons (z_var 3) z_nil)) (by first | exact Or.inl rfl | exact Or.inr rfl))
 (s_cons (s_if (z_or (z_cmpT cok_isN (z_var 4) z_non) (z_or1 (z_not (z_tru hK (z_cal F.f__law_some_hands tk hr (by rfl) (z_cons (z_var 3) (z_cons (z_var 4) z_nil))))))).pt (s_cons (s_ret z_bl)
 s_nil) s_nil)
 (s_cons (s_for hp (by rfl) (i_of hK (z_cal F.f__law_others tk hr (by rfl) (z_cons (z_var 2) (z_cons (z_var 3) (z_cons (z_var 4) z_nil))))) (g_wk (g_tup hK (by rfl) (g_cons (g_nm 5 nd (by rfl) (by first | exact Or.inl rfl | exact Or.inr rfl) (by first | exact Or.inl rfl | exact Or.inr rfl)) (g_cons (g_nm 6 nd (by rfl) (by first | exact Or.inl rfl | exact Or.inr rfl) (by first | exact Or.inl rfl | exact Or.inr rfl)) (g_cons (g_nm 7 nd (by rfl) (by first | exact Or.inl rfl | exact Or.inr rfl) (by first | exact Or.inl rfl | exact Or.inr rfl)) g_nil))))) (s_cons (s_set 8 nd (by rfl) (by first | exact Or.inl rfl | exact Or.inr rfl) (z_cal F.f__law_how tk hr (by rfl) (z_cons (z_var 5) z_nil)) (by first | exact Or.inl rfl | exact Or.inr rfl))
 (s_cons (s_if (z_or (z_cmpT cok_isN (z_var 8) z_non) (z_or1 (z_not (z_chnT (cok_le hu hK) (cok_le hu hK) (z_var 6) (z_var 8) (z_var 7))))).pt (s_cons (s_ret z_bl)
 s_nil) s_nil)
 s_nil)))
 s_nil))))))
 (s_cons (s_ret z_bl)
 s_nil))

end
def dd_is_whole : He.DefD := ⟨("is_whole", none), "is_whole", "is_whole", defArgs (top 6), defBody (top 6), defScope (top 6), [], []⟩
def dd_is_between : He.DefD := ⟨("is_between", none), "is_between", "is_between", defArgs (top 7), defBody (top 7), defScope (top 7), [], []⟩
def dd_is_stretch : He.DefD := ⟨("is_stretch", none), "is_stretch", "is_stretch", defArgs (top 10), defBody (top 10), defScope (top 10), [], []⟩
def dd_are_calls : He.DefD := ⟨("are_calls", none), "are_calls", "are_calls", defArgs (top 11), defBody (top 11), defScope (top 11), [], []⟩
def dd_check_calls : He.DefD := ⟨("check_calls", none), "check_calls", "check_calls", defArgs (top 13), defBody (top 13), defScope (top 13), [], []⟩
def dd_check_many : He.DefD := ⟨("check_many", none), "check_many", "check_many", defArgs (top 14), defBody (top 14), defScope (top 14), [], []⟩
def dd_within : He.DefD := ⟨("within", none), "within", "within", defArgs (top 15), defBody (top 15), defScope (top 15), [], []⟩
def dd_wanted : He.DefD := ⟨("wanted", none), "wanted", "wanted", defArgs (top 16), defBody (top 16), defScope (top 16), [], []⟩
def dd_plan_by : He.DefD := ⟨("plan_by", none), "plan_by", "plan_by", defArgs (top 17), defBody (top 17), defScope (top 17), [], []⟩
def dd_least_hands : He.DefD := ⟨("least_hands", none), "least_hands", "least_hands", defArgs (top 18), defBody (top 18), defScope (top 18), [], []⟩
def dd_with_hands : He.DefD := ⟨("with_hands", none), "with_hands", "with_hands", defArgs (top 19), defBody (top 19), defScope (top 19), [], []⟩
def dd__law_pool : He.DefD := ⟨("_law_pool", none), "_law_pool", "_law_pool", defArgs (top 21), defBody (top 21), defScope (top 21), [], []⟩
def dd__law_take : He.DefD := ⟨("_law_take", none), "_law_take", "_law_take", defArgs (top 22), defBody (top 22), defScope (top 22), [], []⟩
def dd__law_drawn : He.DefD := ⟨("_law_drawn", none), "_law_drawn", "_law_drawn", defArgs (top 23), defBody (top 23), defScope (top 23), [], []⟩
def dd__law_beats : He.DefD := ⟨("_law_beats", none), "_law_beats", "_law_beats", defArgs (top 24), defBody (top 24), defScope (top 24), [], []⟩
def dd__law_placed : He.DefD := ⟨("_law_placed", none), "_law_placed", "_law_placed", defArgs (top 25), defBody (top 25), defScope (top 25), [], []⟩
def dd__law_all_placed : He.DefD := ⟨("_law_all_placed", none), "_law_all_placed", "_law_all_placed", defArgs (top 26), defBody (top 26), defScope (top 26), [], []⟩
def dd__law_whole : He.DefD := ⟨("_law_whole", none), "_law_whole", "_law_whole", defArgs (top 27), defBody (top 27), defScope (top 27), [], []⟩
def dd__law_is_plan : He.DefD := ⟨("_law_is_plan", none), "_law_is_plan", "_law_is_plan", defArgs (top 28), defBody (top 28), defScope (top 28), [], []⟩
def dd__law_is_short : He.DefD := ⟨("_law_is_short", none), "_law_is_short", "_law_is_short", defArgs (top 29), defBody (top 29), defScope (top 29), [], []⟩
def dd__law_how : He.DefD := ⟨("_law_how", none), "_law_how", "_law_how", defArgs (top 30), defBody (top 30), defScope (top 30), [], []⟩
def dd__law_some_hands : He.DefD := ⟨("_law_some_hands", none), "_law_some_hands", "_law_some_hands", defArgs (top 31), defBody (top 31), defScope (top 31), [], []⟩
def dd__law_others : He.DefD := ⟨("_law_others", none), "_law_others", "_law_others", defArgs (top 32), defBody (top 32), defScope (top 32), [], []⟩
def dd_law : He.DefD := ⟨("law", none), "law", "law", defArgs (top 33), defBody (top 33), defScope (top 33), [], []⟩
def fn : List He.DefD := [dd_is_whole, dd_is_between, dd_is_stretch, dd_are_calls, dd_check_calls, dd_check_many, dd_within, dd_wanted, dd_plan_by, dd_least_hands, dd_with_hands, dd__law_pool, dd__law_take, dd__law_drawn, dd__law_beats, dd__law_placed, dd__law_all_placed, dd__law_whole, dd__law_is_plan, dd__law_is_short, dd__law_how, dd__law_some_hands, dd__law_others, dd_law]
def fa : List He.Fa := [.glo "is_whole", .glo "is_between", .glo "is_stretch", .glo "are_calls", .glo "check_calls", .glo "check_many", .glo "within", .glo "wanted", .glo "plan_by", .glo "least_hands", .glo "with_hands", .glo "_law_pool", .glo "_law_take", .glo "_law_drawn", .glo "_law_beats", .glo "_law_placed", .glo "_law_all_placed", .glo "_law_whole", .glo "_law_is_plan", .glo "_law_is_short", .glo "_law_how", .glo "_law_some_hands", .glo "_law_others", .glo "law", .glo "NoMany", .glo "NoCalls", .exc "NoMany", .exc "NoCalls", .free "abs", .free "all", .free "bool", .free "divmod", .free "int", .free "isinstance", .free "len", .free "list", .free "max", .free "min", .free "range", .free "set", .free "sorted", .free "sum", .free "tuple", .free "zip", .int "BIG" 1000000000000000000000000000000, .int "MOST_CALLS" 12]
def exNs : List Str := ["DoffError", "NoMany", "NoCalls"]
def exK (K : PySem.W.Frag) : Bool := exB exNs K
theorem fs_all {P : Program} {w : World} {K : PySem.W.Frag} {mg : Str → Option Value} {base h : Heap} {c : Cn} (hK : c.K = K) (hE : c.eA = eAt K exNs) (X : K.In h) (G : h.Ns mainGlobals mg) (cZ : SaysZ fa fn exK K) : ∀ k, Fs P w K mg base c k := by
  have cS := cZ.d
  obtain ⟨fd_is_whole, F_is_whole⟩ := cS.def_ 0 (d := dd_is_whole) rfl
  have g_is_whole := He.glo_ok X G (cS.fact 0 (f := .glo "is_whole") rfl)
  have n_is_whole : Binds K fd_is_whole ["x"] [] := FunD.bindsN (ps := ["x"]) F_is_whole fun _ _ _ _ _ _ us hl => match us, hl with | [_], _ => rfl
  obtain ⟨fd_is_between, F_is_between⟩ := cS.def_ 1 (d := dd_is_between) rfl
  have g_is_between := He.glo_ok X G (cS.fact 1 (f := .glo "is_between") rfl)
  have n_is_between : Binds K fd_is_between ["x", "low", "high"] [] := FunD.bindsN (ps := ["x", "low", "high"]) F_is_between fun _ _ _ _ _ _ us hl => match us, hl with | [_, _, _], _ => rfl
  obtain ⟨fd_is_stretch, F_is_stretch⟩ := cS.def_ 2 (d := dd_is_stretch) rfl
  have g_is_stretch := He.glo_ok X G (cS.fact 2 (f := .glo "is_stretch") rfl)
  have n_is_stretch : Binds K fd_is_stretch ["thing", "most"] [] := FunD.bindsN (ps := ["thing", "most"]) F_is_stretch fun _ _ _ _ _ _ us hl => match us, hl with | [_, _], _ => rfl
  obtain ⟨fd_are_calls, F_are_calls⟩ := cS.def_ 3 (d := dd_are_calls) rfl
  have g_are_calls := He.glo_ok X G (cS.fact 3 (f := .glo "are_calls") rfl)
  have n_are_calls : Binds K fd_are_calls ["thing"] [] := FunD.bindsN (ps := ["thing"]) F_are_calls fun _ _ _ _ _ _ us hl => match us, hl with | [_], _ => rfl
  obtain ⟨fd_check_calls, F_check_calls⟩ := cS.def_ 4 (d := dd_check_calls) rfl
  have g_check_calls := He.glo_ok X G (cS.fact 4 (f := .glo "check_calls") rfl)
  have n_check_calls : Binds K fd_check_calls ["thing"] [] := FunD.bindsN (ps := ["thing"]) F_check_calls fun _ _ _ _ _ _ us hl => match us, hl with | [_], _ => rfl
  obtain ⟨fd_check_many, F_check_many⟩ := cS.def_ 5 (d := dd_check_many) rfl
  have g_check_many := He.glo_ok X G (cS.fact 5 (f := .glo "check_many") rfl)
  have n_check_many : Binds K fd_check_many ["many"] [] := FunD.bindsN (ps := ["many"]) F_check_many fun _ _ _ _ _ _ us hl => match us, hl with | [_], _ => rfl
  obtain ⟨fd_within, F_within⟩ := cS.def_ 6 (d := dd_within) rfl
  have g_within := He.glo_ok X G (cS.fact 6 (f := .glo "within") rfl)
  have n_within : Binds K fd_within ["calls", "first", "last"] [] := FunD.bindsN (ps := ["calls", "first", "last"]) F_within fun _ _ _ _ _ _ us hl => match us, hl with | [_, _, _], _ => rfl
  obtain ⟨fd_wanted, F_wanted⟩ := cS.def_ 7 (d := dd_wanted) rfl
  have g_wanted := He.glo_ok X G (cS.fact 7 (f := .glo "wanted") rfl)
  have n_wanted : Binds K fd_wanted ["calls"] [] := FunD.bindsN (ps := ["calls"]) F_wanted fun _ _ _ _ _ _ us hl => match us, hl with | [_], _ => rfl
  obtain ⟨fd_plan_by, F_plan_by⟩ := cS.def_ 8 (d := dd_plan_by) rfl
  have g_plan_by := He.glo_ok X G (cS.fact 8 (f := .glo "plan_by") rfl)
  have n_plan_by : Binds K fd_plan_by ["calls", "many"] [] := FunD.bindsN (ps := ["calls", "many"]) F_plan_by fun _ _ _ _ _ _ us hl => match us, hl with | [_, _], _ => rfl
  obtain ⟨fd_least_hands, F_least_hands⟩ := cS.def_ 9 (d := dd_least_hands) rfl
  have g_least_hands := He.glo_ok X G (cS.fact 9 (f := .glo "least_hands") rfl)
  have n_least_hands : Binds K fd_least_hands ["calls"] [] := FunD.bindsN (ps := ["calls"]) F_least_hands fun _ _ _ _ _ _ us hl => match us, hl with | [_], _ => rfl
  obtain ⟨fd_with_hands, F_with_hands⟩ := cS.def_ 10 (d := dd_with_hands) rfl
  have g_with_hands := He.glo_ok X G (cS.fact 10 (f := .glo "with_hands") rfl)
  have n_with_hands : Binds K fd_with_hands ["calls", "many"] [] := FunD.bindsN (ps := ["calls", "many"]) F_with_hands fun _ _ _ _ _ _ us hl => match us, hl with | [_, _], _ => rfl
  obtain ⟨fd__law_pool, F__law_pool⟩ := cS.def_ 11 (d := dd__law_pool) rfl
  have g__law_pool := He.glo_ok X G (cS.fact 11 (f := .glo "_law_pool") rfl)
  have n__law_pool : Binds K fd__law_pool ["_law_script", "_law_k"] [] := FunD.bindsN (ps := ["_law_script", "_law_k"]) F__law_pool fun _ _ _ _ _ _ us hl => match us, hl with | [_, _], _ => rfl
  obtain ⟨fd__law_take, F__law_take⟩ := cS.def_ 12 (d := dd__law_take) rfl
  have g__law_take := He.glo_ok X G (cS.fact 12 (f := .glo "_law_take") rfl)
  have n__law_take : Binds K fd__law_take ["_law_pool_here", "_law_many"] [] := FunD.bindsN (ps := ["_law_pool_here", "_law_many"]) F__law_take fun _ _ _ _ _ _ us hl => match us, hl with | [_, _], _ => rfl
  obtain ⟨fd__law_drawn, F__law_drawn⟩ := cS.def_ 13 (d := dd__law_drawn) rfl
  have g__law_drawn := He.glo_ok X G (cS.fact 13 (f := .glo "_law_drawn") rfl)
  have n__law_drawn : Binds K fd__law_drawn ["_law_pool_here"] [] := FunD.bindsN (ps := ["_law_pool_here"]) F__law_drawn fun _ _ _ _ _ _ us hl => match us, hl with | [_], _ => rfl
  obtain ⟨fd__law_beats, F__law_beats⟩ := cS.def_ 14 (d := dd__law_beats) rfl
  have g__law_beats := He.glo_ok X G (cS.fact 14 (f := .glo "_law_beats") rfl)
  have n__law_beats : Binds K fd__law_beats ["_law_call", "_law_many"] [] := FunD.bindsN (ps := ["_law_call", "_law_many"]) F__law_beats fun _ _ _ _ _ _ us hl => match us, hl with | [_, _], _ => rfl
  obtain ⟨fd__law_placed, F__law_placed⟩ := cS.def_ 15 (d := dd__law_placed) rfl
  have g__law_placed := He.glo_ok X G (cS.fact 15 (f := .glo "_law_placed") rfl)
  have n__law_placed : Binds K fd__law_placed ["_law_calls", "_law_hands", "_law_at", "_law_places", "_law_tried"] [] := FunD.bindsN (ps := ["_law_calls", "_law_hands", "_law_at", "_law_places", "_law_tried"]) F__law_placed fun _ _ _ _ _ _ us hl => match us, hl with | [_, _, _, _, _], _ => rfl
  obtain ⟨fd__law_all_placed, F__law_all_placed⟩ := cS.def_ 16 (d := dd__law_all_placed) rfl
  have g__law_all_placed := He.glo_ok X G (cS.fact 16 (f := .glo "_law_all_placed") rfl)
  have n__law_all_placed : Binds K fd__law_all_placed ["_law_calls", "_law_hands"] [] := FunD.bindsN (ps := ["_law_calls", "_law_hands"]) F__law_all_placed fun _ _ _ _ _ _ us hl => match us, hl with | [_, _], _ => rfl
  obtain ⟨fd__law_whole, F__law_whole⟩ := cS.def_ 17 (d := dd__law_whole) rfl
  have g__law_whole := He.glo_ok X G (cS.fact 17 (f := .glo "_law_whole") rfl)
  have n__law_whole : Binds K fd__law_whole ["_law_thing"] [] := FunD.bindsN (ps := ["_law_thing"]) F__law_whole fun _ _ _ _ _ _ us hl => match us, hl with | [_], _ => rfl
  obtain ⟨fd__law_is_plan, F__law_is_plan⟩ := cS.def_ 18 (d := dd__law_is_plan) rfl
  have g__law_is_plan := He.glo_ok X G (cS.fact 18 (f := .glo "_law_is_plan") rfl)
  have n__law_is_plan : Binds K fd__law_is_plan ["_law_calls", "_law_plan", "_law_hands"] [] := FunD.bindsN (ps := ["_law_calls", "_law_plan", "_law_hands"]) F__law_is_plan fun _ _ _ _ _ _ us hl => match us, hl with | [_, _, _], _ => rfl
  obtain ⟨fd__law_is_short, F__law_is_short⟩ := cS.def_ 19 (d := dd__law_is_short) rfl
  have g__law_is_short := He.glo_ok X G (cS.fact 19 (f := .glo "_law_is_short") rfl)
  have n__law_is_short : Binds K fd__law_is_short ["_law_calls", "_law_first", "_law_last", "_law_hands"] [] := FunD.bindsN (ps := ["_law_calls", "_law_first", "_law_last", "_law_hands"]) F__law_is_short fun _ _ _ _ _ _ us hl => match us, hl with | [_, _, _, _], _ => rfl
  obtain ⟨fd__law_how, F__law_how⟩ := cS.def_ 20 (d := dd__law_how) rfl
  have g__law_how := He.glo_ok X G (cS.fact 20 (f := .glo "_law_how") rfl)
  have n__law_how : Binds K fd__law_how ["_law_calls"] [] := FunD.bindsN (ps := ["_law_calls"]) F__law_how fun _ _ _ _ _ _ us hl => match us, hl with | [_], _ => rfl
  obtain ⟨fd__law_some_hands, F__law_some_hands⟩ := cS.def_ 21 (d := dd__law_some_hands) rfl
  have g__law_some_hands := He.glo_ok X G (cS.fact 21 (f := .glo "_law_some_hands") rfl)
  have n__law_some_hands : Binds K fd__law_some_hands ["_law_calls", "_law_how_here"] [] := FunD.bindsN (ps := ["_law_calls", "_law_how_here"]) F__law_some_hands fun _ _ _ _ _ _ us hl => match us, hl with | [_, _], _ => rfl
  obtain ⟨fd__law_others, F__law_others⟩ := cS.def_ 22 (d := dd__law_others) rfl
  have g__law_others := He.glo_ok X G (cS.fact 22 (f := .glo "_law_others") rfl)
  have n__law_others : Binds K fd__law_others ["_law_pool_here", "_law_calls", "_law_how_here"] [] := FunD.bindsN (ps := ["_law_pool_here", "_law_calls", "_law_how_here"]) F__law_others fun _ _ _ _ _ _ us hl => match us, hl with | [_, _, _], _ => rfl
  obtain ⟨fd_law, F_law⟩ := cS.def_ 23 (d := dd_law) rfl
  have g_law := He.glo_ok X G (cS.fact 23 (f := .glo "law") rfl)
  have n_law : Binds K fd_law ["_law_script"] [] := FunD.bindsN (ps := ["_law_script"]) F_law fun _ _ _ _ _ _ us hl => match us, hl with | [_], _ => rfl
  have e_NoMany : mg "NoMany" = some (.ref (c.eA 1)) := by
    rw [hE]
    exact He.glo_ok X G (cS.fact 24 (f := .glo "NoMany") rfl)
  have e_NoCalls : mg "NoCalls" = some (.ref (c.eA 2)) := by
    rw [hE]
    exact He.glo_ok X G (cS.fact 25 (f := .glo "NoCalls") rfl)
  intro k
  induction k with
  | zero => exact { e_NoMany := e_NoMany, e_NoCalls := e_NoCalls, r_NoMany := Rsb.of e_NoMany (by rw [hE]; rfl) (cS.fact 26 (f := .exc "NoMany") rfl), r_NoCalls := Rsb.of e_NoCalls (by rw [hE]; rfl) (cS.fact 27 (f := .exc "NoCalls") rfl), ex := by rw [hE]; exact exB_ok cZ.more, b_abs := He.free_ok X G (cS.fact 28 (f := .free "abs") rfl), b_all := He.free_ok X G (cS.fact 29 (f := .free "all") rfl), b_bool := He.free_ok X G (cS.fact 30 (f := .free "bool") rfl), b_divmod := He.free_ok X G (cS.fact 31 (f := .free "divmod") rfl), b_int := He.free_ok X G (cS.fact 32 (f := .free "int") rfl), b_isinstance := He.free_ok X G (cS.fact 33 (f := .free "isinstance") rfl), b_len := He.free_ok X G (cS.fact 34 (f := .free "len") rfl), b_list := He.free_ok X G (cS.fact 35 (f := .free "list") rfl), b_max := He.free_ok X G (cS.fact 36 (f := .free "max") rfl), b_min := He.free_ok X G (cS.fact 37 (f := .free "min") rfl), b_range := He.free_ok X G (cS.fact 38 (f := .free "range") rfl), b_set := He.free_ok X G (cS.fact 39 (f := .free "set") rfl), b_sorted := He.free_ok X G (cS.fact 40 (f := .free "sorted") rfl), b_sum := He.free_ok X G (cS.fact 41 (f := .free "sum") rfl), b_tuple := He.free_ok X G (cS.fact 42 (f := .free "tuple") rfl), b_zip := He.free_ok X G (cS.fact 43 (f := .free "zip") rfl), i_BIG := He.int_ok X G (cS.fact 44 (f := .int "BIG" 1000000000000000000000000000000) rfl), i_MOST_CALLS := He.int_ok X G (cS.fact 45 (f := .int "MOST_CALLS" 12) rfl), f_is_whole := ⟨_, fd_is_whole, ["x"], g_is_whole, F_is_whole.kp, n_is_whole, fn_zero⟩, f_is_between := ⟨_, fd_is_between, ["x", "low", "high"], g_is_between, F_is_between.kp, n_is_between, fn_zero⟩, f_is_stretch := ⟨_, fd_is_stretch, ["thing", "most"], g_is_stretch, F_is_stretch.kp, n_is_stretch, fn_zero⟩, f_are_calls := ⟨_, fd_are_calls, ["thing"], g_are_calls, F_are_calls.kp, n_are_calls, fn_zero⟩, f_check_calls := ⟨_, fd_check_calls, ["thing"], g_check_calls, F_check_calls.kp, n_check_calls, fn_zero⟩, f_check_many := ⟨_, fd_check_many, ["many"], g_check_many, F_check_many.kp, n_check_many, fn_zero⟩, f_within := ⟨_, fd_within, ["calls", "first", "last"], g_within, F_within.kp, n_within, fn_zero⟩, f_wanted := ⟨_, fd_wanted, ["calls"], g_wanted, F_wanted.kp, n_wanted, fn_zero⟩, f_plan_by := ⟨_, fd_plan_by, ["calls", "many"], g_plan_by, F_plan_by.kp, n_plan_by, fn_zero⟩, f_least_hands := ⟨_, fd_least_hands, ["calls"], g_least_hands, F_least_hands.kp, n_least_hands, fn_zero⟩, f_with_hands := ⟨_, fd_with_hands, ["calls", "many"], g_with_hands, F_with_hands.kp, n_with_hands, fn_zero⟩, f__law_pool := ⟨_, fd__law_pool, ["_law_script", "_law_k"], g__law_pool, F__law_pool.kp, n__law_pool, fn_zero⟩, f__law_take := ⟨_, fd__law_take, ["_law_pool_here", "_law_many"], g__law_take, F__law_take.kp, n__law_take, fn_zero⟩, f__law_drawn := ⟨_, fd__law_drawn, ["_law_pool_here"], g__law_drawn, F__law_drawn.kp, n__law_drawn, fn_zero⟩, f__law_beats := ⟨_, fd__law_beats, ["_law_call", "_law_many"], g__law_beats, F__law_beats.kp, n__law_beats, fn_zero⟩, f__law_placed := ⟨_, fd__law_placed, ["_law_calls", "_law_hands", "_law_at", "_law_places", "_law_tried"], g__law_placed, F__law_placed.kp, n__law_placed, fn_zero⟩, f__law_all_placed := ⟨_, fd__law_all_placed, ["_law_calls", "_law_hands"], g__law_all_placed, F__law_all_placed.kp, n__law_all_placed, fn_zero⟩, f__law_whole := ⟨_, fd__law_whole, ["_law_thing"], g__law_whole, F__law_whole.kp, n__law_whole, fn_zero⟩, f__law_is_plan := ⟨_, fd__law_is_plan, ["_law_calls", "_law_plan", "_law_hands"], g__law_is_plan, F__law_is_plan.kp, n__law_is_plan, fn_zero⟩, f__law_is_short := ⟨_, fd__law_is_short, ["_law_calls", "_law_first", "_law_last", "_law_hands"], g__law_is_short, F__law_is_short.kp, n__law_is_short, fn_zero⟩, f__law_how := ⟨_, fd__law_how, ["_law_calls"], g__law_how, F__law_how.kp, n__law_how, fn_zero⟩, f__law_some_hands := ⟨_, fd__law_some_hands, ["_law_calls", "_law_how_here"], g__law_some_hands, F__law_some_hands.kp, n__law_some_hands, fn_zero⟩, f__law_others := ⟨_, fd__law_others, ["_law_pool_here", "_law_calls", "_law_how_here"], g__law_others, F__law_others.kp, n__law_others, fn_zero⟩, f_law := ⟨_, fd_law, ["_law_script"], g_law, F_law.kp, n_law, fn_zero⟩ }
  | succ k ih => exact { e_NoMany := e_NoMany, e_NoCalls := e_NoCalls, r_NoMany := Rsb.of e_NoMany (by rw [hE]; rfl) (cS.fact 26 (f := .exc "NoMany") rfl), r_NoCalls := Rsb.of e_NoCalls (by rw [hE]; rfl) (cS.fact 27 (f := .exc "NoCalls") rfl), ex := by rw [hE]; exact exB_ok cZ.more, b_abs := He.free_ok X G (cS.fact 28 (f := .free "abs") rfl), b_all := He.free_ok X G (cS.fact 29 (f := .free "all") rfl), b_bool := He.free_ok X G (cS.fact 30 (f := .free "bool") rfl), b_divmod := He.free_ok X G (cS.fact 31 (f := .free "divmod") rfl), b_int := He.free_ok X G (cS.fact 32 (f := .free "int") rfl), b_isinstance := He.free_ok X G (cS.fact 33 (f := .free "isinstance") rfl), b_len := He.free_ok X G (cS.fact 34 (f := .free "len") rfl), b_list := He.free_ok X G (cS.fact 35 (f := .free "list") rfl), b_max := He.free_ok X G (cS.fact 36 (f := .free "max") rfl), b_min := He.free_ok X G (cS.fact 37 (f := .free "min") rfl), b_range := He.free_ok X G (cS.fact 38 (f := .free "range") rfl), b_set := He.free_ok X G (cS.fact 39 (f := .free "set") rfl), b_sorted := He.free_ok X G (cS.fact 40 (f := .free "sorted") rfl), b_sum := He.free_ok X G (cS.fact 41 (f := .free "sum") rfl), b_tuple := He.free_ok X G (cS.fact 42 (f := .free "tuple") rfl), b_zip := He.free_ok X G (cS.fact 43 (f := .free "zip") rfl), i_BIG := He.int_ok X G (cS.fact 44 (f := .int "BIG" 1000000000000000000000000000000) rfl), i_MOST_CALLS := He.int_ok X G (cS.fact 45 (f := .int "MOST_CALLS" 12) rfl), f_is_whole := ⟨_, fd_is_whole, ["x"], g_is_whole, F_is_whole.kp, n_is_whole, fn_means F_is_whole sc_is_whole (rfl : Pg[0]? = some m_is_whole) rfl rfl (by decide) fun cdv A outer s H E hr => b_is_whole ih hK hr⟩, f_is_between := ⟨_, fd_is_between, ["x", "low", "high"], g_is_between, F_is_between.kp, n_is_between, fn_means F_is_between sc_is_between (rfl : Pg[1]? = some m_is_between) rfl rfl (by decide) fun cdv A outer s H E hr => b_is_between ih hK hr⟩, f_is_stretch := ⟨_, fd_is_stretch, ["thing", "most"], g_is_stretch, F_is_stretch.kp, n_is_stretch, fn_means F_is_stretch sc_is_stretch (rfl : Pg[2]? = some m_is_stretch) rfl rfl (by decide) fun cdv A outer s H E hr => b_is_stretch ih hK hr⟩, f_are_calls := ⟨_, fd_are_calls, ["thing"], g_are_calls, F_are_calls.kp, n_are_calls, fn_means F_are_calls sc_are_calls (rfl : Pg[3]? = some m_are_calls) rfl rfl (by decide) fun cdv A outer s H E hr => b_are_calls ih hK hr⟩, f_check_calls := ⟨_, fd_check_calls, ["thing"], g_check_calls, F_check_calls.kp, n_check_calls, fn_means F_check_calls sc_check_calls (rfl : Pg[4]? = some m_check_calls) rfl rfl (by decide) fun cdv A outer s H E hr => b_check_calls ih hK hr⟩, f_check_many := ⟨_, fd_check_many, ["many"], g_check_many, F_check_many.kp, n_check_many, fn_means F_check_many sc_check_many (rfl : Pg[5]? = some m_check_many) rfl rfl (by decide) fun cdv A outer s H E hr => b_check_many ih hK hr⟩, f_within := ⟨_, fd_within, ["calls", "first", "last"], g_within, F_within.kp, n_within, fn_means F_within sc_within (rfl : Pg[6]? = some m_within) rfl rfl (by decide) fun cdv A outer s H E hr => b_within ih hK hr⟩, f_wanted := ⟨_, fd_wanted, ["calls"], g_wanted, F_wanted.kp, n_wanted, fn_means F_wanted sc_wanted (rfl : Pg[7]? = some m_wanted) rfl rfl (by decide) fun cdv A outer s H E hr => b_wanted ih hK hr⟩, f_plan_by := ⟨_, fd_plan_by, ["calls", "many"], g_plan_by, F_plan_by.kp, n_plan_by, fn_means F_plan_by sc_plan_by (rfl : Pg[8]? = some m_plan_by) rfl rfl (by decide) fun cdv A outer s H E hr => b_plan_by ih hK hr⟩, f_least_hands := ⟨_, fd_least_hands, ["calls"], g_least_hands, F_least_hands.kp, n_least_hands, fn_means F_least_hands sc_least_hands (rfl : Pg[9]? = some m_least_hands) rfl rfl (by decide) fun cdv A outer s H E hr => b_least_hands ih hK hr⟩, f_with_hands := ⟨_, fd_with_hands, ["calls", "many"], g_with_hands, F_with_hands.kp, n_with_hands, fn_means F_with_hands sc_with_hands (rfl : Pg[10]? = some m_with_hands) rfl rfl (by decide) fun cdv A outer s H E hr => b_with_hands ih hK hr⟩, f__law_pool := ⟨_, fd__law_pool, ["_law_script", "_law_k"], g__law_pool, F__law_pool.kp, n__law_pool, fn_means F__law_pool sc__law_pool (rfl : Pg[11]? = some m__law_pool) rfl rfl (by decide) fun cdv A outer s H E hr => b__law_pool ih hK hr⟩, f__law_take := ⟨_, fd__law_take, ["_law_pool_here", "_law_many"], g__law_take, F__law_take.kp, n__law_take, fn_means F__law_take sc__law_take (rfl : Pg[12]? = some m__law_take) rfl rfl (by decide) fun cdv A outer s H E hr => b__law_take ih hK hr⟩, f__law_drawn := ⟨_, fd__law_drawn, ["_law_pool_here"], g__law_drawn, F__law_drawn.kp, n__law_drawn, fn_means F__law_drawn sc__law_drawn (rfl : Pg[13]? = some m__law_drawn) rfl rfl (by decide) fun cdv A outer s H E hr => b__law_drawn ih hK hr⟩, f__law_beats := ⟨_, fd__law_beats, ["_law_call", "_law_many"], g__law_beats, F__law_beats.kp, n__law_beats, fn_means F__law_beats sc__law_beats (rfl : Pg[14]? = some m__law_beats) rfl rfl (by decide) fun cdv A outer s H E hr => b__law_beats ih hK hr⟩, f__law_placed := ⟨_, fd__law_placed, ["_law_calls", "_law_hands", "_law_at", "_law_places", "_law_tried"], g__law_placed, F__law_placed.kp, n__law_placed, fn_means F__law_placed sc__law_placed (rfl : Pg[15]? = some m__law_placed) rfl rfl (by decide) fun cdv A outer s H E hr => b__law_placed ih hK hr⟩, f__law_all_placed := ⟨_, fd__law_all_placed, ["_law_calls", "_law_hands"], g__law_all_placed, F__law_all_placed.kp, n__law_all_placed, fn_means F__law_all_placed sc__law_all_placed (rfl : Pg[16]? = some m__law_all_placed) rfl rfl (by decide) fun cdv A outer s H E hr => b__law_all_placed ih hK hr⟩, f__law_whole := ⟨_, fd__law_whole, ["_law_thing"], g__law_whole, F__law_whole.kp, n__law_whole, fn_means F__law_whole sc__law_whole (rfl : Pg[17]? = some m__law_whole) rfl rfl (by decide) fun cdv A outer s H E hr => b__law_whole ih hK hr⟩, f__law_is_plan := ⟨_, fd__law_is_plan, ["_law_calls", "_law_plan", "_law_hands"], g__law_is_plan, F__law_is_plan.kp, n__law_is_plan, fn_means F__law_is_plan sc__law_is_plan (rfl : Pg[18]? = some m__law_is_plan) rfl rfl (by decide) fun cdv A outer s H E hr => b__law_is_plan ih hK hr⟩, f__law_is_short := ⟨_, fd__law_is_short, ["_law_calls", "_law_first", "_law_last", "_law_hands"], g__law_is_short, F__law_is_short.kp, n__law_is_short, fn_means F__law_is_short sc__law_is_short (rfl : Pg[19]? = some m__law_is_short) rfl rfl (by decide) fun cdv A outer s H E hr => b__law_is_short ih hK hr⟩, f__law_how := ⟨_, fd__law_how, ["_law_calls"], g__law_how, F__law_how.kp, n__law_how, fn_means F__law_how sc__law_how (rfl : Pg[20]? = some m__law_how) rfl rfl (by decide) fun cdv A outer s H E hr => b__law_how ih hK hr⟩, f__law_some_hands := ⟨_, fd__law_some_hands, ["_law_calls", "_law_how_here"], g__law_some_hands, F__law_some_hands.kp, n__law_some_hands, fn_means F__law_some_hands sc__law_some_hands (rfl : Pg[21]? = some m__law_some_hands) rfl rfl (by decide) fun cdv A outer s H E hr => b__law_some_hands ih hK hr⟩, f__law_others := ⟨_, fd__law_others, ["_law_pool_here", "_law_calls", "_law_how_here"], g__law_others, F__law_others.kp, n__law_others, fn_means F__law_others sc__law_others (rfl : Pg[22]? = some m__law_others) rfl rfl (by decide) fun cdv A outer s H E hr => b__law_others ih hK hr⟩, f_law := ⟨_, fd_law, ["_law_script"], g_law, F_law.kp, n_law, fn_means F_law sc_law (rfl : Pg[23]? = some m_law) rfl rfl (by decide) fun cdv A outer s H E hr => b_law ih hK hr⟩ }
def loose0 : List PySem.Str := ["DoffError", "NoMany", "NoCalls", "BIG", "is_whole", "is_between", "MOST_CALLS", "is_stretch", "are_calls", "check_calls", "check_many", "within", "wanted", "plan_by", "least_hands", "with_hands", "_law_pool", "_law_take", "_law_drawn", "_law_beats", "_law_placed", "_law_all_placed", "_law_whole", "_law_is_plan", "_law_is_short", "_law_how", "_law_some_hands", "_law_others"]
def loose : List PySem.Str := loose0
abbrev R : PySem.W.OpenRow := PySem.W.OpenLaw.row PySem.Challenge.rw_doffyard_k40_whole_calls_grown_and_moved
abbrev hk : PySem.W.Hook := hookZ 4 fa fn exK
def ob (s : PySem.W.SharedT) : AlZ := obsZG 4 fa fn exK (HandSHeadRun.getT s)
theorem ob_eq (s : PySem.W.SharedT) : ob s = hk.obs s.abs := obsZG_eq (HandSHeadRun.getT_eq s)
theorem run (w : World) : HandSHeadRun.RunEq R (PySem.W.view R.prog [33]) hk ob 6000 loose w := by
  intro os
  kernel_rfl
/-- all is well, if the law's meaning says so -/
theorem holds_of (hl : ∀ ns : List Int, ns.length ≤ 63 → ∃ A', callN Pg 45 23 [.lst (ns.map .int)] [] = some (.ok (.bl true) A')) : PySem.W.OpenLaw.Holds PySem.Challenge.rw_doffyard_k40_whole_calls_grown_and_moved := by
  w_on; o_law
  refine HandSHeadRun.head_any (r := PySem.W.OpenLaw.row PySem.Challenge.rw_doffyard_k40_whole_calls_grown_and_moved) (q := PySem.W.view (PySem.W.OpenLaw.row PySem.Challenge.rw_doffyard_k40_whole_calls_grown_and_moved).prog [33]) (H := hk) (ob := ob) (M := 6000) (loose := loose) (d := HandSHeadRun.topDef (PySem.W.OpenLaw.row PySem.Challenge.rw_doffyard_k40_whole_calls_grown_and_moved).prog 33) (kwd := []) ob_eq
    (by kernel_rfl) (fun s => by kernel_rfl) run (by kernel_rfl) (by kernel_rfl) (by kernel_rfl) (by rfl) (by first | assumption | decide +kernel) (by decide +kernel) ⟨rfl, rfl, rfl, rfl, rfl, by decide +kernel⟩ ?hw ?hc
  case hw => w_witness2
  case hc =>
    refine walkZ (l := PySem.Challenge.rw_doffyard_k40_whole_calls_grown_and_moved) (n := 63) (k := 45) (x := "_law_script") rfl (by decide) (by kernel_rfl) ⟨rfl, by decide, by decide⟩ fun w mg fa h Y G hmg0 => ?_
    obtain ⟨K, KX, cZ⟩ := Y
    have cS := cZ.d
    have hmg : mg ("law" : PySem.Str) = some (.ref fa) := by
      have e : (HandSHeadRun.topDef (PySem.W.OpenLaw.row PySem.Challenge.rw_doffyard_k40_whole_calls_grown_and_moved).prog 33).name = ("law" : PySem.Str) := by kernel_rfl
      rw [← e]
      exact hmg0
    obtain ⟨fd, Fd⟩ := cS.def_ 23 (d := dd_law) rfl
    have e := hmg.symm.trans (He.glo_ok KX G (cS.fact 23 (f := .glo "law") rfl))
    cases e
    have bn := FunD.bindsA (ps := ["_law_script"]) Fd fun _ _ _ _ _ _ us hl => match us, hl with | [_], _ => rfl
    refine ⟨K, fd, spF ⟨K, fun _ => 0, eAt K exNs, PySem.W.OpenLaw.prog PySem.Challenge.rw_doffyard_k40_whole_calls_grown_and_moved, w⟩ (callN Pg 45 23), KX, fun s v => bn s [v] rfl, fun H a ns hz hO hS => law_start hO hS (hl ns hz), fun base X2 G2 => ?_⟩
    exact fn_means Fd sc_law (rfl : Pg[23]? = some m_law) rfl rfl (by decide) fun cdv A outer s H E hr => b_law (fs_all (K := K) (c := ⟨K, fun _ => 0, eAt K exNs, PySem.W.OpenLaw.prog PySem.Challenge.rw_doffyard_k40_whole_calls_grown_and_moved, w⟩) rfl rfl KX G cZ 44) rfl hr

end Zp

set_option maxHeartbeats 2000000
namespace Zq
open Z
abbrev Cs := List (Int × Int)
def ca (cs : Cs) (i : Nat) : Int := ((cs[i]?).getD (0, 0)).1
def ce (cs : Cs) (i : Nat) : Int := ((cs[i]?).getD (0, 0)).2
theorem countP_sub {α : Type} {p : α → Bool} {l l1 l2 : List α} (h : l.Perm (l1 ++ l2)) : l.countP p = l1.countP p + l2.countP p := by rw [h.countP_eq, List.countP_append]
structure PI (cs : Cs) (m : Nat) (b : Int) (ls : List Nat) (pl : List D) : Prop where
  nd : ls.Nodup
  lt : ∀ i ∈ ls, i < cs.length
  len : pl.length = cs.length
  non : ∀ i ∈ ls, pl[i]? = some .non
  done : ∀ i, i < cs.length → i ∉ ls → ∃ p, pl[i]? = some (.int p) ∧ ca cs i ≤ p ∧ p ≤ ce cs i ∧ p ≤ b
  few : ∀ t : Int, (List.range cs.length).countP (fun i => decide (pl[i]? = some (.int t))) ≤ m
  hall : ∀ s t : Int, b + 1 ≤ s → s ≤ t + 1 → (ls.countP (fun i => decide (s ≤ max (ca cs i) (b + 1)) && decide (ce cs i ≤ t)) : Int) ≤ m * (t - s + 1)
theorem turn {cs : Cs} {m : Nat} {b M : Int} {ls ls' rs : List Nat} {pl pl' : List D} (hcs : ∀ i, i < cs.length → ca cs i ≤ ce cs i) (I : PI cs m b ls pl) (hm : 1 ≤ m) (hM1 : ∀ i ∈ ls, M ≤ ca cs i) (hM2 : ∃ i ∈ ls, ca cs i = M)
    (hr : rs.Perm (ls.filter fun i => decide (ca cs i ≤ max (b + 1) M))) (ho : rs.Pairwise fun i j => ce cs i ≤ ce cs j) (hp : ls.Perm (rs.take m ++ ls')) (hl : pl'.length = pl.length)
    (h1 : ∀ i ∈ rs.take m, pl'[i]? = some (.int (max (b + 1) M))) (h2 : ∀ i, i ∉ rs.take m → pl'[i]? = pl[i]?) : PI cs m (max (b + 1) M) ls' pl' ∧ ls'.length < ls.length := by
  have hB : ∃ B, B = max (b + 1) M := ⟨_, rfl⟩
  obtain ⟨B, hB⟩ := hB
  rw [← hB] at hr h1 ⊢
  have nd2 : (rs.take m ++ ls').Nodup := hp.nodup_iff.mp I.nd
  obtain ⟨n1, n2, n3⟩ := List.nodup_append.mp nd2
  have in_ : ∀ i, i ∈ ls ↔ i ∈ rs.take m ∨ i ∈ ls' := fun i => by rw [hp.mem_iff, List.mem_append]
  have rmem : ∀ i, i ∈ rs ↔ i ∈ ls ∧ ca cs i ≤ B := fun i => by rw [hr.mem_iff, List.mem_filter, decide_eq_true_eq]
  have tk : ∀ i, i ∈ rs.take m → i ∈ rs := fun i h => List.mem_of_mem_take h
  have dis : ∀ i, i ∈ ls' → i ∉ rs.take m := fun i h h' => n3 i h' i h rfl
  -- every job left ends behind b
  have late : ∀ i ∈ ls, b + 1 ≤ ce cs i := fun i hi => by
    have h := I.hall (b + 1) b (Int.le_refl _) (Int.le_refl _)
    have e : (m : Int) * (b - (b + 1) + 1) = 0 := by rw [show b - (b + 1) + 1 = 0 by omega, Int.mul_zero]
    rw [e] at h
    have h0 : ls.countP (fun i => decide (b + 1 ≤ max (ca cs i) (b + 1)) && decide (ce cs i ≤ b)) = 0 := by omega
    have h3 := List.countP_eq_zero.mp h0 i hi
    simp only [Bool.and_eq_true, decide_eq_true_eq, not_and] at h3
    have h4 := h3 (by omega)
    omega
  have lateB : ∀ i ∈ ls, B ≤ ce cs i := fun i hi => by
    have a1 := late i hi
    have a2 := hM1 i hi
    have a3 := hcs i (I.lt i hi)
    omega
  have effB : ∀ i ∈ ls, B ≤ max (ca cs i) (b + 1) := fun i hi => by
    have a2 := hM1 i hi
    omega
  have hne : rs ≠ [] := fun e => by
    obtain ⟨i, hi, h⟩ := hM2
    have := (rmem i).mpr ⟨hi, by omega⟩
    rw [e] at this
    cases this
  refine ⟨⟨n2, fun i hi => I.lt i ((in_ i).mpr (.inr hi)), by rw [hl, I.len], fun i hi => ?_, fun i hi hn => ?_, fun t => ?_, fun s t hs ht => ?_⟩, ?_⟩
  · rw [h2 i (dis i hi)]
    exact I.non i ((in_ i).mpr (.inr hi))
  · by_cases hk : i ∈ rs.take m
    · have hi2 := (rmem i).mp (tk i hk)
      exact ⟨B, h1 i hk, hi2.2, lateB i hi2.1, Int.le_refl _⟩
    · obtain ⟨p, p1, p2, p3, p4⟩ := I.done i hi fun h => ((in_ i).mp h).elim hk hn
      exact ⟨p, by rw [h2 i hk]; exact p1, p2, p3, by omega⟩
  · by_cases ht : t = B
    · subst ht
      have a1 : (List.range cs.length).countP (fun i => decide (pl'[i]? = some (.int t))) ≤ (List.range cs.length).countP (fun i => decide (i ∈ rs.take m)) := by
        refine List.countP_mono_left fun i hi e => ?_
        rw [decide_eq_true_eq] at e ⊢
        refine Classical.byContradiction fun hk => ?_
        rw [h2 i hk] at e
        have hil : i ∉ ls := fun h => by
          rw [I.non i h] at e
          cases e
        obtain ⟨p, p1, _, _, p4⟩ := I.done i (List.mem_range.mp hi) hil
        rw [p1] at e
        cases e
        omega
      refine Nat.le_trans a1 ?_
      rw [List.countP_eq_length_filter]
      refine Nat.le_trans (List.Nodup.length_le_of_subset (List.nodup_range.filter _) (l₂ := rs.take m) fun i hi => ?_) (by rw [List.length_take]; omega)
      have := (List.mem_filter.mp hi).2
      exact of_decide_eq_true this
    · refine Nat.le_trans (List.countP_mono_left fun i hi e => ?_) (I.few t)
      rw [decide_eq_true_eq] at e ⊢
      by_cases hk : i ∈ rs.take m
      · rw [h1 i hk] at e
        cases e
        exact absurd rfl ht
      · rw [← h2 i hk]
        exact e
  · by_cases hs2 : s = B + 1
    · subst hs2
      by_cases hx : ∃ j ∈ rs.drop m, ce cs j ≤ t
      · obtain ⟨j, hj, hjt⟩ := hx
        have full : (rs.take m).length = m := by
          rw [List.length_take]
          have : 0 < (rs.drop m).length := List.length_pos_of_mem hj
          rw [List.length_drop] at this
          omega
        have ordd : ∀ i ∈ rs.take m, ce cs i ≤ ce cs j := fun i hi => by
          have h3 := ho
          rw [← List.take_append_drop m rs, List.pairwise_append] at h3
          exact h3.2.2 i hi j hj
        have e1 := countP_sub (p := fun i => decide (B ≤ max (ca cs i) (b + 1)) && decide (ce cs i ≤ t)) hp
        have e2 : (rs.take m).countP (fun i => decide (B ≤ max (ca cs i) (b + 1)) && decide (ce cs i ≤ t)) = m := by
          rw [List.countP_eq_length.mpr, full]
          intro i hi
          have := effB i ((rmem i).mp (tk i hi)).1
          have := ordd i hi
          simp only [Bool.and_eq_true, decide_eq_true_eq]
          omega
        have e3 := I.hall B t (by omega) (by omega)
        have e4 : ls'.countP (fun i => decide (B + 1 ≤ max (ca cs i) (B + 1)) && decide (ce cs i ≤ t)) ≤ ls'.countP (fun i => decide (B ≤ max (ca cs i) (b + 1)) && decide (ce cs i ≤ t)) := by
          refine List.countP_mono_left fun i hi e => ?_
          have := effB i ((in_ i).mpr (.inr hi))
          simp only [Bool.and_eq_true, decide_eq_true_eq] at e ⊢
          omega
        have e5 : (m : Int) * (t - B + 1) = m * (t - (B + 1) + 1) + m := by
          rw [show t - B + 1 = (t - (B + 1) + 1) + 1 by omega, Int.mul_add, Int.mul_one]
        omega
      · have e4 : ls'.countP (fun i => decide (B + 1 ≤ max (ca cs i) (B + 1)) && decide (ce cs i ≤ t)) ≤ ls'.countP (fun i => decide (B + 1 ≤ max (ca cs i) (b + 1)) && decide (ce cs i ≤ t)) := by
          refine List.countP_mono_left fun i hi e => ?_
          simp only [Bool.and_eq_true, decide_eq_true_eq] at e ⊢
          refine ⟨?_, e.2⟩
          refine Classical.byContradiction fun hq => hx ⟨i, ?_, e.2⟩
          have hi2 : i ∈ rs := (rmem i).mpr ⟨(in_ i).mpr (.inr hi), by omega⟩
          rw [← List.take_append_drop m rs, List.mem_append] at hi2
          exact hi2.resolve_left (dis i hi)
        have e1 := countP_sub (p := fun i => decide (B + 1 ≤ max (ca cs i) (b + 1)) && decide (ce cs i ≤ t)) hp
        have e3 := I.hall (B + 1) t (by omega) (by omega)
        omega
    · have e4 : ls'.countP (fun i => decide (s ≤ max (ca cs i) (B + 1)) && decide (ce cs i ≤ t)) ≤ ls'.countP (fun i => decide (s ≤ max (ca cs i) (b + 1)) && decide (ce cs i ≤ t)) := by
        refine List.countP_mono_left fun i hi e => ?_
        simp only [Bool.and_eq_true, decide_eq_true_eq] at e ⊢
        omega
      have e1 := countP_sub (p := fun i => decide (s ≤ max (ca cs i) (b + 1)) && decide (ce cs i ≤ t)) hp
      have e3 := I.hall s t (by omega) (by omega)
      omega
  · have := hp.length_eq
    rw [List.length_append, List.length_take] at this
    have : 0 < rs.length := List.length_pos_iff.mpr hne
    omega
/-- at first -/
theorem PI.start {cs : Cs} {m : Nat} (hcs : ∀ c ∈ cs, 1 ≤ c.1 ∧ c.1 ≤ c.2) (hall : ∀ s t : Int, s ≤ t → (cs.countP (fun c => decide (s ≤ c.1) && decide (c.2 ≤ t)) : Int) ≤ m * (t - s + 1)) : PI cs m 0 (List.range cs.length) (List.replicate cs.length .non) := by
  have at_ : ∀ i (h : i < cs.length), ca cs i = cs[i].1 ∧ ce cs i = cs[i].2 := fun i h => by
    unfold ca ce
    rw [List.getElem?_eq_getElem h]
    exact ⟨rfl, rfl⟩
  refine ⟨List.nodup_range, fun i hi => List.mem_range.mp hi, List.length_replicate, fun i hi => ?_, fun i hi hn => absurd (List.mem_range.mpr hi) hn, fun t => ?_, fun s t hs ht => ?_⟩
  · rw [List.getElem?_replicate, if_pos (List.mem_range.mp hi)]
  · rw [List.countP_eq_zero.mpr fun i hi => ?_]
    · exact Nat.zero_le _
    · rw [List.getElem?_replicate, if_pos (List.mem_range.mp hi)]
      simp
  · have key : (List.range cs.length).countP (fun i => decide (s ≤ max (ca cs i) (0 + 1)) && decide (ce cs i ≤ t)) = cs.countP (fun c => decide (s ≤ c.1) && decide (c.2 ≤ t)) := by
      have e : cs = (List.range cs.length).map fun i => (cs[i]?).getD (0, 0) := by
        apply List.ext_getElem?
        intro i
        rw [List.getElem?_map]
        by_cases hi : i < cs.length
        · rw [List.getElem?_range hi, List.getElem?_eq_getElem hi]
          simp [List.getElem?_eq_getElem hi]
        · rw [List.getElem?_eq_none (by omega), List.getElem?_eq_none (by rw [List.length_range]; omega)]
          rfl
      conv => rhs; rw [e]
      rw [List.countP_map]
      refine List.countP_congr fun i hi => ?_
      have hi' := List.mem_range.mp hi
      obtain ⟨a1, a2⟩ := at_ i hi'
      have := (hcs cs[i] (List.getElem_mem hi')).1
      simp only [Function.comp, Bool.and_eq_true, decide_eq_true_eq]
      show (s ≤ max (ca cs i) (0 + 1) ∧ ce cs i ≤ t) ↔ (s ≤ ca cs i ∧ ce cs i ≤ t)
      rw [a1, a2]
      omega
    rw [key]
    by_cases h : s ≤ t
    · exact hall s t h
    · rw [List.countP_eq_zero.mpr fun c hc => ?_]
      · rw [show t - s + 1 = 0 by omega, Int.mul_zero]
        exact Int.le_refl _
      · have := hcs c hc
        simp only [Bool.and_eq_true, decide_eq_true_eq, not_and]
        omega
end Zq

set_option maxHeartbeats 2000000
namespace Zq
abbrev Pm := List (Nat × Int)
def Ks (P : Pm) : Prop := P.Pairwise fun a b => a.1 ≠ b.1
def putP (P : Pm) (i : Nat) (b : Int) : Pm := if P.any (fun q => decide (q.1 = i)) then P.map (fun q => if q.1 = i then (q.1, b) else q) else P ++ [(i, b)]
theorem Ks.uniq : ∀ {P : Pm}, Ks P → ∀ {q r : Nat × Int}, q ∈ P → r ∈ P → q.1 = r.1 → q = r
  | [], _, q, _, hq, _, _ => absurd hq List.not_mem_nil
  | a :: P, h, q, r, hq, hr, e => by
    obtain ⟨h1, h2⟩ := List.pairwise_cons.mp h
    rcases List.mem_cons.mp hq with q1 | q1 <;> rcases List.mem_cons.mp hr with r1 | r1
    · rw [q1, r1]
    · subst q1; exact absurd e (h1 r r1)
    · subst r1; exact absurd e.symm (h1 q q1)
    · exact Ks.uniq (P := P) h2 q1 r1 e
theorem Ks.nd {P : Pm} (h : Ks P) : P.Nodup := List.Pairwise.imp (fun hne e => hne (by rw [e])) h
theorem mem_putP {P : Pm} {i : Nat} {b : Int} {q : Nat × Int} : q ∈ putP P i b ↔ q = (i, b) ∨ (q ∈ P ∧ q.1 ≠ i) := by
  unfold putP
  by_cases h : P.any (fun q => decide (q.1 = i)) = true
  · rw [if_pos h, List.mem_map]
    obtain ⟨x, hx, e⟩ := List.any_eq_true.mp h
    have e := of_decide_eq_true e
    constructor
    · rintro ⟨a, ha, rfl⟩
      by_cases q : a.1 = i
      · rw [if_pos q, q]; exact .inl rfl
      · rw [if_neg q]; exact .inr ⟨ha, q⟩
    · rintro (e2 | ⟨h1, h2⟩)
      · exact ⟨x, hx, by rw [if_pos e, e2, e]⟩
      · exact ⟨q, h1, by rw [if_neg h2]⟩
  · rw [if_neg h, List.mem_append, List.mem_singleton]
    have no : ∀ a ∈ P, a.1 ≠ i := fun a ha e => h (List.any_eq_true.mpr ⟨a, ha, decide_eq_true e⟩)
    constructor
    · rintro (h1 | h1)
      · exact .inr ⟨h1, no q h1⟩
      · exact .inl h1
    · rintro (h1 | h1)
      · exact .inr h1
      · exact .inl h1.1
theorem Ks.put {P : Pm} (h : Ks P) (i : Nat) (b : Int) : Ks (putP P i b) := by
  unfold putP
  by_cases q : P.any (fun q => decide (q.1 = i)) = true
  · rw [if_pos q]
    unfold Ks
    rw [List.pairwise_map]
    refine List.Pairwise.imp (fun {x y} hne => ?_) h
    by_cases h1 : x.1 = i <;> by_cases h2 : y.1 = i <;> simp only [h1, h2, if_true, if_false]
    · exact fun _ => hne (h1.trans h2.symm)
    · exact fun e => h2 e.symm
    · exact fun e => h1 e
    · exact hne
  · rw [if_neg q]
    refine List.pairwise_append.mpr ⟨h, List.pairwise_singleton .., fun a ha c hc => ?_⟩
    rw [List.mem_singleton] at hc
    subst hc
    exact fun e => q (List.any_eq_true.mpr ⟨a, ha, decide_eq_true e⟩)
def occ (P : Pm) (t : Int) : Nat := P.countP fun q => decide (q.2 = t)
theorem occ_eq (P : Pm) (t : Int) : occ P t = (P.filter fun q => decide (q.2 = t)).length := List.countP_eq_length_filter ..
theorem occ_le {P P' : Pm} {t : Int} (h : P'.Nodup) (hs : ∀ q ∈ P', q.2 = t → q ∈ P) : occ P' t ≤ occ P t := by
  rw [occ_eq, occ_eq]
  refine List.Nodup.length_le_of_subset (h.filter _) fun q hq => ?_
  obtain ⟨h1, h2⟩ := List.mem_filter.mp hq
  exact List.mem_filter.mpr ⟨hs q h1 (of_decide_eq_true h2), h2⟩
theorem occ_lt {P P' : Pm} {t : Int} {x : Nat × Int} (h : P'.Nodup) (hs : ∀ q ∈ P', q.2 = t → q ∈ P) (hx : x ∈ P) (ht : x.2 = t) (hn : x ∉ P') : occ P' t + 1 ≤ occ P t := by
  rw [occ_eq, occ_eq]
  have : (x :: P'.filter fun q => decide (q.2 = t)).Nodup := List.nodup_cons.mpr ⟨fun hm => hn (List.mem_filter.mp hm).1, h.filter _⟩
  have := List.Nodup.length_le_of_subset (l₂ := P.filter fun q => decide (q.2 = t)) this fun q hq => by
    rcases List.mem_cons.mp hq with e | hq
    · subst e; exact List.mem_filter.mpr ⟨hx, decide_eq_true ht⟩
    · obtain ⟨h1, h2⟩ := List.mem_filter.mp hq
      exact List.mem_filter.mpr ⟨hs q h1 (of_decide_eq_true h2), h2⟩
  rw [List.length_cons] at this
  exact this
theorem occ_put1 {P : Pm} {i : Nat} {b t : Int} (h : Ks P) (ht : t ≠ b) : occ (putP P i b) t ≤ occ P t := by
  refine occ_le (h.put i b).nd fun q hq e => ?_
  rcases mem_putP.mp hq with r | r
  · rw [r] at e; exact absurd e.symm ht
  · exact r.1
theorem occ_put2 {P : Pm} {i : Nat} {b : Int} (h : Ks P) : occ (putP P i b) b ≤ occ P b + 1 := by
  have e : occ P b + 1 = occ ((i, b) :: P) b := by unfold occ; rw [List.countP_cons]; simp
  rw [e]
  refine occ_le (h.put i b).nd fun q hq _ => ?_
  rcases mem_putP.mp hq with r | r
  · rw [r]; exact List.mem_cons_self ..
  · exact List.mem_cons_of_mem _ r.1
structure Vd (W : Nat → Int → Prop) (n m : Nat) (P : Pm) : Prop where
  ks : Ks P
  lt : ∀ q ∈ P, q.1 < n
  in_ : ∀ q ∈ P, W q.1 q.2
  few : ∀ t, occ P t ≤ m
theorem Vd.put {W : Nat → Int → Prop} {n m : Nat} {P : Pm} {i : Nat} {b : Int} (h : Vd W n m P) (hi : i < n) (hw : W i b) (ho : occ P b < m) : Vd W n m (putP P i b) := by
  refine ⟨h.ks.put i b, fun q hq => ?_, fun q hq => ?_, fun t => ?_⟩
  · rcases mem_putP.mp hq with r | r
    · rw [r]; exact hi
    · exact h.lt q r.1
  · rcases mem_putP.mp hq with r | r
    · rw [r]; exact hw
    · exact h.in_ q r.1
  · by_cases e : t = b
    · subst e
      exact Nat.le_trans (occ_put2 h.ks) ho
    · exact Nat.le_trans (occ_put1 h.ks e) (h.few t)
structure Su (W : Nat → Int → Prop) (n m : Nat) (P : Pm) (T : List Int) (i : Nat) (P' : Pm) : Prop where
  v : Vd W n m P'
  new : ∃ b, (i, b) ∈ P' ∧ b ∉ T
  keys : ∀ j, (∃ b, (j, b) ∈ P') ↔ (∃ b, (j, b) ∈ P) ∨ j = i
  stay : ∀ q : Nat × Int, q.1 ≠ i → q.2 ∈ T → (q ∈ P ↔ q ∈ P')
theorem Su.mono {W : Nat → Int → Prop} {n m : Nat} {P P' : Pm} {T T0 : List Int} {i : Nat} (h : Su W n m P T i P') (hs : ∀ t ∈ T0, t ∈ T) : Su W n m P T0 i P' :=
  ⟨h.v, h.new.imp fun b hb => ⟨hb.1, fun hm => hb.2 (hs b hm)⟩, h.keys, fun q h1 h2 => h.stay q h1 (hs _ h2)⟩
theorem keys_put {P : Pm} {i : Nat} {b : Int} (j : Nat) : (∃ c, (j, c) ∈ putP P i b) ↔ (∃ c, (j, c) ∈ P) ∨ j = i := by
  constructor
  · rintro ⟨c, hc⟩
    rcases mem_putP.mp hc with r | r
    · exact .inr (congrArg Prod.fst r)
    · exact .inl ⟨c, r.1⟩
  · by_cases e : j = i
    · intro _
      exact ⟨b, mem_putP.mpr (.inl (by rw [e]))⟩
    · rintro (⟨c, hc⟩ | h)
      · exact ⟨c, mem_putP.mpr (.inr ⟨hc, e⟩)⟩
      · exact absurd h e
theorem Su.free {W : Nat → Int → Prop} {n m : Nat} {P : Pm} {T : List Int} {i : Nat} {b : Int} (h : Vd W n m P) (hi : i < n) (hw : W i b) (hb : b ∉ T) (ho : occ P b < m) : Su W n m P T i (putP P i b) := by
  refine ⟨h.put hi hw ho, ⟨b, mem_putP.mpr (.inl rfl), hb⟩, keys_put, fun q h1 h2 => ⟨fun hq => mem_putP.mpr (.inr ⟨hq, h1⟩), fun hq => ?_⟩⟩
  rcases mem_putP.mp hq with r | r
  · rw [r] at h1; exact absurd rfl h1
  · exact r.1
theorem Su.room {W : Nat → Int → Prop} {n m : Nat} {P P2 : Pm} {T T1 : List Int} {i o : Nat} {b : Int} (h : Vd W n m P) (hi : i < n) (hw : W i b) (hb : b ∉ T) (hb1 : b ∈ T1) (hs : ∀ t ∈ T, t ∈ T1)
    (ho : (o, b) ∈ P) (S : Su W n m P T1 o P2) : Su W n m P T i (putP P2 i b) := by
  obtain ⟨c, hc, hcT⟩ := S.new
  have old : ∀ q ∈ P2, q.2 ∈ T1 → q.1 ≠ o := fun q hq h2 e => by
    have := S.v.ks.uniq hq hc e
    rw [this] at h2
    exact hcT h2
  have hlt : occ P2 b + 1 ≤ occ P b := by
    refine occ_lt S.v.ks.nd (fun q hq e => (S.stay q (old q hq (by rw [e]; exact hb1)) (by rw [e]; exact hb1)).mpr hq) ho rfl fun hm => ?_
    exact old _ hm hb1 rfl
  refine ⟨S.v.put hi hw (by have := h.few b; omega), ⟨b, mem_putP.mpr (.inl rfl), hb⟩, fun j => ?_, fun q h1 h2 => ?_⟩
  · rw [keys_put, S.keys]
    constructor
    · rintro ((h1 | h1) | h1)
      · exact .inl h1
      · subst h1; exact .inl ⟨b, ho⟩
      · exact .inr h1
    · rintro (h1 | h1)
      · exact .inl (.inl h1)
      · exact .inr h1
  · by_cases e : q.1 = o
    · constructor
      · intro hq
        have := h.ks.uniq hq ho e
        rw [this] at h2
        exact absurd h2 hb
      · intro hq
        rcases mem_putP.mp hq with r | r
        · rw [r] at h1; exact absurd rfl h1
        · exact absurd e (old q r.1 (hs _ h2))
    · rw [S.stay q e (hs _ h2)]
      constructor
      · exact fun hq => mem_putP.mpr (.inr ⟨hq, h1⟩)
      · intro hq
        rcases mem_putP.mp hq with r | r
        · rw [r] at h1; exact absurd rfl h1
        · exact r.1
structure Fl (W : Nat → Int → Prop) (n m : Nat) (P : Pm) (T T' : List Int) : Prop where
  sub : ∀ t ∈ T, t ∈ T'
  nd : T'.Nodup
  far : ∀ t ∈ T', t ∈ T ∨ ∃ j, j < n ∧ W j t
  cl : ∀ t ∈ T', t ∉ T → m ≤ occ P t ∧ ∀ q ∈ P, q.2 = t → ∀ u, W q.1 u → u ∈ T'
theorem Fl.refl {W : Nat → Int → Prop} {n m : Nat} {P : Pm} {T : List Int} (h : T.Nodup) : Fl W n m P T T := ⟨fun _ h => h, h, fun _ h => .inl h, fun t h1 h2 => absurd h1 h2⟩
theorem Fl.trans {W : Nat → Int → Prop} {n m : Nat} {P : Pm} {T T1 T2 : List Int} (h : Fl W n m P T T1) (g : Fl W n m P T1 T2) : Fl W n m P T T2 := by
  refine ⟨fun t ht => g.sub t (h.sub t ht), g.nd, fun t ht => ?_, fun t ht hn => ?_⟩
  · rcases g.far t ht with h1 | h1
    · exact h.far t h1
    · exact .inr h1
  · by_cases h1 : t ∈ T1
    · obtain ⟨a, b⟩ := h.cl t h1 hn
      exact ⟨a, fun q hq e u hu => g.sub u (b q hq e u hu)⟩
    · exact g.cl t ht h1
theorem Fl.beat {W : Nat → Int → Prop} {n m : Nat} {P : Pm} {T T' : List Int} {b : Int} {i : Nat} (g : Fl W n m P (T ++ [b]) T') (hi : i < n) (hw : W i b) (ho : m ≤ occ P b) (hq : ∀ q ∈ P, q.2 = b → ∀ u, W q.1 u → u ∈ T') : Fl W n m P T T' := by
  refine ⟨fun t ht => g.sub t (List.mem_append_left _ ht), g.nd, fun t ht => ?_, fun t ht hn => ?_⟩
  · rcases g.far t ht with h1 | h1
    · rcases List.mem_append.mp h1 with h2 | h2
      · exact .inl h2
      · rw [List.mem_singleton] at h2
        subst h2
        exact .inr ⟨i, hi, hw⟩
    · exact .inr h1
  · by_cases e : t = b
    · subst e; exact ⟨ho, hq⟩
    · exact g.cl t ht fun hm => by
        rcases List.mem_append.mp hm with h2 | h2
        · exact hn h2
        · exact e (List.mem_singleton.mp h2)
theorem countP_or_le {α : Type} (p q : α → Bool) : ∀ L : List α, L.countP (fun x => p x || q x) ≤ L.countP p + L.countP q
  | [] => by simp
  | x :: L => by
    have := countP_or_le p q L
    rw [List.countP_cons, List.countP_cons, List.countP_cons]
    cases p x <;> cases q x <;> simp <;> omega
theorem countP_or_eq {α : Type} (p q : α → Bool) (h : ∀ x, p x = true → q x = true → False) : ∀ L : List α, L.countP (fun x => p x || q x) = L.countP p + L.countP q
  | [] => by simp
  | x :: L => by
    have := countP_or_eq p q h L
    have hx := h x
    rw [List.countP_cons, List.countP_cons, List.countP_cons]
    cases hp : p x <;> cases hq : q x <;> simp [hp, hq] at hx ⊢ <;> omega
theorem mem_dec {t a : Int} {T : List Int} : decide (a ∈ t :: T) = (decide (a = t) || decide (a ∈ T)) := by
  simp [List.mem_cons]
theorem fib_le {α : Type} {f : α → Int} {L : List α} {m : Nat} (h : ∀ t, L.countP (fun x => decide (f x = t)) ≤ m) : ∀ T : List Int, L.countP (fun x => decide (f x ∈ T)) ≤ m * T.length
  | [] => by simp
  | t :: T => by
    have e : (fun x => decide (f x ∈ t :: T)) = fun x => decide (f x = t) || decide (f x ∈ T) := by funext x; exact mem_dec
    rw [e, List.length_cons, Nat.mul_add, Nat.mul_one, Nat.add_comm]
    exact Nat.le_trans (countP_or_le _ _ L) (Nat.add_le_add (h t) (fib_le h T))
theorem fib_ge {α : Type} {f : α → Int} {L : List α} {m : Nat} : ∀ T : List Int, T.Nodup → (∀ t ∈ T, m ≤ L.countP (fun x => decide (f x = t))) → m * T.length ≤ L.countP (fun x => decide (f x ∈ T))
  | [], _, _ => by simp
  | t :: T, hd, h => by
    obtain ⟨h1, h2⟩ := List.nodup_cons.mp hd
    have e : (fun x => decide (f x ∈ t :: T)) = fun x => decide (f x = t) || decide (f x ∈ T) := by funext x; exact mem_dec
    rw [e, List.length_cons, Nat.mul_add, Nat.mul_one, Nat.add_comm, countP_or_eq _ _ fun x a b => h1 (by rw [← of_decide_eq_true a]; exact of_decide_eq_true b)]
    exact Nat.add_le_add (h t (List.mem_cons_self ..)) (fib_ge T h2 fun u hu => h u (List.mem_cons_of_mem _ hu))
theorem stuck {W : Nat → Int → Prop} {n m : Nat} {P : Pm} {T : List Int} {i : Nat} (v : Vd W n m P) (F : Fl W n m P [] T) (hi : i < n) (hn : ∀ b, (i, b) ∉ P) (hw : ∀ u, W i u → u ∈ T)
    (f : Nat → Int) (hf : ∀ j, j < n → W j (f j)) (hm : ∀ t, (List.range n).countP (fun j => decide (f j = t)) ≤ m) : False := by
  have a := fib_le hm T
  have b := fib_ge (f := fun q : Nat × Int => q.2) (L := P) (m := m) T F.nd fun t ht => (F.cl t ht List.not_mem_nil).1
  rw [List.countP_eq_length_filter] at a b
  have nd : (i :: (P.filter fun q => decide (q.2 ∈ T)).map (·.1)).Nodup := by
    refine List.nodup_cons.mpr ⟨fun hm => ?_, ?_⟩
    · obtain ⟨q, hq, e⟩ := List.mem_map.mp hm
      exact hn q.2 (by rw [← e]; exact (List.mem_filter.mp hq).1)
    · unfold List.Nodup
      rw [List.pairwise_map]
      exact List.Pairwise.filter _ v.ks
  have := List.Nodup.length_le_of_subset (l₂ := (List.range n).filter fun j => decide (f j ∈ T)) nd fun j hj => by
    rcases List.mem_cons.mp hj with e | hj
    · subst e
      exact List.mem_filter.mpr ⟨List.mem_range.mpr hi, decide_eq_true (hw _ (hf j hi))⟩
    · obtain ⟨q, hq, e⟩ := List.mem_map.mp hj
      obtain ⟨h1, h2⟩ := List.mem_filter.mp hq
      have hlt := v.lt q h1
      rw [← e]
      exact List.mem_filter.mpr ⟨List.mem_range.mpr hlt, decide_eq_true ((F.cl q.2 (of_decide_eq_true h2) List.not_mem_nil).2 q h1 rfl _ (hf _ hlt))⟩
  rw [List.length_cons, List.length_map] at this
  omega
/-- places for all: no stretch has more -/
theorem pigeon {W : Nat → Int → Prop} {n m : Nat} {P : Pm} (v : Vd W n m P) (all : ∀ j, j < n → ∃ b, (j, b) ∈ P) (f l : Int) (hfl : f ≤ l) (p : Nat → Bool) (hp : ∀ j t, p j = true → W j t → f ≤ t ∧ t ≤ l) :
    ((List.range n).countP p : Int) ≤ m * (l - f + 1) := by
  obtain ⟨N, hN⟩ : ∃ N : Nat, (N : Int) = l - f + 1 := ⟨(l - f + 1).toNat, Int.toNat_of_nonneg (by omega)⟩
  have a := fib_le (f := fun q : Nat × Int => q.2) (L := P) (m := m) v.few ((List.range N).map fun (k : Nat) => f + (k : Int))
  rw [List.length_map, List.length_range, List.countP_eq_length_filter] at a
  rw [List.countP_eq_length_filter]
  have b := List.Nodup.length_le_of_subset (l₁ := (List.range n).filter p) (l₂ := (P.filter fun q => decide (q.2 ∈ (List.range N).map fun (k : Nat) => f + (k : Int))).map (·.1)) (List.nodup_range.filter _) fun j hj => by
    obtain ⟨h1, h2⟩ := List.mem_filter.mp hj
    obtain ⟨b, hb⟩ := all j (List.mem_range.mp h1)
    obtain ⟨w1, w2⟩ := hp j b h2 (v.in_ _ hb)
    refine List.mem_map.mpr ⟨(j, b), List.mem_filter.mpr ⟨hb, decide_eq_true (List.mem_map.mpr ⟨(b - f).toNat, List.mem_range.mpr (by omega), by omega⟩)⟩, rfl⟩
  rw [List.length_map] at b
  rw [← hN]
  have : ((m * N : Nat) : Int) = (m : Int) * N := by simp
  omega
end Zq

set_option maxHeartbeats 2000000
namespace Zp
open PySem Z
abbrev BG : Int := 1000000000000000000000000000000
theorem e_whole (k : Nat) (n : Int) (A : Hh) : callN Pg (k + 1) i_is_whole [.int n] A = some (.ok (.bl true) A) := by
  rw [c_is_whole, mb_is_whole]
  simp [Z.sseq, Z.snil, Z.sret, Z.sexp, Z.sasg, Z.spar, Z.sif, Z.spass, Z.sbrk, Z.scnt, Z.sthen_nx, Z.sthen_rt, Z.sthen_bk, Z.sthen_ct, Z.of_ok, Z.andThen_ok, Z.mb, Z.ok, Z.mo, Z.zvar, Z.zc, Z.zbin, Z.zneg, Z.zcmp, Z.zchn, Z.copM, Z.zbl, Z.ztru, Z.zand, Z.zor, Z.znot, Z.zandv, Z.zorv, Z.zite, Z.znil, Z.zcons, Z.ztup, Z.zix, Z.zlen, Z.zisi, Z.isiB, Z.zcall, Z.endD, Z.gnm, Z.gtup, Z.gcons, Z.gnil, Z.gc_self, Z.zallq, Z.zanyq, Z.zsumq, Z.zminq, Z.zmaxq, Z.zlenq, Z.ztupq, Z.zrow, Z.zst, Z.zof, Z.zofL, Z.zlst, Z.lstM, Z.zcomp, Z.zrng, Z.rngM, Z.zcat, Z.zrep, Z.zzip, Z.zsort, Z.zsortR, Z.zsortset, Z.zslT, Z.zslL, Z.znone, Z.zsome, Z.znew, Z.zfz, Z.alloc, Z.wipeD, Z.sfor, Z.zm1, Z.zm0, Z.bmD, Z.zdvm, Z.zabs, Z.zmx2, Z.zmn2, Z.zint, Z.zcnt, Z.gsub, Z.setD, Z.ztt, Z.seq_tup, Z.seq_lst, Z.lst_lst, Z.ty_non, Z.ty_bl, Z.ty_int, Z.ty_str, Z.ty_tup, Z.ty_lst, Z.tru_non, Z.tru_bl, Z.tru_int, Z.tru_tup, Z.tru_lst, Z.len_tup, Z.len_lst, Z.ix_int, Z.at_0, Z.at_1, Z.at_2, Z.at_3, Z.at_4, Z.add_ii, Z.sub_ii, Z.mul_ii, Z.fdiv_ii, Z.mod_ii, Z.pow_ii, Z.add_tt, Z.lt_ii, Z.le_ii, Z.gt_ii, Z.ge_ii, Z.eq_ii, Z.ne_ii, Z.eq_dd, Z.ne_dd, Z.isN_d, Z.notN_d, Z.wt_tup, Z.D.deq]
theorem e_between (k : Nat) (x l h : Int) (A : Hh) (h1 : l ≤ x) (h2 : x ≤ h) : callN Pg (k + 2) i_is_between [.int x, .int l, .int h] A = some (.ok (.bl true) A) := by
  rw [c_is_between, mb_is_between]
  simp [Z.sseq, Z.snil, Z.sret, Z.sexp, Z.sasg, Z.spar, Z.sif, Z.spass, Z.sbrk, Z.scnt, Z.sthen_nx, Z.sthen_rt, Z.sthen_bk, Z.sthen_ct, Z.of_ok, Z.andThen_ok, Z.mb, Z.ok, Z.mo, Z.zvar, Z.zc, Z.zbin, Z.zneg, Z.zcmp, Z.zchn, Z.copM, Z.zbl, Z.ztru, Z.zand, Z.zor, Z.znot, Z.zandv, Z.zorv, Z.zite, Z.znil, Z.zcons, Z.ztup, Z.zix, Z.zlen, Z.zisi, Z.isiB, Z.zcall, Z.endD, Z.gnm, Z.gtup, Z.gcons, Z.gnil, Z.gc_self, Z.zallq, Z.zanyq, Z.zsumq, Z.zminq, Z.zmaxq, Z.zlenq, Z.ztupq, Z.zrow, Z.zst, Z.zof, Z.zofL, Z.zlst, Z.lstM, Z.zcomp, Z.zrng, Z.rngM, Z.zcat, Z.zrep, Z.zzip, Z.zsort, Z.zsortR, Z.zsortset, Z.zslT, Z.zslL, Z.znone, Z.zsome, Z.znew, Z.zfz, Z.alloc, Z.wipeD, Z.sfor, Z.zm1, Z.zm0, Z.bmD, Z.zdvm, Z.zabs, Z.zmx2, Z.zmn2, Z.zint, Z.zcnt, Z.gsub, Z.setD, Z.ztt, Z.seq_tup, Z.seq_lst, Z.lst_lst, Z.ty_non, Z.ty_bl, Z.ty_int, Z.ty_str, Z.ty_tup, Z.ty_lst, Z.tru_non, Z.tru_bl, Z.tru_int, Z.tru_tup, Z.tru_lst, Z.len_tup, Z.len_lst, Z.ix_int, Z.at_0, Z.at_1, Z.at_2, Z.at_3, Z.at_4, Z.add_ii, Z.sub_ii, Z.mul_ii, Z.fdiv_ii, Z.mod_ii, Z.pow_ii, Z.add_tt, Z.lt_ii, Z.le_ii, Z.gt_ii, Z.ge_ii, Z.eq_ii, Z.ne_ii, Z.eq_dd, Z.ne_dd, Z.isN_d, Z.notN_d, Z.wt_tup, Z.D.deq, e_whole, h1, h2]
theorem e_stretch (k : Nat) (a b m : Int) (A : Hh) (h1 : 1 ≤ a) (h2 : a ≤ BG) (h3 : a ≤ b) (h4 : b ≤ m) : callN Pg (k + 3) i_is_stretch [.tup [.int a, .int b], .int m] A = some (.ok (.bl true) A) := by
  rw [c_is_stretch, mb_is_stretch]
  have h2' : a ≤ 1000000000000000000000000000000 := h2
  simp [Z.sseq, Z.snil, Z.sret, Z.sexp, Z.sasg, Z.spar, Z.sif, Z.spass, Z.sbrk, Z.scnt, Z.sthen_nx, Z.sthen_rt, Z.sthen_bk, Z.sthen_ct, Z.of_ok, Z.andThen_ok, Z.mb, Z.ok, Z.mo, Z.zvar, Z.zc, Z.zbin, Z.zneg, Z.zcmp, Z.zchn, Z.copM, Z.zbl, Z.ztru, Z.zand, Z.zor, Z.znot, Z.zandv, Z.zorv, Z.zite, Z.znil, Z.zcons, Z.ztup, Z.zix, Z.zlen, Z.zisi, Z.isiB, Z.zcall, Z.endD, Z.gnm, Z.gtup, Z.gcons, Z.gnil, Z.gc_self, Z.zallq, Z.zanyq, Z.zsumq, Z.zminq, Z.zmaxq, Z.zlenq, Z.ztupq, Z.zrow, Z.zst, Z.zof, Z.zofL, Z.zlst, Z.lstM, Z.zcomp, Z.zrng, Z.rngM, Z.zcat, Z.zrep, Z.zzip, Z.zsort, Z.zsortR, Z.zsortset, Z.zslT, Z.zslL, Z.znone, Z.zsome, Z.znew, Z.zfz, Z.alloc, Z.wipeD, Z.sfor, Z.zm1, Z.zm0, Z.bmD, Z.zdvm, Z.zabs, Z.zmx2, Z.zmn2, Z.zint, Z.zcnt, Z.gsub, Z.setD, Z.ztt, Z.seq_tup, Z.seq_lst, Z.lst_lst, Z.ty_non, Z.ty_bl, Z.ty_int, Z.ty_str, Z.ty_tup, Z.ty_lst, Z.tru_non, Z.tru_bl, Z.tru_int, Z.tru_tup, Z.tru_lst, Z.len_tup, Z.len_lst, Z.ix_int, Z.at_0, Z.at_1, Z.at_2, Z.at_3, Z.at_4, Z.add_ii, Z.sub_ii, Z.mul_ii, Z.fdiv_ii, Z.mod_ii, Z.pow_ii, Z.add_tt, Z.lt_ii, Z.le_ii, Z.gt_ii, Z.ge_ii, Z.eq_ii, Z.ne_ii, Z.eq_dd, Z.ne_dd, Z.isN_d, Z.notN_d, Z.wt_tup, Z.D.deq, e_between, h1, h2', h3, h4]
/-- a call of the plan, as data -/
def cD (c : Int × Int) : D := .tup [.int c.1, .int c.2]
def csD (cs : List (Int × Int)) : D := .tup (cs.map cD)
def leC (c d : Int × Int) : Prop := leL [c.1, c.2] [d.1, d.2] = true
structure CallsOk (cs : List (Int × Int)) : Prop where
  len : cs.length ≤ 12
  in_ : ∀ c ∈ cs, 1 ≤ c.1 ∧ c.1 ≤ c.2 ∧ c.2 ≤ BG
  ord : cs.Pairwise leC
theorem seq_cs (A : Hh) (cs : List (Int × Int)) : seqD A (csD cs) = some (cs.map cD, []) := rfl
theorem ty_cs (A : Hh) (cs : List (Int × Int)) : tyD A (csD cs) = some .tup := rfl
theorem len_cs (A : Hh) (cs : List (Int × Int)) : biD .len [csD cs] A = some (.int cs.length) := by simp [csD, biD, seqD]
theorem lst_cs (A : Hh) (cs : List (Int × Int)) : lstD A (csD cs) = none := rfl
theorem blsOf_true : ∀ n : Nat, blsOf (List.replicate n (D.bl true)) = some (List.replicate n true)
  | 0 => rfl
  | n + 1 => by rw [List.replicate_succ, List.replicate_succ, blsOf, blsOf_true n]; rfl
theorem map_const {α : Type} (f : α → D) (d : D) : ∀ (xs : List α), (∀ x ∈ xs, f x = d) → xs.map f = List.replicate xs.length d
  | [], _ => rfl
  | x :: xs, h => by rw [List.map_cons, h x (List.mem_cons_self ..), map_const f d xs fun y hy => h y (List.mem_cons_of_mem _ hy)]; rfl
theorem filter_true {α : Type} (xs : List α) : xs.filter (fun _ => true) = xs := by simp
theorem csD_at {cs : List (Int × Int)} {i : Nat} {c : Int × Int} (h : cs[i]? = some c) : (cs.map cD)[i]? = some (cD c) := by rw [List.getElem?_map, h]; rfl
theorem e_are_calls (k : Nat) (cs : List (Int × Int)) (A : Hh) (h : CallsOk cs) : callN Pg (k + 4) i_are_calls [csD cs] A = some (.ok (.bl true) A) := by
  rw [c_are_calls, mb_are_calls]
  have hz : ¬ (12 : Int) < (cs.length : Int) := by have := h.len; omega
  have hz2 : cs.length ≤ 12 := h.len
  obtain ⟨σ', A', h1, h2⟩ := forL_go (w := []) (g := gnm 1) (b := (sseq (sif (zor (znot (ztru (zisi .tuple (zvar 1)))) (zor (zcmp .ne (zlen (zvar 1)) (zc (.int 2))) (znot (ztru (zcall ⟨callN Pg (k + 3)⟩ i_is_stretch (zcons (zvar 1) (zcons (zc (.int 1000000000000000000000000000000)) znil))))))) (sseq (sret (zc (.bl false))) snil) snil) snil))
    (fun xs σ A' => A' = A ∧ (∃ ds : List (Int × Int), xs = ds.map cD ∧ ∀ d ∈ ds, d ∈ cs) ∧ ∃ u v, σ = [some (csD cs), u, v]) (fun _ _ _ _ => rfl) (fun x xs σ A' ⟨hA, ⟨ds, hd, hm⟩, u, v, hs⟩ => by
      subst hA hs
      cases ds with
      | nil => cases hd
      | cons d ds =>
        simp only [List.map_cons, List.cons.injEq] at hd
        obtain ⟨rfl, rfl⟩ := hd
        obtain ⟨g1, g2, g3⟩ := h.in_ d (hm d (List.mem_cons_self ..))
        refine ⟨_, _, rfl, [some (csD cs), some (cD d), v], A', .inl ?_, rfl, ⟨ds, rfl, fun y hy => hm y (List.mem_cons_of_mem _ hy)⟩, _, _, rfl⟩
        have g4 : d.1 ≤ BG := by omega
        simp [Z.sseq, Z.snil, Z.sret, Z.sexp, Z.sasg, Z.spar, Z.sif, Z.spass, Z.sbrk, Z.scnt, Z.sthen_nx, Z.sthen_rt, Z.sthen_bk, Z.sthen_ct, Z.of_ok, Z.andThen_ok, Z.mb, Z.ok, Z.mo, Z.zvar, Z.zc, Z.zbin, Z.zneg, Z.zcmp, Z.zchn, Z.copM, Z.zbl, Z.ztru, Z.zand, Z.zor, Z.znot, Z.zandv, Z.zorv, Z.zite, Z.znil, Z.zcons, Z.ztup, Z.zix, Z.zlen, Z.zisi, Z.isiB, Z.zcall, Z.endD, Z.gnm, Z.gtup, Z.gcons, Z.gnil, Z.gc_self, Z.zallq, Z.zanyq, Z.zsumq, Z.zminq, Z.zmaxq, Z.zlenq, Z.ztupq, Z.zrow, Z.zst, Z.zof, Z.zofL, Z.zlst, Z.lstM, Z.zcomp, Z.zrng, Z.rngM, Z.zcat, Z.zrep, Z.zzip, Z.zsort, Z.zsortR, Z.zsortset, Z.zslT, Z.zslL, Z.znone, Z.zsome, Z.znew, Z.zfz, Z.alloc, Z.wipeD, Z.sfor, Z.zm1, Z.zm0, Z.bmD, Z.zdvm, Z.zabs, Z.zmx2, Z.zmn2, Z.zint, Z.zcnt, Z.gsub, Z.setD, Z.ztt, Z.seq_tup, Z.seq_lst, Z.lst_lst, Z.ty_non, Z.ty_bl, Z.ty_int, Z.ty_str, Z.ty_tup, Z.ty_lst, Z.tru_non, Z.tru_bl, Z.tru_int, Z.tru_tup, Z.tru_lst, Z.len_tup, Z.len_lst, Z.ix_int, Z.at_0, Z.at_1, Z.at_2, Z.at_3, Z.at_4, Z.add_ii, Z.sub_ii, Z.mul_ii, Z.fdiv_ii, Z.mod_ii, Z.pow_ii, Z.add_tt, Z.lt_ii, Z.le_ii, Z.gt_ii, Z.ge_ii, Z.eq_ii, Z.ne_ii, Z.eq_dd, Z.ne_dd, Z.isN_d, Z.notN_d, Z.wt_tup, Z.D.deq, cD, eqD, e_stretch k d.1 d.2 BG A' g1 g4 g2 g3]) (cs.map cD) [some (csD cs), none, none] A ⟨rfl, ⟨cs, rfl, fun d hd => hd⟩, _, _, rfl⟩
  obtain ⟨rfl, _, u, v, rfl⟩ := h2
  have hr : rngI 0 ((cs.length : Int) - 1) = (List.range (cs.length - 1)).map fun (i : Nat) => D.int i := by
    unfold rngI
    have : ((cs.length : Int) - 1 - 0).toNat = cs.length - 1 := by omega
    rw [this]
    simp
  have hr1 : -1152921504606846976 ≤ (cs.length : Int) - 1 := by omega
  have hr2 : (cs.length : Int) - 1 ≤ 1152921504606846976 := by omega
  have hc : compL [some (csD cs), u, none] [] (gnm 2) ztt (zbl (zcmp Cop.le (zix (zvar 0) (zvar 2)) (zix (zvar 0) (zbin Bop.add (zvar 2) (zc (D.int 1)))))) ((List.range (cs.length - 1)).map fun (i : Nat) => D.int i) [] A' = some (.ok (List.replicate (cs.length - 1) (.bl true)) A') := by
    rw [compL_map (fun x => [some (csD cs), u, some x]) (fun _ => true) (fun _ => .bl true) _ _ (fun x hx => ?_) (by simp [SZ]; omega), filter_true, map_const _ (.bl true) _ fun _ _ => rfl]
    · simp
    · obtain ⟨i, hi, rfl⟩ := List.mem_map.mp hx
      have hi' : i < cs.length - 1 := List.mem_range.mp hi
      have e1 : (cs.map cD)[i]? = some (cD cs[i]) := csD_at (List.getElem?_eq_getElem (by omega))
      have e2 : (cs.map cD)[i + 1]? = some (cD cs[i + 1]) := csD_at (List.getElem?_eq_getElem (by omega))
      have e3 : copD .le (cD cs[i]) (cD cs[i + 1]) A' = some true := congrArg some (show leL [cs[i].1, cs[i].2] [cs[i + 1].1, cs[i + 1].2] = true from List.pairwise_iff_getElem.mp h.ord i (i + 1) (by omega) (by omega) (by omega))
      have e4 : L2.atI (cs.map cD) ((i : Int) + 1) = some (cD cs[i + 1]) := by
        have := at_nat (cs.map cD) (i + 1)
        push_cast at this
        rw [this, e2]
      refine ⟨rfl, rfl, fun _ => ?_⟩
      have e5 : cs[i]? = some cs[i] := List.getElem?_eq_getElem (by omega)
      simp [Z.sseq, Z.snil, Z.sret, Z.sexp, Z.sasg, Z.spar, Z.sif, Z.spass, Z.sbrk, Z.scnt, Z.sthen_nx, Z.sthen_rt, Z.sthen_bk, Z.sthen_ct, Z.of_ok, Z.andThen_ok, Z.mb, Z.ok, Z.mo, Z.zvar, Z.zc, Z.zbin, Z.zneg, Z.zcmp, Z.zchn, Z.copM, Z.zbl, Z.ztru, Z.zand, Z.zor, Z.znot, Z.zandv, Z.zorv, Z.zite, Z.znil, Z.zcons, Z.ztup, Z.zix, Z.zlen, Z.zisi, Z.isiB, Z.zcall, Z.endD, Z.gnm, Z.gtup, Z.gcons, Z.gnil, Z.gc_self, Z.zallq, Z.zanyq, Z.zsumq, Z.zminq, Z.zmaxq, Z.zlenq, Z.ztupq, Z.zrow, Z.zst, Z.zof, Z.zofL, Z.zlst, Z.lstM, Z.zcomp, Z.zrng, Z.rngM, Z.zcat, Z.zrep, Z.zzip, Z.zsort, Z.zsortR, Z.zsortset, Z.zslT, Z.zslL, Z.znone, Z.zsome, Z.znew, Z.zfz, Z.alloc, Z.wipeD, Z.sfor, Z.zm1, Z.zm0, Z.bmD, Z.zdvm, Z.zabs, Z.zmx2, Z.zmn2, Z.zint, Z.zcnt, Z.gsub, Z.setD, Z.ztt, Z.seq_tup, Z.seq_lst, Z.lst_lst, Z.ty_non, Z.ty_bl, Z.ty_int, Z.ty_str, Z.ty_tup, Z.ty_lst, Z.tru_non, Z.tru_bl, Z.tru_int, Z.tru_tup, Z.tru_lst, Z.len_tup, Z.len_lst, Z.ix_int, Z.at_0, Z.at_1, Z.at_2, Z.at_3, Z.at_4, Z.add_ii, Z.sub_ii, Z.mul_ii, Z.fdiv_ii, Z.mod_ii, Z.pow_ii, Z.add_tt, Z.lt_ii, Z.le_ii, Z.gt_ii, Z.ge_ii, Z.eq_ii, Z.ne_ii, Z.eq_dd, Z.ne_dd, Z.isN_d, Z.notN_d, Z.wt_tup, Z.D.deq, seq_cs, at_nat, e5, e3, e4]
  simp [Z.sseq, Z.snil, Z.sret, Z.sexp, Z.sasg, Z.spar, Z.sif, Z.spass, Z.sbrk, Z.scnt, Z.sthen_nx, Z.sthen_rt, Z.sthen_bk, Z.sthen_ct, Z.of_ok, Z.andThen_ok, Z.mb, Z.ok, Z.mo, Z.zvar, Z.zc, Z.zbin, Z.zneg, Z.zcmp, Z.zchn, Z.copM, Z.zbl, Z.ztru, Z.zand, Z.zor, Z.znot, Z.zandv, Z.zorv, Z.zite, Z.znil, Z.zcons, Z.ztup, Z.zix, Z.zlen, Z.zisi, Z.isiB, Z.zcall, Z.endD, Z.gnm, Z.gtup, Z.gcons, Z.gnil, Z.gc_self, Z.zallq, Z.zanyq, Z.zsumq, Z.zminq, Z.zmaxq, Z.zlenq, Z.ztupq, Z.zrow, Z.zst, Z.zof, Z.zofL, Z.zlst, Z.lstM, Z.zcomp, Z.zrng, Z.rngM, Z.zcat, Z.zrep, Z.zzip, Z.zsort, Z.zsortR, Z.zsortset, Z.zslT, Z.zslL, Z.znone, Z.zsome, Z.znew, Z.zfz, Z.alloc, Z.wipeD, Z.sfor, Z.zm1, Z.zm0, Z.bmD, Z.zdvm, Z.zabs, Z.zmx2, Z.zmn2, Z.zint, Z.zcnt, Z.gsub, Z.setD, Z.ztt, Z.seq_tup, Z.seq_lst, Z.lst_lst, Z.ty_non, Z.ty_bl, Z.ty_int, Z.ty_str, Z.ty_tup, Z.ty_lst, Z.tru_non, Z.tru_bl, Z.tru_int, Z.tru_tup, Z.tru_lst, Z.len_tup, Z.len_lst, Z.ix_int, Z.at_0, Z.at_1, Z.at_2, Z.at_3, Z.at_4, Z.add_ii, Z.sub_ii, Z.mul_ii, Z.fdiv_ii, Z.mod_ii, Z.pow_ii, Z.add_tt, Z.lt_ii, Z.le_ii, Z.gt_ii, Z.ge_ii, Z.eq_ii, Z.ne_ii, Z.eq_dd, Z.ne_dd, Z.isN_d, Z.notN_d, Z.wt_tup, Z.D.deq, seq_cs, ty_cs, len_cs, hz, h1, hr, hr1, hr2, hc, blsOf_true]
theorem e_check (k : Nat) (cs : List (Int × Int)) (A : Hh) (h : CallsOk cs) : callN Pg (k + 5) i_check_calls [csD cs] A = some (.ok .non A) := by
  rw [c_check_calls, mb_check_calls]
  simp [Z.sseq, Z.snil, Z.sret, Z.sexp, Z.sasg, Z.spar, Z.sif, Z.spass, Z.sbrk, Z.scnt, Z.sthen_nx, Z.sthen_rt, Z.sthen_bk, Z.sthen_ct, Z.of_ok, Z.andThen_ok, Z.mb, Z.ok, Z.mo, Z.zvar, Z.zc, Z.zbin, Z.zneg, Z.zcmp, Z.zchn, Z.copM, Z.zbl, Z.ztru, Z.zand, Z.zor, Z.znot, Z.zandv, Z.zorv, Z.zite, Z.znil, Z.zcons, Z.ztup, Z.zix, Z.zlen, Z.zisi, Z.isiB, Z.zcall, Z.endD, Z.gnm, Z.gtup, Z.gcons, Z.gnil, Z.gc_self, Z.zallq, Z.zanyq, Z.zsumq, Z.zminq, Z.zmaxq, Z.zlenq, Z.ztupq, Z.zrow, Z.zst, Z.zof, Z.zofL, Z.zlst, Z.lstM, Z.zcomp, Z.zrng, Z.rngM, Z.zcat, Z.zrep, Z.zzip, Z.zsort, Z.zsortR, Z.zsortset, Z.zslT, Z.zslL, Z.znone, Z.zsome, Z.znew, Z.zfz, Z.alloc, Z.wipeD, Z.sfor, Z.zm1, Z.zm0, Z.bmD, Z.zdvm, Z.zabs, Z.zmx2, Z.zmn2, Z.zint, Z.zcnt, Z.gsub, Z.setD, Z.ztt, Z.seq_tup, Z.seq_lst, Z.lst_lst, Z.ty_non, Z.ty_bl, Z.ty_int, Z.ty_str, Z.ty_tup, Z.ty_lst, Z.tru_non, Z.tru_bl, Z.tru_int, Z.tru_tup, Z.tru_lst, Z.len_tup, Z.len_lst, Z.ix_int, Z.at_0, Z.at_1, Z.at_2, Z.at_3, Z.at_4, Z.add_ii, Z.sub_ii, Z.mul_ii, Z.fdiv_ii, Z.mod_ii, Z.pow_ii, Z.add_tt, Z.lt_ii, Z.le_ii, Z.gt_ii, Z.ge_ii, Z.eq_ii, Z.ne_ii, Z.eq_dd, Z.ne_dd, Z.isN_d, Z.notN_d, Z.wt_tup, Z.D.deq, e_are_calls k cs A h]
def inW (f l : Int) (c : Int × Int) : Bool := decide (f ≤ c.1) && decide (c.2 ≤ l)
def cnt (cs : List (Int × Int)) (f l : Int) : Nat := (cs.filter (inW f l)).length
theorem comp_in {σ : Sl} {A : Hh} {cs : List (Int × Int)} {f l : Int} (j a b : Nat) (hz : cs.length ≤ 12) (ha : a ≠ j) (hb : b ≠ j) (hj : j < σ.length) (ea : σ[a]? = some (some (.int f))) (eb : σ[b]? = some (some (.int l))) :
    compL σ [] (gnm j) (zand (zcmp .le (zvar a) (zix (zvar j) (zc (.int 0)))) (zcmp .le (zix (zvar j) (zc (.int 1))) (zvar b))) (zvar j) (cs.map cD) [] A = some (.ok ((cs.filter (inW f l)).map cD) A) := by
  let q : D → Bool := fun d => match d with
    | .tup [.int x, .int y] => decide (f ≤ x) && decide (y ≤ l)
    | _ => false
  have ej : ∀ x, (σ.set j (some x))[j]? = some (some x) := fun x => List.getElem?_set_self hj
  have ea' : ∀ x, (σ.set j (some x))[a]? = some (some (.int f)) := fun x => by rw [List.getElem?_set_ne (Ne.symm ha), ea]
  have eb' : ∀ x, (σ.set j (some x))[b]? = some (some (.int l)) := fun x => by rw [List.getElem?_set_ne (Ne.symm hb), eb]
  rw [compL_map (fun x => σ.set j (some x)) q (fun x => x) _ _ (fun x hx => ?_) (by simp [SZ]; omega)]
  · rw [List.filter_map]
    have : (q ∘ cD) = inW f l := by
      funext c
      rfl
    rw [this]
    simp
  · obtain ⟨c, _, rfl⟩ := List.mem_map.mp hx
    refine ⟨rfl, ?_, fun _ => ?_⟩
    · simp only [zand, mb, zcmp, zvar, ea', eb', ej, ok, andThen_ok, zix, zc, ix_int, cD, seq_tup, Option.bind_some, at_0, at_1, copM, le_ii, Option.map_some, List.getElem?_cons_zero, List.getElem?_cons_succ]
      by_cases h1 : f ≤ c.1
      · simp [h1, q, mb, zcmp, zvar, ea', eb', ej, ok, andThen_ok, zix, zc, ix_int, cD, seq_tup, at_0, at_1, copM, le_ii]
      · simp [h1, q, ok]
    · simp only [zvar, ej]
theorem e_within (k : Nat) (cs : List (Int × Int)) (f l : Int) (A : Hh) (hz : cs.length ≤ 12) : callN Pg (k + 1) i_within [csD cs, .int f, .int l] A = some (.ok (.int (cnt cs f l)) A) := by
  rw [c_within, mb_within]
  have h1 := comp_in (σ := [some (csD cs), some (.int f), some (.int l), none]) (A := A) (cs := cs) (f := f) (l := l) 3 1 2 hz (by decide) (by decide) (by show 3 < 4; decide) rfl rfl
  simp [Z.sseq, Z.snil, Z.sret, Z.sexp, Z.sasg, Z.spar, Z.sif, Z.spass, Z.sbrk, Z.scnt, Z.sthen_nx, Z.sthen_rt, Z.sthen_bk, Z.sthen_ct, Z.of_ok, Z.andThen_ok, Z.mb, Z.ok, Z.mo, Z.zvar, Z.zc, Z.zbin, Z.zneg, Z.zcmp, Z.zchn, Z.copM, Z.zbl, Z.ztru, Z.zand, Z.zor, Z.znot, Z.zandv, Z.zorv, Z.zite, Z.znil, Z.zcons, Z.ztup, Z.zix, Z.zlen, Z.zisi, Z.isiB, Z.zcall, Z.endD, Z.gnm, Z.gtup, Z.gcons, Z.gnil, Z.gc_self, Z.zallq, Z.zanyq, Z.zsumq, Z.zminq, Z.zmaxq, Z.zlenq, Z.ztupq, Z.zrow, Z.zst, Z.zof, Z.zofL, Z.zlst, Z.lstM, Z.zcomp, Z.zrng, Z.rngM, Z.zcat, Z.zrep, Z.zzip, Z.zsort, Z.zsortR, Z.zsortset, Z.zslT, Z.zslL, Z.znone, Z.zsome, Z.znew, Z.zfz, Z.alloc, Z.wipeD, Z.sfor, Z.zm1, Z.zm0, Z.bmD, Z.zdvm, Z.zabs, Z.zmx2, Z.zmn2, Z.zint, Z.zcnt, Z.gsub, Z.setD, Z.ztt, Z.seq_tup, Z.seq_lst, Z.lst_lst, Z.ty_non, Z.ty_bl, Z.ty_int, Z.ty_str, Z.ty_tup, Z.ty_lst, Z.tru_non, Z.tru_bl, Z.tru_int, Z.tru_tup, Z.tru_lst, Z.len_tup, Z.len_lst, Z.ix_int, Z.at_0, Z.at_1, Z.at_2, Z.at_3, Z.at_4, Z.add_ii, Z.sub_ii, Z.mul_ii, Z.fdiv_ii, Z.mod_ii, Z.pow_ii, Z.add_tt, Z.lt_ii, Z.le_ii, Z.gt_ii, Z.ge_ii, Z.eq_ii, Z.ne_ii, Z.eq_dd, Z.ne_dd, Z.isN_d, Z.notN_d, Z.wt_tup, Z.D.deq, seq_cs, h1, cnt]
set_option exponentiation.threshold 4000 in
theorem small_le {i : Int} (h0 : 0 ≤ i) (h1 : i ≤ 10 ^ 400) : small i = true := by
  rw [small_def]
  refine decide_eq_true ?_
  have h2 : (10 : Nat) ^ 400 < BIGB := by decide +kernel
  have h3 : (i.natAbs : Int) ≤ ((10 ^ 400 : Nat) : Int) := by
    rw [Int.natAbs_of_nonneg h0, Int.natCast_pow]
    exact h1
  have h4 : i.natAbs ≤ 10 ^ 400 := by exact_mod_cast h3
  exact Nat.lt_of_le_of_lt h4 h2
theorem comp_ix0 {σ : Sl} {A : Hh} {cs : List (Int × Int)} (j : Nat) (hz : cs.length ≤ 12) (hj : j < σ.length) :
    compL σ [] (gnm j) ztt (zix (zvar j) (zc (.int 0))) (cs.map cD) [] A = some (.ok ((cs.map (·.1)).map .int) A) := by
  rw [compL_map (fun x => σ.set j (some x)) (fun _ => true) (fun d => match d with | .tup [.int x, .int _] => .int x | _ => .non) _ _ (fun x hx => ?_) (by simp [SZ]; omega), filter_true, List.map_map, List.map_map]
  · rfl
  · obtain ⟨c, _, rfl⟩ := List.mem_map.mp hx
    have ej : (σ.set j (some (cD c)))[j]? = some (some (cD c)) := List.getElem?_set_self hj
    refine ⟨rfl, rfl, fun _ => ?_⟩
    unfold cD at ej
    simp only [zix, mb, zvar, ej, andThen_ok, zc, ix_int, cD, seq_tup, Option.bind_some, at_0, List.getElem?_cons_zero, Option.map_some]
theorem comp_ix1 {σ : Sl} {A : Hh} {cs : List (Int × Int)} (j : Nat) (hz : cs.length ≤ 12) (hj : j < σ.length) :
    compL σ [] (gnm j) ztt (zix (zvar j) (zc (.int 1))) (cs.map cD) [] A = some (.ok ((cs.map (·.2)).map .int) A) := by
  rw [compL_map (fun x => σ.set j (some x)) (fun _ => true) (fun d => match d with | .tup [.int _, .int y] => .int y | _ => .non) _ _ (fun x hx => ?_) (by simp [SZ]; omega), filter_true, List.map_map, List.map_map]
  · rfl
  · obtain ⟨c, _, rfl⟩ := List.mem_map.mp hx
    have ej : (σ.set j (some (cD c)))[j]? = some (some (cD c)) := List.getElem?_set_self hj
    refine ⟨rfl, rfl, fun _ => ?_⟩
    unfold cD at ej
    simp only [zix, mb, zvar, ej, andThen_ok, zc, ix_int, cD, seq_tup, Option.bind_some, at_1, List.getElem?_cons_zero, List.getElem?_cons_succ, Option.map_some]
def Good (cs : List (Int × Int)) (m : Int) (fd : D) : Prop := (m = 0 ∧ fd = .non) ∨ (1 ≤ m ∧ ∃ f l, fd = .tup [.int f, .int l] ∧ f ≤ l ∧ (1 ≤ f ∧ l ≤ BG) ∧ (m - 1) * (l - f + 1) < cnt cs f l)
theorem ceil_ok (n b : Int) (hb : 0 < b) : n ≤ ((n + b - 1) / b) * b ∧ ((n + b - 1) / b) * b ≤ n + b - 1 := by
  have h1 := Int.mul_ediv_add_emod (n + b - 1) b
  have h2 := Int.emod_nonneg (n + b - 1) (show b ≠ 0 by omega)
  have h3 := Int.emod_lt_of_pos (n + b - 1) hb
  rw [Int.mul_comm] at h1
  omega
noncomputable def bodyW (k : Nat) : Sv := (sseq (sif (zcmp .le (zvar 1) (zvar 4)) (sseq (sasg (gnm 5) (zbin .add (zbin .sub (zvar 4) (zvar 1)) (zc (.int 1))))
 (sseq (sasg (gnm 6) (zbin .fdiv (zbin .sub (zbin .add (zcall ⟨callN Pg k⟩ i_within (zcons (zvar 0) (zcons (zvar 1) (zcons (zvar 4) znil)))) (zvar 5)) (zc (.int 1))) (zvar 5)))
 (sseq (sif (zcmp .gt (zvar 6) (zvar 2)) (sseq (spar 2 3 (zcons (zvar 6) (zcons (ztup (zcons (zvar 1) (zcons (zvar 4) znil))) znil)))
 snil) snil)
 snil))) snil)
 snil)
theorem w_step (k : Nat) (cs : List (Int × Int)) (hz : cs.length ≤ 12) (f l m : Int) (fd : D) (s5 s6 s7 : Option D) (hf : 1 ≤ f) (hl : l ≤ BG) (hm : 0 ≤ m) (hg : Good cs m fd) :
    ∃ m' fd' s5' s6', (∀ A, bodyW (k + 1) [some (csD cs), some (.int f), some (.int m), some fd, some (.int l), s5, s6, s7] A = some (.nx [some (csD cs), some (.int f), some (.int m'), some fd', some (.int l), s5', s6', s7] A)) ∧
      m ≤ m' ∧ Good cs m' fd' ∧ (f ≤ l → cnt cs f l ≤ m' * (l - f + 1)) := by
  unfold bodyW
  by_cases hfl : f ≤ l
  · have hb : 0 < l - f + 1 := by omega
    have hs : small (l - f + 1) = true := small_le (by omega) (by
      have : (l - f + 1) ≤ 10 ^ 30 := by unfold BG at hl; omega
      exact Int.le_trans this (by decide +kernel))
    obtain ⟨c1, c2⟩ := ceil_ok (cnt cs f l) (l - f + 1) hb
    by_cases hm2 : m < ((cnt cs f l : Int) + (l - f + 1) - 1) / (l - f + 1)
    · refine ⟨((cnt cs f l : Int) + (l - f + 1) - 1) / (l - f + 1), .tup [.int f, .int l], some (.int (l - f + 1)), some (.int (((cnt cs f l : Int) + (l - f + 1) - 1) / (l - f + 1))), ?_, by omega, .inr ⟨by omega, f, l, rfl, hfl, ⟨hf, hl⟩, ?_⟩, fun _ => c1⟩
      · intro A
        simp [Z.sseq, Z.snil, Z.sret, Z.sexp, Z.sasg, Z.spar, Z.sif, Z.spass, Z.sbrk, Z.scnt, Z.sthen_nx, Z.sthen_rt, Z.sthen_bk, Z.sthen_ct, Z.of_ok, Z.andThen_ok, Z.mb, Z.ok, Z.mo, Z.zvar, Z.zc, Z.zbin, Z.zneg, Z.zcmp, Z.zchn, Z.copM, Z.zbl, Z.ztru, Z.zand, Z.zor, Z.znot, Z.zandv, Z.zorv, Z.zite, Z.znil, Z.zcons, Z.ztup, Z.zix, Z.zlen, Z.zisi, Z.isiB, Z.zcall, Z.endD, Z.gnm, Z.gtup, Z.gcons, Z.gnil, Z.gc_self, Z.zallq, Z.zanyq, Z.zsumq, Z.zminq, Z.zmaxq, Z.zlenq, Z.ztupq, Z.zrow, Z.zst, Z.zof, Z.zofL, Z.zlst, Z.lstM, Z.zcomp, Z.zrng, Z.rngM, Z.zcat, Z.zrep, Z.zzip, Z.zsort, Z.zsortR, Z.zsortset, Z.zslT, Z.zslL, Z.znone, Z.zsome, Z.znew, Z.zfz, Z.alloc, Z.wipeD, Z.sfor, Z.zm1, Z.zm0, Z.bmD, Z.zdvm, Z.zabs, Z.zmx2, Z.zmn2, Z.zint, Z.zcnt, Z.gsub, Z.setD, Z.ztt, Z.seq_tup, Z.seq_lst, Z.lst_lst, Z.ty_non, Z.ty_bl, Z.ty_int, Z.ty_str, Z.ty_tup, Z.ty_lst, Z.tru_non, Z.tru_bl, Z.tru_int, Z.tru_tup, Z.tru_lst, Z.len_tup, Z.len_lst, Z.ix_int, Z.at_0, Z.at_1, Z.at_2, Z.at_3, Z.at_4, Z.add_ii, Z.sub_ii, Z.mul_ii, Z.fdiv_ii, Z.mod_ii, Z.pow_ii, Z.add_tt, Z.lt_ii, Z.le_ii, Z.gt_ii, Z.ge_ii, Z.eq_ii, Z.ne_ii, Z.eq_dd, Z.ne_dd, Z.isN_d, Z.notN_d, Z.wt_tup, Z.D.deq, hfl, e_within k cs f l A hz, hb, hs, hm2, SZ]
      · rw [Int.sub_mul]
        omega
    · refine ⟨m, fd, some (.int (l - f + 1)), some (.int (((cnt cs f l : Int) + (l - f + 1) - 1) / (l - f + 1))), ?_, by omega, hg, fun _ => ?_⟩
      · intro A
        simp [Z.sseq, Z.snil, Z.sret, Z.sexp, Z.sasg, Z.spar, Z.sif, Z.spass, Z.sbrk, Z.scnt, Z.sthen_nx, Z.sthen_rt, Z.sthen_bk, Z.sthen_ct, Z.of_ok, Z.andThen_ok, Z.mb, Z.ok, Z.mo, Z.zvar, Z.zc, Z.zbin, Z.zneg, Z.zcmp, Z.zchn, Z.copM, Z.zbl, Z.ztru, Z.zand, Z.zor, Z.znot, Z.zandv, Z.zorv, Z.zite, Z.znil, Z.zcons, Z.ztup, Z.zix, Z.zlen, Z.zisi, Z.isiB, Z.zcall, Z.endD, Z.gnm, Z.gtup, Z.gcons, Z.gnil, Z.gc_self, Z.zallq, Z.zanyq, Z.zsumq, Z.zminq, Z.zmaxq, Z.zlenq, Z.ztupq, Z.zrow, Z.zst, Z.zof, Z.zofL, Z.zlst, Z.lstM, Z.zcomp, Z.zrng, Z.rngM, Z.zcat, Z.zrep, Z.zzip, Z.zsort, Z.zsortR, Z.zsortset, Z.zslT, Z.zslL, Z.znone, Z.zsome, Z.znew, Z.zfz, Z.alloc, Z.wipeD, Z.sfor, Z.zm1, Z.zm0, Z.bmD, Z.zdvm, Z.zabs, Z.zmx2, Z.zmn2, Z.zint, Z.zcnt, Z.gsub, Z.setD, Z.ztt, Z.seq_tup, Z.seq_lst, Z.lst_lst, Z.ty_non, Z.ty_bl, Z.ty_int, Z.ty_str, Z.ty_tup, Z.ty_lst, Z.tru_non, Z.tru_bl, Z.tru_int, Z.tru_tup, Z.tru_lst, Z.len_tup, Z.len_lst, Z.ix_int, Z.at_0, Z.at_1, Z.at_2, Z.at_3, Z.at_4, Z.add_ii, Z.sub_ii, Z.mul_ii, Z.fdiv_ii, Z.mod_ii, Z.pow_ii, Z.add_tt, Z.lt_ii, Z.le_ii, Z.gt_ii, Z.ge_ii, Z.eq_ii, Z.ne_ii, Z.eq_dd, Z.ne_dd, Z.isN_d, Z.notN_d, Z.wt_tup, Z.D.deq, hfl, e_within k cs f l A hz, hb, hs, hm2]
      · refine Int.le_trans c1 (Int.mul_le_mul_of_nonneg_right (by omega) (by omega))
  · refine ⟨m, fd, s5, s6, ?_, by omega, hg, fun h => absurd h hfl⟩
    intro A
    simp [Z.sseq, Z.snil, Z.sret, Z.sexp, Z.sasg, Z.spar, Z.sif, Z.spass, Z.sbrk, Z.scnt, Z.sthen_nx, Z.sthen_rt, Z.sthen_bk, Z.sthen_ct, Z.of_ok, Z.andThen_ok, Z.mb, Z.ok, Z.mo, Z.zvar, Z.zc, Z.zbin, Z.zneg, Z.zcmp, Z.zchn, Z.copM, Z.zbl, Z.ztru, Z.zand, Z.zor, Z.znot, Z.zandv, Z.zorv, Z.zite, Z.znil, Z.zcons, Z.ztup, Z.zix, Z.zlen, Z.zisi, Z.isiB, Z.zcall, Z.endD, Z.gnm, Z.gtup, Z.gcons, Z.gnil, Z.gc_self, Z.zallq, Z.zanyq, Z.zsumq, Z.zminq, Z.zmaxq, Z.zlenq, Z.ztupq, Z.zrow, Z.zst, Z.zof, Z.zofL, Z.zlst, Z.lstM, Z.zcomp, Z.zrng, Z.rngM, Z.zcat, Z.zrep, Z.zzip, Z.zsort, Z.zsortR, Z.zsortset, Z.zslT, Z.zslL, Z.znone, Z.zsome, Z.znew, Z.zfz, Z.alloc, Z.wipeD, Z.sfor, Z.zm1, Z.zm0, Z.bmD, Z.zdvm, Z.zabs, Z.zmx2, Z.zmn2, Z.zint, Z.zcnt, Z.gsub, Z.setD, Z.ztt, Z.seq_tup, Z.seq_lst, Z.lst_lst, Z.ty_non, Z.ty_bl, Z.ty_int, Z.ty_str, Z.ty_tup, Z.ty_lst, Z.tru_non, Z.tru_bl, Z.tru_int, Z.tru_tup, Z.tru_lst, Z.len_tup, Z.len_lst, Z.ix_int, Z.at_0, Z.at_1, Z.at_2, Z.at_3, Z.at_4, Z.add_ii, Z.sub_ii, Z.mul_ii, Z.fdiv_ii, Z.mod_ii, Z.pow_ii, Z.add_tt, Z.lt_ii, Z.le_ii, Z.gt_ii, Z.ge_ii, Z.eq_ii, Z.ne_ii, Z.eq_dd, Z.ne_dd, Z.isN_d, Z.notN_d, Z.wt_tup, Z.D.deq, hfl]
theorem mem_srt {ns : List Int} {k : Int} : k ∈ (dd ns).mergeSort leZ ↔ k ∈ ns := by rw [(List.mergeSort_perm _ _).mem_iff, mem_dd]
theorem dd_len : ∀ ns : List Int, (dd ns).length ≤ ns.length
  | [] => Nat.le_refl _
  | n :: ns => by
    have := dd_len ns
    unfold dd
    split
    · rw [List.length_cons]; omega
    · rw [List.length_cons, List.length_cons]; omega
theorem e_wanted (k : Nat) (cs : List (Int × Int)) (h : CallsOk cs) : ∃ m fd, (∀ A, callN Pg (k + 2) i_wanted [csD cs] A = some (.ok (.tup [.int m, fd]) A)) ∧ 0 ≤ m ∧ Good cs m fd ∧ ∀ c ∈ cs, ∀ d ∈ cs, c.1 ≤ d.2 → cnt cs c.1 d.2 ≤ m * (d.2 - c.1 + 1) := by
  have hz := h.len
  have i1 : intsOf ((cs.map (·.1)).map D.int) = some (cs.map (·.1)) := intsOf_ints _
  have i2 : intsOf ((cs.map (·.2)).map D.int) = some (cs.map (·.2)) := intsOf_ints _
  have l1 : (cs.map (·.1)).length < 64 := by rw [List.length_map]; omega
  have l2 : (cs.map (·.2)).length < 64 := by rw [List.length_map]; omega
  -- the inner loop
  have inner : ∀ (f m : Int) (fd : D) (s4 s5 s6 s7 : Option D), 1 ≤ f → 0 ≤ m → Good cs m fd → ∃ m' fd' s4' s5' s6', (∀ A, forL [] (gnm 4) (bodyW (k + 1)) (((dd (cs.map (·.2))).mergeSort leZ).map .int) [some (csD cs), some (.int f), some (.int m), some fd, s4, s5, s6, s7] A
      = some (.nx [some (csD cs), some (.int f), some (.int m'), some fd', s4', s5', s6', s7] A)) ∧ m ≤ m' ∧ Good cs m' fd' ∧ ∀ l ∈ cs.map (·.2), f ≤ l → cnt cs f l ≤ m' * (l - f + 1) := by
    intro f m fd s4 s5 s6 s7 hf hm hg
    obtain ⟨σ', h1, rest, m', fd', s4', s5', s6', rfl, e, hm', hg', hd⟩ := forL_pure (g := gnm 4) (b := bodyW (k + 1))
      (fun xs σ => ∃ rest m' fd' s4' s5' s6', σ = [some (csD cs), some (.int f), some (.int m'), some fd', s4', s5', s6', s7] ∧ xs = rest.map D.int ∧ m ≤ m' ∧ Good cs m' fd' ∧
        ∃ dn, (dd (cs.map (·.2))).mergeSort leZ = dn ++ rest ∧ ∀ l ∈ dn, f ≤ l → cnt cs f l ≤ m' * (l - f + 1))
      (fun x xs σ ⟨rest, m', fd', s4', s5', s6', hs, hx, hm', hg', dn, hd1, hd2⟩ => by
        subst hs
        cases rest with
        | nil => cases hx
        | cons l rest =>
          simp only [List.map_cons, List.cons.injEq] at hx
          obtain ⟨rfl, rfl⟩ := hx
          have hl : l ∈ cs.map (·.2) := mem_srt.mp (by rw [hd1]; simp)
          obtain ⟨c, hc, rfl⟩ := List.mem_map.mp hl
          obtain ⟨m2, fd2, s5b, s6b, q1, q2, q3, q4⟩ := w_step k cs hz f c.2 m' fd' s5' s6' s7 hf (h.in_ c hc).2.2 (by omega) hg'
          refine ⟨_, _, fun _ => rfl, q1, rest, m2, fd2, _, s5b, s6b, rfl, rfl, by omega, q3, dn ++ [c.2], by rw [hd1]; simp, fun l hl hfl => ?_⟩
          rcases List.mem_append.mp hl with hl | hl
          · exact Int.le_trans (hd2 l hl hfl) (Int.mul_le_mul_of_nonneg_right q2 (by omega))
          · rw [List.mem_singleton] at hl
            subst hl
            exact q4 hfl)
      (((dd (cs.map (·.2))).mergeSort leZ).map .int) [some (csD cs), some (.int f), some (.int m), some fd, s4, s5, s6, s7] ⟨_, m, fd, s4, s5, s6, rfl, rfl, Int.le_refl _, hg, [], rfl, fun l hl => nomatch hl⟩
    obtain ⟨dn, hd1, hd2⟩ := hd
    have er : rest = [] := by cases rest with
      | nil => rfl
      | cons _ _ => cases e
    subst er
    rw [List.append_nil] at hd1
    exact ⟨m', fd', s4', s5', s6', h1, hm', hg', fun l hl => hd2 l (by rw [← hd1]; exact mem_srt.mpr hl)⟩
  -- the outer loop
  obtain ⟨σ', h1, rest, m', fd', s1, s4', s5', s6', s7, rfl, e, hm', hg', hd⟩ := forL_pure (g := gnm 1) (b := sseq (sfor (gnm 4) (zst (zsortset (zcomp [7] (gnm 7) (zof (zvar 0)) ztt (zix (zvar 7) (zc (.int 1)))))) (bodyW (k + 1))) snil)
    (fun xs σ => ∃ rest m' fd' s1 s4' s5' s6' s7, σ = [some (csD cs), s1, some (.int m'), some fd', s4', s5', s6', s7] ∧ xs = rest.map D.int ∧ 0 ≤ m' ∧ Good cs m' fd' ∧
      ∃ dn, (dd (cs.map (·.1))).mergeSort leZ = dn ++ rest ∧ ∀ f ∈ dn, ∀ l ∈ cs.map (·.2), f ≤ l → cnt cs f l ≤ m' * (l - f + 1))
    (fun x xs σ ⟨rest, m', fd', s1, s4', s5', s6', s7, hs, hx, hm', hg', dn, hd1, hd2⟩ => by
      subst hs
      cases rest with
      | nil => cases hx
      | cons f rest =>
        simp only [List.map_cons, List.cons.injEq] at hx
        obtain ⟨rfl, rfl⟩ := hx
        have hf : f ∈ cs.map (·.1) := mem_srt.mp (by rw [hd1]; simp)
        obtain ⟨c, hc, rfl⟩ := List.mem_map.mp hf
        obtain ⟨m2, fd2, s4b, s5b, s6b, q1, q2, q3, q4⟩ := inner c.1 m' fd' s4' s5' s6' s7 (h.in_ c hc).1 hm' hg'
        have hc2 := fun A => comp_ix1 (σ := [some (csD cs), some (.int c.1), some (.int m'), some fd', s4', s5', s6', none]) (A := A) 7 hz (by show 7 < 8; decide)
        refine ⟨_, [some (csD cs), some (.int c.1), some (.int m2), some fd2, s4b, s5b, s6b, s7], fun _ => rfl, ?_, rest, m2, fd2, _, s4b, s5b, s6b, s7, rfl, rfl, by omega, q3, dn ++ [c.1], by rw [hd1]; simp, fun f hf l hl hfl => ?_⟩
        · intro A
          simp [Z.sseq, Z.snil, Z.sret, Z.sexp, Z.sasg, Z.spar, Z.sif, Z.spass, Z.sbrk, Z.scnt, Z.sthen_nx, Z.sthen_rt, Z.sthen_bk, Z.sthen_ct, Z.of_ok, Z.andThen_ok, Z.mb, Z.ok, Z.mo, Z.zvar, Z.zc, Z.zbin, Z.zneg, Z.zcmp, Z.zchn, Z.copM, Z.zbl, Z.ztru, Z.zand, Z.zor, Z.znot, Z.zandv, Z.zorv, Z.zite, Z.znil, Z.zcons, Z.ztup, Z.zix, Z.zlen, Z.zisi, Z.isiB, Z.zcall, Z.endD, Z.gnm, Z.gtup, Z.gcons, Z.gnil, Z.gc_self, Z.zallq, Z.zanyq, Z.zsumq, Z.zminq, Z.zmaxq, Z.zlenq, Z.ztupq, Z.zrow, Z.zst, Z.zof, Z.zofL, Z.zlst, Z.lstM, Z.zcomp, Z.zrng, Z.rngM, Z.zcat, Z.zrep, Z.zzip, Z.zsort, Z.zsortR, Z.zsortset, Z.zslT, Z.zslL, Z.znone, Z.zsome, Z.znew, Z.zfz, Z.alloc, Z.wipeD, Z.sfor, Z.zm1, Z.zm0, Z.bmD, Z.zdvm, Z.zabs, Z.zmx2, Z.zmn2, Z.zint, Z.zcnt, Z.gsub, Z.setD, Z.ztt, Z.seq_tup, Z.seq_lst, Z.lst_lst, Z.ty_non, Z.ty_bl, Z.ty_int, Z.ty_str, Z.ty_tup, Z.ty_lst, Z.tru_non, Z.tru_bl, Z.tru_int, Z.tru_tup, Z.tru_lst, Z.len_tup, Z.len_lst, Z.ix_int, Z.at_0, Z.at_1, Z.at_2, Z.at_3, Z.at_4, Z.add_ii, Z.sub_ii, Z.mul_ii, Z.fdiv_ii, Z.mod_ii, Z.pow_ii, Z.add_tt, Z.lt_ii, Z.le_ii, Z.gt_ii, Z.ge_ii, Z.eq_ii, Z.ne_ii, Z.eq_dd, Z.ne_dd, Z.isN_d, Z.notN_d, Z.wt_tup, Z.D.deq, seq_cs, hc2, i2, l2, q1, -List.map_map, -List.length_map]
        · rcases List.mem_append.mp hf with hf | hf
          · exact Int.le_trans (hd2 f hf l hl hfl) (Int.mul_le_mul_of_nonneg_right q2 (by omega))
          · rw [List.mem_singleton] at hf
            subst hf
            exact q4 l hl hfl)
    (((dd (cs.map (·.1))).mergeSort leZ).map .int) [some (csD cs), none, some (.int 0), some .non, none, none, none, none] ⟨_, 0, .non, none, none, none, none, none, rfl, rfl, Int.le_refl _, .inl ⟨rfl, rfl⟩, [], rfl, fun l hl => nomatch hl⟩
  obtain ⟨dn, hd1, hd2⟩ := hd
  have er : rest = [] := by cases rest with
    | nil => rfl
    | cons _ _ => cases e
  subst er
  rw [List.append_nil] at hd1
  refine ⟨m', fd', ?_, hm', hg', fun c hc d hd => hd2 c.1 (by rw [← hd1]; exact mem_srt.mpr (List.mem_map.mpr ⟨c, hc, rfl⟩)) d.2 (List.mem_map.mpr ⟨d, hd, rfl⟩)⟩
  intro A
  rw [c_wanted, mb_wanted]
  have hc1 := comp_ix0 (σ := [some (csD cs), none, some (.int 0), some .non, none, none, none, none]) (A := A) 7 hz (by show 7 < 8; decide)
  unfold bodyW at h1
  simp [Z.sseq, Z.snil, Z.sret, Z.sexp, Z.sasg, Z.spar, Z.sif, Z.spass, Z.sbrk, Z.scnt, Z.sthen_nx, Z.sthen_rt, Z.sthen_bk, Z.sthen_ct, Z.of_ok, Z.andThen_ok, Z.mb, Z.ok, Z.mo, Z.zvar, Z.zc, Z.zbin, Z.zneg, Z.zcmp, Z.zchn, Z.copM, Z.zbl, Z.ztru, Z.zand, Z.zor, Z.znot, Z.zandv, Z.zorv, Z.zite, Z.znil, Z.zcons, Z.ztup, Z.zix, Z.zlen, Z.zisi, Z.isiB, Z.zcall, Z.endD, Z.gnm, Z.gtup, Z.gcons, Z.gnil, Z.gc_self, Z.zallq, Z.zanyq, Z.zsumq, Z.zminq, Z.zmaxq, Z.zlenq, Z.ztupq, Z.zrow, Z.zst, Z.zof, Z.zofL, Z.zlst, Z.lstM, Z.zcomp, Z.zrng, Z.rngM, Z.zcat, Z.zrep, Z.zzip, Z.zsort, Z.zsortR, Z.zsortset, Z.zslT, Z.zslL, Z.znone, Z.zsome, Z.znew, Z.zfz, Z.alloc, Z.wipeD, Z.sfor, Z.zm1, Z.zm0, Z.bmD, Z.zdvm, Z.zabs, Z.zmx2, Z.zmn2, Z.zint, Z.zcnt, Z.gsub, Z.setD, Z.ztt, Z.seq_tup, Z.seq_lst, Z.lst_lst, Z.ty_non, Z.ty_bl, Z.ty_int, Z.ty_str, Z.ty_tup, Z.ty_lst, Z.tru_non, Z.tru_bl, Z.tru_int, Z.tru_tup, Z.tru_lst, Z.len_tup, Z.len_lst, Z.ix_int, Z.at_0, Z.at_1, Z.at_2, Z.at_3, Z.at_4, Z.add_ii, Z.sub_ii, Z.mul_ii, Z.fdiv_ii, Z.mod_ii, Z.pow_ii, Z.add_tt, Z.lt_ii, Z.le_ii, Z.gt_ii, Z.ge_ii, Z.eq_ii, Z.ne_ii, Z.eq_dd, Z.ne_dd, Z.isN_d, Z.notN_d, Z.wt_tup, Z.D.deq, seq_cs, hc1, i1, l1, h1, SZ, -List.map_map, -List.length_map]
end Zp

set_option maxHeartbeats 2000000
namespace Zp
open PySem Z Zq
def lD (ls : List Nat) : List D := ls.map fun (i : Nat) => D.int i
def hp (A : Hh) (pl : List D) (ls : List Nat) : Hh := A ++ [.lst pl, .lst (lD ls)]
section
variable (A : Hh) (pl pl' : List D) (ls ls' : List Nat)
theorem hp_0 : (hp A pl ls)[A.length]? = some (.lst pl) := by
  unfold hp
  rw [List.getElem?_append_right (Nat.le_refl _), Nat.sub_self]
  rfl
theorem hp_1 : (hp A pl ls)[A.length + 1]? = some (.lst (lD ls)) := by
  unfold hp
  rw [List.getElem?_append_right (by omega), show A.length + 1 - A.length = 1 by omega]
  rfl
theorem hp_s0 : (hp A pl ls).set A.length (.lst pl') = hp A pl' ls := by
  unfold hp
  rw [List.set_append_right _ _ (Nat.le_refl _), Nat.sub_self]
  rfl
theorem hp_s1 : (hp A pl ls).set (A.length + 1) (.lst (lD ls')) = hp A pl ls' := by
  unfold hp
  rw [List.set_append_right _ _ (by omega), show A.length + 1 - A.length = 1 by omega]
  rfl
theorem hp_w : wOk [(A.length + 1, lD ls)] (hp A pl ls) = true := by
  unfold wOk
  simp only [List.all_cons, List.all_nil, Bool.and_true, hp_1]
  exact (D.deqs_iff _ _).mpr rfl
end
theorem lD_ints (ls : List Nat) : intsOf (lD ls) = some (ls.map fun (i : Nat) => (i : Int)) := by
  have : lD ls = (ls.map fun (i : Nat) => (i : Int)).map D.int := by unfold lD; rw [List.map_map]; rfl
  rw [this, intsOf_ints]
theorem erase_lD : ∀ (ls : List Nat) (j : Nat), (lD ls).eraseIdx j = lD (ls.eraseIdx j)
  | [], j => by simp [lD]
  | a :: ls, 0 => rfl
  | a :: ls, j + 1 => by
    show D.int a :: (lD ls).eraseIdx j = D.int a :: lD (ls.eraseIdx j)
    rw [erase_lD ls j]
theorem erase_perm : ∀ (ls : List Nat) (j k : Nat), ls[j]? = some k → ls.Perm (k :: ls.eraseIdx j)
  | [], j, k, h => by cases h
  | a :: ls, 0, k, h => by cases h; exact .refl _
  | a :: ls, j + 1, k, h => by
    have h' : ls[j]? = some k := h
    exact ((erase_perm ls j k h').cons a).trans (.swap _ _ _)
theorem remove_lD (ls : List Nat) (k : Nat) (hk : k ∈ ls) : ∃ ls', (∀ (A : Hh) (pl : List D), bmD .remove (.ref (A.length + 1)) [.int k] (hp A pl ls) = some (.ok .non (hp A pl ls'))) ∧ ls.Perm (k :: ls') := by
  have : ∃ j, (ls.map fun (i : Nat) => (i : Int)).findIdx? (fun m => decide (m = (k : Int))) = some j := by
    cases q : (ls.map fun (i : Nat) => (i : Int)).findIdx? (fun m => decide (m = (k : Int))) with
    | some j => exact ⟨j, rfl⟩
    | none =>
      have := List.findIdx?_eq_none_iff.mp q (k : Int) (List.mem_map.mpr ⟨k, hk, rfl⟩)
      simp at this
  obtain ⟨j, hj⟩ := this
  refine ⟨ls.eraseIdx j, ?_, ?_⟩
  · intro A pl
    simp only [bmD, hp_1, lD_ints, hj, erase_lD, hp_s1]
  · have h2 := (findIdx_at hj).1
    rw [List.getElem?_map] at h2
    obtain ⟨k', h3, h4⟩ := Option.map_eq_some_iff.mp h2
    have : k' = k := by omega
    rw [this] at h3
    exact erase_perm ls j k h3
noncomputable def bodyF : Sv := (sseq (sasg (gsub (zvar 2) (zvar 7)) (zvar 3)) (sseq (sexp (zm1 .remove (zvar 4) (zvar 7))) snil))
theorem ixN_nat {n k : Nat} (h : k < n) : L2.ixN n (k : Int) = some k := by
  unfold L2.ixN
  simp [h]
theorem pl_for (cs : Cs) (m B : Int) (rd : D) : ∀ (ks : List Nat) (pl : List D) (ls : List Nat) (s6 s7 : Option D), (∀ k ∈ ks, k < pl.length) → ks.Nodup → (∃ r, ls.Perm (ks ++ r)) →
    ∃ pl' ls' s6' s7', (∀ A : Hh, forL [] (gtup 2 (gcons (gnm 6) (gcons (gnm 7) gnil))) bodyF (ks.map fun k => tupD [ce cs k, (k : Int)]) [some (csD cs), some (.int m), some (.ref A.length), some (.int B), some (.ref (A.length + 1)), some rd, s6, s7] (hp A pl ls)
        = some (.nx [some (csD cs), some (.int m), some (.ref A.length), some (.int B), some (.ref (A.length + 1)), some rd, s6', s7'] (hp A pl' ls'))) ∧
      ls.Perm (ks ++ ls') ∧ pl'.length = pl.length ∧ (∀ k ∈ ks, pl'[k]? = some (.int B)) ∧ ∀ i, i ∉ ks → pl'[i]? = pl[i]?
  | [], pl, ls, s6, s7, _, _, _ => ⟨pl, ls, s6, s7, fun _ => rfl, .refl _, rfl, (fun k h => absurd h List.not_mem_nil), fun _ _ => rfl⟩
  | k :: ks, pl, ls, s6, s7, hl, nd, ⟨r, hr⟩ => by
    have hk := hl k (List.mem_cons_self ..)
    obtain ⟨ls1, e1, p1⟩ := remove_lD ls k (hr.mem_iff.mpr (by simp))
    obtain ⟨nk, nd2⟩ := List.nodup_cons.mp nd
    have hr2 : ls1.Perm (ks ++ r) := (p1.symm.trans hr).cons_inv
    obtain ⟨pl', ls', s6', s7', q1, q2, q3, q4, q5⟩ := pl_for cs m B rd ks (pl.set k (.int B)) ls1 (some (.int (ce cs k))) (some (.int k)) (fun j hj => by rw [List.length_set]; exact hl j (List.mem_cons_of_mem _ hj)) nd2 ⟨r, hr2⟩
    have b1 : ∀ A : Hh, bodyF [some (csD cs), some (.int m), some (.ref A.length), some (.int B), some (.ref (A.length + 1)), some rd, some (.int (ce cs k)), some (.int k)] (hp A pl ls)
        = some (.nx [some (csD cs), some (.int m), some (.ref A.length), some (.int B), some (.ref (A.length + 1)), some rd, some (.int (ce cs k)), some (.int k)] (hp A (pl.set k (.int B)) ls1)) := by
      intro A
      have l1 := lst_ref (hp_1 A (pl.set k (.int B)) ls)
      unfold bodyF
      simp [sseq, snil, sasg, sexp, gsub, mb, zvar, ok, andThen_ok, of_ok, sthen_nx, setD, hp_0, ixN_nat hk, hp_s0, zm1, l1, e1]
    refine ⟨pl', ls', s6', s7', ?_, p1.trans ((q2.cons k)), by rw [q3, List.length_set], fun j hj => ?_, fun i hi => ?_⟩
    · intro A
      rw [List.map_cons]
      have g1 : gtup 2 (gcons (gnm 6) (gcons (gnm 7) gnil)) (tupD [ce cs k, (k : Int)]) [some (csD cs), some (.int m), some (.ref A.length), some (.int B), some (.ref (A.length + 1)), some rd, s6, s7] (hp A pl ls)
          = some (.ok [some (csD cs), some (.int m), some (.ref A.length), some (.int B), some (.ref (A.length + 1)), some rd, some (.int (ce cs k)), some (.int k)] (hp A pl ls)) := rfl
      simp only [forL, wOk, List.all_nil, if_true, g1, b1]
      exact q1 A
    · rcases List.mem_cons.mp hj with e | e
      · subst e
        rw [q5 j nk, List.getElem?_set_self hk]
      · exact q4 j e
    · rw [List.mem_cons, not_or] at hi
      rw [q5 i hi.2, List.getElem?_set_ne (Ne.symm hi.1)]

theorem ca_at {cs : Cs} {i : Nat} (h : i < cs.length) : (cs.map cD)[i]? = some (.tup [.int (ca cs i), .int (ce cs i)]) := by
  rw [List.getElem?_map, List.getElem?_eq_getElem h]
  unfold ca ce
  rw [List.getElem?_eq_getElem h]
  rfl
theorem comp_ca {σ : Sl} {A : Hh} {cs : Cs} {ls : List Nat} {w : Wt} (hw : wOk w A = true) (h0 : σ[0]? = some (some (csD cs))) (h7 : 7 < σ.length) (hlt : ∀ i ∈ ls, i < cs.length) (hz : ls.length < SZ) :
    compL σ w (gnm 7) ztt (zix (zix (zvar 0) (zvar 7)) (zc (.int 0))) (lD ls) [] A = some (.ok ((ls.map fun i => ca cs i).map .int) A) := by
  rw [compL_mapW hw (fun x => σ.set 7 (some x)) (fun _ => true) (fun d => match d with | .int i => .int (ca cs i.toNat) | _ => .non) _ _ (fun x hx => ?_) (by simpa [lD] using hz), filter_true, lD, List.map_map, List.map_map]
  · simp [Function.comp_def]
  · obtain ⟨i, hi, rfl⟩ := List.mem_map.mp hx
    have e7 : (σ.set 7 (some (.int (i : Int))))[7]? = some (some (.int i)) := List.getElem?_set_self h7
    have e0 : (σ.set 7 (some (.int (i : Int))))[0]? = some (some (csD cs)) := by rw [List.getElem?_set_ne (by decide), h0]
    refine ⟨rfl, rfl, fun _ => ?_⟩
    simp only [zix, mb, zvar, e7, e0, ok, andThen_ok, zc, ix_int, seq_cs, Option.bind_some, at_nat, ca_at (hlt i hi), Option.map_some, seq_tup, at_0, List.getElem?_cons_zero, Int.toNat_natCast]
theorem comp_rd {σ : Sl} {A : Hh} {cs : Cs} {ls : List Nat} {w : Wt} {B : Int} (hw : wOk w A = true) (h0 : σ[0]? = some (some (csD cs))) (h3 : σ[3]? = some (some (.int B))) (h7 : 7 < σ.length) (hlt : ∀ i ∈ ls, i < cs.length) (hz : ls.length < SZ) :
    compL σ w (gnm 7) (zcmp .le (zix (zix (zvar 0) (zvar 7)) (zc (.int 0))) (zvar 3)) (ztup (zcons (zix (zix (zvar 0) (zvar 7)) (zc (.int 1))) (zcons (zvar 7) znil))) (lD ls) [] A
      = some (.ok ((ls.filter fun i => decide (ca cs i ≤ B)).map fun i => tupD [ce cs i, (i : Int)]) A) := by
  rw [compL_mapW hw (fun x => σ.set 7 (some x)) (fun d => match d with | .int i => decide (ca cs i.toNat ≤ B) | _ => false) (fun d => match d with | .int i => tupD [ce cs i.toNat, i] | _ => .non) _ _ (fun x hx => ?_) (by simpa [lD] using hz), lD, List.filter_map, List.map_map]
  · simp [Function.comp_def]
  · obtain ⟨i, hi, rfl⟩ := List.mem_map.mp hx
    have e7 : (σ.set 7 (some (.int (i : Int))))[7]? = some (some (.int i)) := List.getElem?_set_self h7
    have e0 : (σ.set 7 (some (.int (i : Int))))[0]? = some (some (csD cs)) := by rw [List.getElem?_set_ne (by decide), h0]
    have e3 : (σ.set 7 (some (.int (i : Int))))[3]? = some (some (.int B)) := by rw [List.getElem?_set_ne (by decide), h3]
    refine ⟨rfl, ?_, fun _ => ?_⟩
    · simp only [zcmp, zix, mb, zvar, e7, e0, e3, ok, andThen_ok, zc, ix_int, seq_cs, Option.bind_some, at_nat, ca_at (hlt i hi), Option.map_some, seq_tup, at_0, List.getElem?_cons_zero, Int.toNat_natCast, copM, le_ii]
    · simp [ztup, zcons, znil, zix, mb, zvar, e7, e0, e3, ok, andThen_ok, zc, ix_int, seq_cs, at_nat, List.getElem?_map, ca_at (hlt i hi), seq_tup, at_1, SZ, tupD]
theorem tupsOf_tupD : ∀ ts : List (List Int), tupsOf (ts.map tupD) = some ts
  | [] => rfl
  | t :: ts => by
    show (match intsOf (t.map D.int), tupsOf (ts.map tupD) with
      | some n, some ns => some (n :: ns)
      | _, _ => none) = _
    rw [intsOf_ints, tupsOf_tupD ts]
theorem leL_fst {a b c d : Int} (h : leL [a, b] [c, d] = true) : a ≤ c := by
  unfold leL at h
  rw [Bool.not_eq_true', HT.lexLt_cons] at h
  by_cases e : c = a
  · omega
  · rw [if_neg e] at h
    have := of_decide_eq_false h
    omega
theorem sort_rd {cs : Cs} {rs : List Nat} (hne : rs ≠ []) (hz : rs.length < 64) (hb : ∀ i ∈ rs, 0 ≤ ce cs i ∧ ce cs i ≤ BG) (hn : ∀ i ∈ rs, i < 64) :
    ∃ qs : List Nat, sortD (rs.map fun i => tupD [ce cs i, (i : Int)]) = some (qs.map fun i => tupD [ce cs i, (i : Int)]) ∧ qs.Perm rs ∧ qs.Pairwise fun i j => ce cs i ≤ ce cs j := by
  have hm : (rs.map fun i => tupD [ce cs i, (i : Int)]) = (rs.map fun i => [ce cs i, (i : Int)]).map tupD := by rw [List.map_map]; rfl
  have hs : sortD (rs.map fun i => tupD [ce cs i, (i : Int)]) = some (((rs.map fun i => [ce cs i, (i : Int)]).mergeSort leL).map tupD) := by
    rw [hm]
    exact sortD_tups fun t ht => by
      obtain ⟨i, _, rfl⟩ := List.mem_map.mp ht
      simp
  have pm : ((rs.map fun i => [ce cs i, (i : Int)]).mergeSort leL).Perm (rs.map fun i => [ce cs i, (i : Int)]) := List.mergeSort_perm _ _
  have pw := List.pairwise_mergeSort leL_trans leL_total (rs.map fun i => [ce cs i, (i : Int)])
  refine ⟨((rs.map fun i => [ce cs i, (i : Int)]).mergeSort leL).map fun t => (t.getD 1 0).toNat, ?_, ?_, ?_⟩
  · rw [hs, List.map_map]
    congr 1
    refine List.map_congr_left fun t ht => ?_
    obtain ⟨i, hi, rfl⟩ := List.mem_map.mp (pm.mem_iff.mp ht)
    simp
  · have := pm.map fun t => (t.getD 1 0).toNat
    rw [List.map_map] at this
    have e : (rs.map ((fun t => (t.getD 1 0).toNat) ∘ fun (i : Nat) => [ce cs i, (i : Int)])) = rs := by
      have : ((fun t => (t.getD 1 0).toNat) ∘ fun (i : Nat) => [ce cs i, (i : Int)]) = id := by funext i; simp
      rw [this, List.map_id]
    rw [e] at this
    exact this
  · rw [List.pairwise_map]
    refine List.Pairwise.imp_of_mem (fun {u v} hu hv h => ?_) pw
    obtain ⟨i, _, rfl⟩ := List.mem_map.mp (pm.mem_iff.mp hu)
    obtain ⟨j, _, rfl⟩ := List.mem_map.mp (pm.mem_iff.mp hv)
    simpa using leL_fst h
end Zp

set_option maxHeartbeats 2000000
namespace Zp
open PySem Z Zq
noncomputable def bodyP : Sv := (sseq (sasg (gnm 3) (zmx2 (zbin .add (zvar 3) (zc (.int 1))) (zminq (zcomp [7] (gnm 7) (zof (zvar 4)) ztt (zix (zix (zvar 0) (zvar 7)) (zc (.int 0)))))))
 (sseq (sasg (gnm 5) (zfz (zsort (zcomp [7] (gnm 7) (zof (zvar 4)) (zcmp .le (zix (zix (zvar 0) (zvar 7)) (zc (.int 0))) (zvar 3)) (ztup (zcons (zix (zix (zvar 0) (zvar 7)) (zc (.int 1))) (zcons (zvar 7) znil)))))))
 (sseq (sfor (gtup 2 (gcons (gnm 6) (gcons (gnm 7) gnil))) (zst (zslL (zvar 5) znone (zsome (zvar 1)))) bodyF)
 snil)))
theorem cut_take (xs : List D) (m : Nat) : cutD xs none (some (m : Int)) = xs.take m := by
  unfold cutD
  rw [HT.sIx_none, HT.sIx_nat, List.drop_zero, Nat.sub_zero]
  rcases Nat.le_total m xs.length with h | h
  · rw [Nat.min_eq_left h]
  · rw [Nat.min_eq_right h, List.take_of_length_le (Nat.le_refl _), List.take_of_length_le h]
theorem ce_in {cs : Cs} (h : CallsOk cs) {i : Nat} (hi : i < cs.length) : 1 ≤ ca cs i ∧ ca cs i ≤ ce cs i ∧ ce cs i ≤ BG := by
  unfold ca ce
  rw [List.getElem?_eq_getElem hi]
  exact h.in_ _ (List.getElem_mem hi)
theorem pl_turn (cs : Cs) (m : Nat) (b : Int) (ls : List Nat) (pl : List D) (s5 s6 s7 : Option D) (h : CallsOk cs) (hm : 1 ≤ m) (I : PI cs m b ls pl) (hne : ls ≠ []) :
    ∃ B pl' ls' s5' s6' s7', (∀ A : Hh, bodyP [some (csD cs), some (.int m), some (.ref A.length), some (.int b), some (.ref (A.length + 1)), s5, s6, s7] (hp A pl ls)
        = some (.nx [some (csD cs), some (.int m), some (.ref A.length), some (.int B), some (.ref (A.length + 1)), s5', s6', s7'] (hp A pl' ls'))) ∧ PI cs m B ls' pl' ∧ ls'.length < ls.length := by
  have hz := h.len
  have lz : ls.length ≤ 12 := by
    have := List.Nodup.length_le_of_subset I.nd (l₂ := List.range cs.length) fun i hi => List.mem_range.mpr (I.lt i hi)
    rw [List.length_range] at this
    omega
  have lz2 : ls.length < SZ := by unfold SZ; omega
  -- the least beginning
  obtain ⟨M, eM, hM1, hM2⟩ : ∃ M, minI (ls.map fun i => ca cs i) = some M ∧ (∀ i ∈ ls, M ≤ ca cs i) ∧ ∃ i ∈ ls, ca cs i = M := by
    cases hl : ls with
    | nil => exact absurd hl hne
    | cons a r =>
      obtain ⟨f1, f2, f3⟩ := foldl_min (r.map fun i => ca cs i) (ca cs a)
      refine ⟨_, rfl, fun i hi => ?_, ?_⟩
      · rcases List.mem_cons.mp hi with e | e
        · subst e; exact f2
        · exact f3 _ (List.mem_map.mpr ⟨i, e, rfl⟩)
      · rcases f1 with f1 | f1
        · exact ⟨a, List.mem_cons_self .., f1.symm⟩
        · obtain ⟨i, hi, e⟩ := List.mem_map.mp f1
          exact ⟨i, List.mem_cons_of_mem _ hi, e⟩
  have hB : ∃ B, B = max (b + 1) M := ⟨_, rfl⟩
  obtain ⟨B, hB⟩ := hB
  -- what is ready
  have rne : (ls.filter fun i => decide (ca cs i ≤ B)) ≠ [] := fun e => by
    obtain ⟨i, hi, h2⟩ := hM2
    have : i ∈ ls.filter fun i => decide (ca cs i ≤ B) := List.mem_filter.mpr ⟨hi, decide_eq_true (by omega)⟩
    rw [e] at this
    cases this
  obtain ⟨qs, q1, q2, q3⟩ := sort_rd (cs := cs) rne (by have := List.length_filter_le (fun i => decide (ca cs i ≤ B)) ls; omega)
    (fun i hi => by
      have := ce_in h (I.lt i (List.mem_filter.mp hi).1)
      omega) (fun i hi => by
      have := I.lt i (List.mem_filter.mp hi).1
      omega)
  have qnd : qs.Nodup := q2.nodup_iff.mpr (I.nd.filter _)
  have tnd : (qs.take m).Nodup := (List.take_sublist m qs).nodup qnd
  have tin : ∀ i ∈ qs.take m, i ∈ ls := fun i hi => (List.mem_filter.mp (q2.mem_iff.mp (List.mem_of_mem_take hi))).1
  have tr : ∃ r, ls.Perm (qs.take m ++ r) := by
    refine ⟨ls.filter fun i => decide (i ∉ qs.take m), ?_⟩
    refine (List.perm_ext_iff_of_nodup I.nd (List.nodup_append.mpr ⟨tnd, I.nd.filter _, fun a ha b hb e => ?_⟩)).mpr fun i => ?_
    · subst e
      have := (List.mem_filter.mp hb).2
      exact of_decide_eq_true this ha
    · rw [List.mem_append, List.mem_filter, decide_eq_true_eq]
      constructor
      · intro hi
        by_cases hk : i ∈ qs.take m
        · exact .inl hk
        · exact .inr ⟨hi, hk⟩
      · rintro (hi | ⟨hi, _⟩)
        · exact tin i hi
        · exact hi
  obtain ⟨pl', ls', s6', s7', f1, f2, f3, f4, f5⟩ := pl_for cs m B (.lst (qs.map fun i => tupD [ce cs i, (i : Int)])) (qs.take m) pl ls s6 s7 (fun k hk => by rw [I.len]; exact I.lt k (tin k hk)) tnd tr
  have T := turn (cs := cs) (m := m) (b := b) (M := M) (ls := ls) (ls' := ls') (rs := qs) (pl := pl) (pl' := pl') (fun i hi => (ce_in h hi).2.1) I hm hM1 hM2 (by rw [← hB]; exact q2) q3 f2 f3 (by rw [← hB]; exact f4) f5
  rw [← hB] at T
  refine ⟨B, pl', ls', some (.lst (qs.map fun i => tupD [ce cs i, (i : Int)])), s6', s7', ?_, T⟩
  intro A
  have hw := hp_w A pl ls
  have hs1 := seq_ref (hp_1 A pl ls)
  have c1 := comp_ca (σ := [some (csD cs), some (.int m), some (.ref A.length), some (.int b), some (.ref (A.length + 1)), s5, s6, none]) (A := hp A pl ls) (cs := cs) (ls := ls) hw rfl (by show 7 < 8; decide) I.lt lz2
  have c2 := comp_rd (σ := [some (csD cs), some (.int m), some (.ref A.length), some (.int B), some (.ref (A.length + 1)), s5, s6, none]) (A := hp A pl ls) (cs := cs) (ls := ls) (B := B) hw rfl rfl (by show 7 < 8; decide) I.lt lz2
  have i1 : intsOf ((ls.map fun i => ca cs i).map D.int) = some (ls.map fun i => ca cs i) := intsOf_ints _
  unfold bodyP
  simp [Z.sseq, Z.snil, Z.sret, Z.sexp, Z.sasg, Z.spar, Z.sif, Z.spass, Z.sbrk, Z.scnt, Z.sthen_nx, Z.sthen_rt, Z.sthen_bk, Z.sthen_ct, Z.of_ok, Z.andThen_ok, Z.mb, Z.ok, Z.mo, Z.zvar, Z.zc, Z.zbin, Z.zneg, Z.zcmp, Z.zchn, Z.copM, Z.zbl, Z.ztru, Z.zand, Z.zor, Z.znot, Z.zandv, Z.zorv, Z.zite, Z.znil, Z.zcons, Z.ztup, Z.zix, Z.zlen, Z.zisi, Z.isiB, Z.zcall, Z.endD, Z.gnm, Z.gtup, Z.gcons, Z.gnil, Z.gc_self, Z.zallq, Z.zanyq, Z.zsumq, Z.zminq, Z.zmaxq, Z.zlenq, Z.ztupq, Z.zrow, Z.zst, Z.zof, Z.zofL, Z.zlst, Z.lstM, Z.zcomp, Z.zrng, Z.rngM, Z.zcat, Z.zrep, Z.zzip, Z.zsort, Z.zsortR, Z.zsortset, Z.zslT, Z.zslL, Z.znone, Z.zsome, Z.znew, Z.zfz, Z.alloc, Z.wipeD, Z.sfor, Z.zm1, Z.zm0, Z.bmD, Z.zdvm, Z.zabs, Z.zmx2, Z.zmn2, Z.zint, Z.zcnt, Z.gsub, Z.setD, Z.ztt, Z.seq_tup, Z.seq_lst, Z.lst_lst, Z.ty_non, Z.ty_bl, Z.ty_int, Z.ty_str, Z.ty_tup, Z.ty_lst, Z.tru_non, Z.tru_bl, Z.tru_int, Z.tru_tup, Z.tru_lst, Z.len_tup, Z.len_lst, Z.ix_int, Z.at_0, Z.at_1, Z.at_2, Z.at_3, Z.at_4, Z.add_ii, Z.sub_ii, Z.mul_ii, Z.fdiv_ii, Z.mod_ii, Z.pow_ii, Z.add_tt, Z.lt_ii, Z.le_ii, Z.gt_ii, Z.ge_ii, Z.eq_ii, Z.ne_ii, Z.eq_dd, Z.ne_dd, Z.isN_d, Z.notN_d, Z.wt_tup, Z.D.deq, hs1, c1, c2, i1, eM, ← hB, q1, cut_take, -List.map_map, -List.map_take]
  rw [← List.map_take, f1 A]
  rfl
theorem lD_nob (ls : List Nat) : D.nobs (lD ls) = true ∧ D.deps (lD ls) = 0 := by
  induction ls with
  | nil => exact ⟨rfl, rfl⟩
  | cons a ls ih =>
    refine ⟨?_, ?_⟩
    · show (true && D.nobs (lD ls)) = true
      rw [ih.1]
      rfl
    · show max 0 (D.deps (lD ls)) = 0
      rw [ih.2]
      rfl
/-- a list of data against another, by what it has now -/
theorem eqD_ref {A : Hh} {n : Nat} {xs : List D} {y : D} (h : A[n]? = some (.lst xs)) (hx : D.nobs xs = true) (hy : y.nob = true) (dx : D.deps xs ≤ 63) (dy : y.dep ≤ 64) : eqD A (.ref n) y = some (decide (.lst xs = y)) := by
  rw [← eqD_nob (A := A) (x := .lst xs) (y := y) hx hy (by show D.deps xs + 1 ≤ 64; omega) dy]
  have e : pyA A (.ref n) = pyA A (.lst xs) := by
    simp only [pyA, h, D.py]
  show eqP (pyA A (.ref n)) (pyA A y) = eqD A (.lst xs) y
  rw [e]
  cases y <;> rfl
theorem pl_cond (A : Hh) (cs : Cs) (m : Nat) (b : Int) (ls : List Nat) (pl : List D) (s5 s6 s7 : Option D) :
    zcmp .ne (zvar 4) (zfz (zlst znil)) [some (csD cs), some (.int m), some (.ref A.length), some (.int b), some (.ref (A.length + 1)), s5, s6, s7] (hp A pl ls) = some (.ok (!decide (ls = [])) (hp A pl ls)) := by
  obtain ⟨n1, n2⟩ := lD_nob ls
  have e := eqD_ref (y := .lst []) (hp_1 A pl ls) n1 rfl (by omega) (by decide)
  have e2 : decide (D.lst (lD ls) = D.lst []) = decide (ls = []) := by
    cases ls with
    | nil => rfl
    | cons a r => simp [lD]
  rw [e2] at e
  simp [Z.sseq, Z.snil, Z.sret, Z.sexp, Z.sasg, Z.spar, Z.sif, Z.spass, Z.sbrk, Z.scnt, Z.sthen_nx, Z.sthen_rt, Z.sthen_bk, Z.sthen_ct, Z.of_ok, Z.andThen_ok, Z.mb, Z.ok, Z.mo, Z.zvar, Z.zc, Z.zbin, Z.zneg, Z.zcmp, Z.zchn, Z.copM, Z.zbl, Z.ztru, Z.zand, Z.zor, Z.znot, Z.zandv, Z.zorv, Z.zite, Z.znil, Z.zcons, Z.ztup, Z.zix, Z.zlen, Z.zisi, Z.isiB, Z.zcall, Z.endD, Z.gnm, Z.gtup, Z.gcons, Z.gnil, Z.gc_self, Z.zallq, Z.zanyq, Z.zsumq, Z.zminq, Z.zmaxq, Z.zlenq, Z.ztupq, Z.zrow, Z.zst, Z.zof, Z.zofL, Z.zlst, Z.lstM, Z.zcomp, Z.zrng, Z.rngM, Z.zcat, Z.zrep, Z.zzip, Z.zsort, Z.zsortR, Z.zsortset, Z.zslT, Z.zslL, Z.znone, Z.zsome, Z.znew, Z.zfz, Z.alloc, Z.wipeD, Z.sfor, Z.zm1, Z.zm0, Z.bmD, Z.zdvm, Z.zabs, Z.zmx2, Z.zmn2, Z.zint, Z.zcnt, Z.gsub, Z.setD, Z.ztt, Z.seq_tup, Z.seq_lst, Z.lst_lst, Z.ty_non, Z.ty_bl, Z.ty_int, Z.ty_str, Z.ty_tup, Z.ty_lst, Z.tru_non, Z.tru_bl, Z.tru_int, Z.tru_tup, Z.tru_lst, Z.len_tup, Z.len_lst, Z.ix_int, Z.at_0, Z.at_1, Z.at_2, Z.at_3, Z.at_4, Z.add_ii, Z.sub_ii, Z.mul_ii, Z.fdiv_ii, Z.mod_ii, Z.pow_ii, Z.add_tt, Z.lt_ii, Z.le_ii, Z.gt_ii, Z.ge_ii, Z.eq_ii, Z.ne_ii, Z.eq_dd, Z.ne_dd, Z.isN_d, Z.notN_d, Z.wt_tup, Z.D.deq, e, SZ]
theorem pl_while (cs : Cs) (m : Nat) (h : CallsOk cs) (hm : 1 ≤ m) : ∀ (n : Nat) (b : Int) (ls : List Nat) (pl : List D) (s5 s6 s7 : Option D), ls.length < n → PI cs m b ls pl →
    ∃ B pl' s5' s6' s7', (∀ A : Hh, whileN (zcmp .ne (zvar 4) (zfz (zlst znil))) bodyP n [some (csD cs), some (.int m), some (.ref A.length), some (.int b), some (.ref (A.length + 1)), s5, s6, s7] (hp A pl ls)
      = some (.nx [some (csD cs), some (.int m), some (.ref A.length), some (.int B), some (.ref (A.length + 1)), s5', s6', s7'] (hp A pl' []))) ∧ PI cs m B [] pl'
  | 0, _, _, _, _, _, _, hl, _ => by omega
  | n + 1, b, ls, pl, s5, s6, s7, hl, I => by
    have c := fun A => pl_cond A cs m b ls pl s5 s6 s7
    by_cases hne : ls = []
    · subst hne
      exact ⟨b, pl, s5, s6, s7, fun A => while_0 (c A), I⟩
    · have c : ∀ A, _ := fun A => (show (!decide (ls = [])) = true by simp [hne]) ▸ c A
      obtain ⟨B, pl', ls', s5', s6', s7', q1, q2, q3⟩ := pl_turn cs m b ls pl s5 s6 s7 h hm I hne
      obtain ⟨B2, pl2, t5, t6, t7, r1, r2⟩ := pl_while cs m h hm n B ls' pl' s5' s6' s7' (by omega) q2
      exact ⟨B2, pl2, t5, t6, t7, fun A => (while_1 (c A) (.inl (q1 A))).trans (r1 A), r2⟩
/-- the plan -/
structure PlanOk (cs : Cs) (m : Nat) (ps : List Int) : Prop where
  len : ps.length = cs.length
  in_ : ∀ (i : Nat) (c : Int × Int) (p : Int), cs[i]? = some c → ps[i]? = some p → c.1 ≤ p ∧ p ≤ c.2
  few : ∀ t : Int, ps.count t ≤ m
theorem ints_of {pl : List D} : ∀ {n : Nat}, pl.length = n → (∀ i : Nat, i < n → ∃ p : Int, pl[i]? = some (.int p)) → ∃ ps : List Int, pl = ps.map .int := by
  intro n hn h
  refine ⟨pl.map fun d => match d with | .int p => p | _ => 0, ?_⟩
  rw [List.map_map]
  apply List.ext_getElem?
  intro i
  rw [List.getElem?_map]
  by_cases hi : i < n
  · obtain ⟨p, e⟩ := h i hi
    rw [e]
    rfl
  · rw [List.getElem?_eq_none (by omega)]
    rfl
theorem plan_of {cs : Cs} {m : Nat} {B : Int} {pl : List D} (I : PI cs m B [] pl) : ∃ ps : List Int, pl = ps.map .int ∧ PlanOk cs m ps := by
  obtain ⟨ps, e⟩ := ints_of I.len fun i hi => by
    obtain ⟨p, e, _⟩ := I.done i hi List.not_mem_nil
    exact ⟨p, e⟩
  subst e
  have hl : ps.length = cs.length := by rw [← I.len, List.length_map]
  refine ⟨ps, rfl, hl, fun i c p hc hp => ?_, fun t => ?_⟩
  · have hi := (List.getElem?_eq_some_iff.mp hc).1
    obtain ⟨q, e, q1, q2, _⟩ := I.done i hi List.not_mem_nil
    rw [List.getElem?_map, hp] at e
    cases e
    unfold ca at q1
    unfold ce at q2
    rw [hc] at q1 q2
    exact ⟨q1, q2⟩
  · refine Nat.le_trans (Nat.le_of_eq ?_) (I.few t)
    have e : ps = (List.range cs.length).map fun i => (ps[i]?).getD 0 := by
      apply List.ext_getElem?
      intro i
      rw [List.getElem?_map]
      by_cases hi : i < cs.length
      · have hi2 : i < ps.length := by omega
        rw [List.getElem?_range hi]
        simp [List.getElem?_eq_getElem hi2]
      · rw [List.getElem?_eq_none (by omega), List.getElem?_eq_none (by rw [List.length_range]; omega)]
        rfl
    conv => lhs; rw [e]
    unfold List.count
    rw [List.countP_map]
    refine List.countP_congr fun i hi => ?_
    have hi' : i < ps.length := by rw [hl]; exact List.mem_range.mp hi
    simp [List.getElem?_map, List.getElem?_eq_getElem hi']
theorem flats_ints (ps : List Int) : D.flats (ps.map .int) = true := flats_all fun x hx => by
  obtain ⟨p, _, rfl⟩ := List.mem_map.mp hx
  rfl
theorem rep_non (n : Nat) : (List.replicate n [D.non]).flatten = List.replicate n D.non := by
  induction n with
  | zero => rfl
  | succ n ih => rw [List.replicate_succ, List.flatten_cons, ih]; rfl
theorem e_plan (k : Nat) (cs : Cs) (m : Nat) (h : CallsOk cs) (hm : cs ≠ [] → 1 ≤ m) (hall : ∀ s t : Int, s ≤ t → (cs.countP (fun c => decide (s ≤ c.1) && decide (c.2 ≤ t)) : Int) ≤ m * (t - s + 1)) :
    ∃ ps : List Int, (∀ A, callN Pg (k + 1) i_plan_by [csD cs, .int m] A = some (.ok (.tup (ps.map .int)) A)) ∧ PlanOk cs m ps := by
  have hz := h.len
  have I0 := PI.start (cs := cs) (m := m) (fun c hc => ⟨(h.in_ c hc).1, (h.in_ c hc).2.1⟩) hall
  have W : ∃ B pl' s5' s6' s7', (∀ A : Hh, swhile (zcmp .ne (zvar 4) (zfz (zlst znil))) bodyP [some (csD cs), some (.int m), some (.ref A.length), some (.int 0), some (.ref (A.length + 1)), none, none, none] (hp A (List.replicate cs.length .non) (List.range cs.length))
      = some (.nx [some (csD cs), some (.int m), some (.ref A.length), some (.int B), some (.ref (A.length + 1)), s5', s6', s7'] (hp A pl' []))) ∧ PI cs m B [] pl' := by
    by_cases he : cs = []
    · subst he
      exact ⟨0, [], none, none, none, fun A => swhile_go (n := 1) (while_0 (pl_cond A [] m 0 [] [] none none none)), I0⟩
    · obtain ⟨B, pl', s5', s6', s7', q1, q2⟩ := pl_while cs m h (hm he) (cs.length + 1) 0 (List.range cs.length) _ none none none (by rw [List.length_range]; omega) I0
      exact ⟨B, pl', s5', s6', s7', fun A => swhile_go (q1 A), q2⟩
  obtain ⟨B, pl', s5', s6', s7', q1, q2⟩ := W
  obtain ⟨ps, rfl, P⟩ := plan_of q2
  refine ⟨ps, ?_, P⟩
  intro A
  have q1 := q1 A
  have hr : rngI 0 (cs.length : Int) = lD (List.range cs.length) := by
    unfold rngI lD
    rw [Int.sub_zero, Int.toNat_natCast]
    simp
  have r1 : (-4611686018427387904 : Int) ≤ (cs.length : Int) := by omega
  have r2 : (cs.length : Int) ≤ 4611686018427387904 := by omega
  have r3 : (-1152921504606846976 : Int) ≤ (cs.length : Int) := by omega
  have r4 : (cs.length : Int) ≤ 1152921504606846976 := by omega
  have r5 : cs.length ≤ 16000000 := by omega
  have r7 : (cs.length : Int) ≤ 16000000 := by omega
  have r6 : (lD (List.range cs.length)).length ≤ 16000000 := by simp [lD]; omega
  have h2 : seqD (hp A (ps.map .int) []) (.ref A.length) = some (ps.map .int, [(A.length, ps.map .int)]) := seq_ref (hp_0 A _ [])
  have hg : gc A (hp A (ps.map .int) []) (.tup (ps.map .int)) = A := gc_app (D.flat_lo _ _ (flats_ints ps))
  have ha : A ++ [O.lst (List.replicate cs.length .non)] ++ [O.lst (lD (List.range cs.length))] = hp A (List.replicate cs.length .non) (List.range cs.length) := by
    unfold hp
    rw [List.append_assoc]
    rfl
  rw [c_plan_by, mb_plan_by]
  unfold bodyP bodyF at q1
  simp [Z.sseq, Z.snil, Z.sret, Z.sexp, Z.sasg, Z.spar, Z.sif, Z.spass, Z.sbrk, Z.scnt, Z.sthen_nx, Z.sthen_rt, Z.sthen_bk, Z.sthen_ct, Z.of_ok, Z.andThen_ok, Z.mb, Z.ok, Z.mo, Z.zvar, Z.zc, Z.zbin, Z.zneg, Z.zcmp, Z.zchn, Z.copM, Z.zbl, Z.ztru, Z.zand, Z.zor, Z.znot, Z.zandv, Z.zorv, Z.zite, Z.znil, Z.zcons, Z.ztup, Z.zix, Z.zlen, Z.zisi, Z.isiB, Z.zcall, Z.endD, Z.gnm, Z.gtup, Z.gcons, Z.gnil, Z.gc_self, Z.zallq, Z.zanyq, Z.zsumq, Z.zminq, Z.zmaxq, Z.zlenq, Z.ztupq, Z.zrow, Z.zst, Z.zof, Z.zofL, Z.zlst, Z.lstM, Z.zcomp, Z.zrng, Z.rngM, Z.zcat, Z.zrep, Z.zzip, Z.zsort, Z.zsortR, Z.zsortset, Z.zslT, Z.zslL, Z.znone, Z.zsome, Z.znew, Z.zfz, Z.alloc, Z.wipeD, Z.sfor, Z.zm1, Z.zm0, Z.bmD, Z.zdvm, Z.zabs, Z.zmx2, Z.zmn2, Z.zint, Z.zcnt, Z.gsub, Z.setD, Z.ztt, Z.seq_tup, Z.seq_lst, Z.lst_lst, Z.ty_non, Z.ty_bl, Z.ty_int, Z.ty_str, Z.ty_tup, Z.ty_lst, Z.tru_non, Z.tru_bl, Z.tru_int, Z.tru_tup, Z.tru_lst, Z.len_tup, Z.len_lst, Z.ix_int, Z.at_0, Z.at_1, Z.at_2, Z.at_3, Z.at_4, Z.add_ii, Z.sub_ii, Z.mul_ii, Z.fdiv_ii, Z.mod_ii, Z.pow_ii, Z.add_tt, Z.lt_ii, Z.le_ii, Z.gt_ii, Z.ge_ii, Z.eq_ii, Z.ne_ii, Z.eq_dd, Z.ne_dd, Z.isN_d, Z.notN_d, Z.wt_tup, Z.D.deq, seq_cs, len_cs, rep_non, r1, r2, r3, r4, r5, r6, r7, SZ, hr, ha, q1, h2, hg, -List.map_map, -List.append_assoc]
end Zp

set_option maxHeartbeats 2000000
namespace Zp
open PySem Z Zq
theorem cnt_countP (cs : Cs) (f l : Int) : cnt cs f l = cs.countP (fun c => decide (f ≤ c.1) && decide (c.2 ≤ l)) := by
  unfold cnt
  rw [List.countP_eq_length_filter]
  rfl
theorem least_of : ∀ (l : List (Int × Int)) (g : Int × Int → Int), l ≠ [] → ∃ c ∈ l, ∀ d ∈ l, g c ≤ g d
  | [], _, h => absurd rfl h
  | [a], g, _ => ⟨a, List.mem_cons_self .., fun d hd => by rw [List.mem_singleton] at hd; rw [hd]; exact Int.le_refl _⟩
  | a :: b :: l, g, _ => by
    obtain ⟨c, hc, h⟩ := least_of (b :: l) g (List.cons_ne_nil _ _)
    by_cases q : g a ≤ g c
    · refine ⟨a, List.mem_cons_self .., fun d hd => ?_⟩
      rcases List.mem_cons.mp hd with e | e
      · rw [e]; exact Int.le_refl _
      · exact Int.le_trans q (h d e)
    · refine ⟨c, List.mem_cons_of_mem _ hc, fun d hd => ?_⟩
      rcases List.mem_cons.mp hd with e | e
      · rw [e]; omega
      · exact h d e
/-- no stretch asks for more, if none from a beginning to an end does -/
theorem hall_all {cs : Cs} {m : Int} (h0 : 0 ≤ m) (hcs : ∀ c ∈ cs, c.1 ≤ c.2) (h : ∀ c ∈ cs, ∀ d ∈ cs, c.1 ≤ d.2 → (cnt cs c.1 d.2 : Int) ≤ m * (d.2 - c.1 + 1)) (s t : Int) (hst : s ≤ t) :
    (cs.countP (fun c => decide (s ≤ c.1) && decide (c.2 ≤ t)) : Int) ≤ m * (t - s + 1) := by
  rw [← cnt_countP]
  by_cases he : cs.filter (inW s t) = []
  · unfold cnt
    rw [he]
    exact Int.mul_nonneg h0 (by omega)
  · obtain ⟨c, hc, hc2⟩ := least_of _ (fun c => c.1) he
    obtain ⟨d, hd, hd2⟩ := least_of _ (fun c => -c.2) he
    obtain ⟨c1, c2⟩ := List.mem_filter.mp hc
    obtain ⟨d1, d2⟩ := List.mem_filter.mp hd
    unfold inW at c2 d2
    simp only [Bool.and_eq_true, decide_eq_true_eq] at c2 d2
    have a1 := hcs c c1
    have a2 := hd2 c hc
    have a3 : c.1 ≤ d.2 := by omega
    have a4 := h c c1 d d1 a3
    have a5 : cnt cs s t ≤ cnt cs c.1 d.2 := by
      rw [cnt_countP, cnt_countP]
      refine List.countP_mono_left fun x hx e => ?_
      have hx2 : x ∈ cs.filter (inW s t) := List.mem_filter.mpr ⟨hx, e⟩
      have b1 := hc2 x hx2
      have b2 := hd2 x hx2
      simp only [Bool.and_eq_true, decide_eq_true_eq]
      omega
    have a6 : m * (d.2 - c.1 + 1) ≤ m * (t - s + 1) := Int.mul_le_mul_of_nonneg_left (by omega) h0
    omega
/-- what is found -/
def fdOk (cs : Cs) (m : Nat) (fd : D) : Prop := (cs = [] ∧ m = 0 ∧ fd = .non) ∨ (cs ≠ [] ∧ 1 ≤ m ∧ ∃ f l : Int, fd = .tup [.int f, .int l] ∧ f ≤ l ∧ (1 ≤ f ∧ l ≤ BG) ∧ ((m : Int) - 1) * (l - f + 1) < cnt cs f l)
theorem e_least (k : Nat) (cs : Cs) (h : CallsOk cs) : ∃ (m : Nat) (ps : List Int) (fd : D), (∀ A, callN Pg (k + 6) i_least_hands [csD cs] A = some (.ok (.tup [.int (m : Nat), .tup (ps.map .int), fd]) A)) ∧ PlanOk cs m ps ∧ fdOk cs m fd := by
  obtain ⟨mi, fd, w1, w2, w3, w4⟩ := e_wanted (k + 3) cs h
  obtain ⟨m, rfl⟩ : ∃ m : Nat, mi = m := ⟨mi.toNat, (Int.toNat_of_nonneg w2).symm⟩
  have hcs : ∀ c ∈ cs, c.1 ≤ c.2 := fun c hc => (h.in_ c hc).2.1
  have hm : cs ≠ [] → 1 ≤ m := fun hne => by
    obtain ⟨c, r, e⟩ : ∃ c r, cs = c :: r := by cases cs with
      | nil => exact absurd rfl hne
      | cons c r => exact ⟨c, r, rfl⟩
    have hc : c ∈ cs := by rw [e]; exact List.mem_cons_self ..
    have h1 := w4 c hc c hc (hcs c hc)
    have h2 : 1 ≤ cnt cs c.1 c.2 := by
      unfold cnt
      have : c ∈ cs.filter (inW c.1 c.2) := List.mem_filter.mpr ⟨hc, by simp [inW]⟩
      exact List.length_pos_of_mem this
    refine Classical.byContradiction fun hz => ?_
    have hz' : m = 0 := by omega
    subst hz'
    simp at h1
    omega
  obtain ⟨ps, p1, p2⟩ := e_plan (k + 4) cs m h hm (hall_all w2 hcs w4)
  refine ⟨m, ps, fd, ?_, p2, ?_⟩
  · intro A
    rw [c_least_hands, mb_least_hands]
    have c1 := e_check k cs A h
    simp [Z.sseq, Z.snil, Z.sret, Z.sexp, Z.sasg, Z.spar, Z.sif, Z.spass, Z.sbrk, Z.scnt, Z.sthen_nx, Z.sthen_rt, Z.sthen_bk, Z.sthen_ct, Z.of_ok, Z.andThen_ok, Z.mb, Z.ok, Z.mo, Z.zvar, Z.zc, Z.zbin, Z.zneg, Z.zcmp, Z.zchn, Z.copM, Z.zbl, Z.ztru, Z.zand, Z.zor, Z.znot, Z.zandv, Z.zorv, Z.zite, Z.znil, Z.zcons, Z.ztup, Z.zix, Z.zlen, Z.zisi, Z.isiB, Z.zcall, Z.endD, Z.gnm, Z.gtup, Z.gcons, Z.gnil, Z.gc_self, Z.zallq, Z.zanyq, Z.zsumq, Z.zminq, Z.zmaxq, Z.zlenq, Z.ztupq, Z.zrow, Z.zst, Z.zof, Z.zofL, Z.zlst, Z.lstM, Z.zcomp, Z.zrng, Z.rngM, Z.zcat, Z.zrep, Z.zzip, Z.zsort, Z.zsortR, Z.zsortset, Z.zslT, Z.zslL, Z.znone, Z.zsome, Z.znew, Z.zfz, Z.alloc, Z.wipeD, Z.sfor, Z.zm1, Z.zm0, Z.bmD, Z.zdvm, Z.zabs, Z.zmx2, Z.zmn2, Z.zint, Z.zcnt, Z.gsub, Z.setD, Z.ztt, Z.seq_tup, Z.seq_lst, Z.lst_lst, Z.ty_non, Z.ty_bl, Z.ty_int, Z.ty_str, Z.ty_tup, Z.ty_lst, Z.tru_non, Z.tru_bl, Z.tru_int, Z.tru_tup, Z.tru_lst, Z.len_tup, Z.len_lst, Z.ix_int, Z.at_0, Z.at_1, Z.at_2, Z.at_3, Z.at_4, Z.add_ii, Z.sub_ii, Z.mul_ii, Z.fdiv_ii, Z.mod_ii, Z.pow_ii, Z.add_tt, Z.lt_ii, Z.le_ii, Z.gt_ii, Z.ge_ii, Z.eq_ii, Z.ne_ii, Z.eq_dd, Z.ne_dd, Z.isN_d, Z.notN_d, Z.wt_tup, Z.D.deq, c1, w1, p1, SZ]
  · by_cases hne : cs = []
    · subst hne
      rcases w3 with ⟨a, b⟩ | ⟨a, f, l, _, _, _, c⟩
      · exact .inl ⟨rfl, by omega, b⟩
      · exfalso
        have e0 : cnt [] f l = 0 := rfl
        rw [e0] at c
        have := Int.mul_nonneg (show (0 : Int) ≤ (m : Int) - 1 by omega) (show (0 : Int) ≤ l - f + 1 by omega)
        omega
    · have := hm hne
      rcases w3 with ⟨a, b⟩ | ⟨a, b⟩
      · omega
      · exact .inr ⟨hne, this, b⟩
theorem e_lwhole (k : Nat) (n : Int) (A : Hh) : callN Pg (k + 1) i__law_whole [.int n] A = some (.ok (.bl true) A) := by
  rw [c__law_whole, mb__law_whole]
  simp [Z.sseq, Z.snil, Z.sret, Z.sexp, Z.sasg, Z.spar, Z.sif, Z.spass, Z.sbrk, Z.scnt, Z.sthen_nx, Z.sthen_rt, Z.sthen_bk, Z.sthen_ct, Z.of_ok, Z.andThen_ok, Z.mb, Z.ok, Z.mo, Z.zvar, Z.zc, Z.zbin, Z.zneg, Z.zcmp, Z.zchn, Z.copM, Z.zbl, Z.ztru, Z.zand, Z.zor, Z.znot, Z.zandv, Z.zorv, Z.zite, Z.znil, Z.zcons, Z.ztup, Z.zix, Z.zlen, Z.zisi, Z.isiB, Z.zcall, Z.endD, Z.gnm, Z.gtup, Z.gcons, Z.gnil, Z.gc_self, Z.zallq, Z.zanyq, Z.zsumq, Z.zminq, Z.zmaxq, Z.zlenq, Z.ztupq, Z.zrow, Z.zst, Z.zof, Z.zofL, Z.zlst, Z.lstM, Z.zcomp, Z.zrng, Z.rngM, Z.zcat, Z.zrep, Z.zzip, Z.zsort, Z.zsortR, Z.zsortset, Z.zslT, Z.zslL, Z.znone, Z.zsome, Z.znew, Z.zfz, Z.alloc, Z.wipeD, Z.sfor, Z.zm1, Z.zm0, Z.bmD, Z.zdvm, Z.zabs, Z.zmx2, Z.zmn2, Z.zint, Z.zcnt, Z.gsub, Z.setD, Z.ztt, Z.seq_tup, Z.seq_lst, Z.lst_lst, Z.ty_non, Z.ty_bl, Z.ty_int, Z.ty_str, Z.ty_tup, Z.ty_lst, Z.tru_non, Z.tru_bl, Z.tru_int, Z.tru_tup, Z.tru_lst, Z.len_tup, Z.len_lst, Z.ix_int, Z.at_0, Z.at_1, Z.at_2, Z.at_3, Z.at_4, Z.add_ii, Z.sub_ii, Z.mul_ii, Z.fdiv_ii, Z.mod_ii, Z.pow_ii, Z.add_tt, Z.lt_ii, Z.le_ii, Z.gt_ii, Z.ge_ii, Z.eq_ii, Z.ne_ii, Z.eq_dd, Z.ne_dd, Z.isN_d, Z.notN_d, Z.wt_tup, Z.D.deq]
theorem e_take (k : Nat) (n : Nat) (p m : Int) (A : Hh) (h : A[n]? = some (.lst [.int p])) (hm : 0 < m) (hp : small p = true) : callN Pg (k + 1) i__law_take [.ref n, .int m] A = some (.ok (.int (p % m)) (A.set n (.lst [.int (p / m)]))) := by
  rw [c__law_take, mb__law_take]
  have h1 := seq_ref h
  have hg : ∀ d, gc A (A.set n (.lst [.int (p / m)])) d = A.set n (.lst [.int (p / m)]) := fun d => gc_len (List.length_set ..)
  have h0 : L2.ixN 1 0 = some 0 := rfl
  simp [Z.sseq, Z.snil, Z.sret, Z.sexp, Z.sasg, Z.spar, Z.sif, Z.spass, Z.sbrk, Z.scnt, Z.sthen_nx, Z.sthen_rt, Z.sthen_bk, Z.sthen_ct, Z.of_ok, Z.andThen_ok, Z.mb, Z.ok, Z.mo, Z.zvar, Z.zc, Z.zbin, Z.zneg, Z.zcmp, Z.zchn, Z.copM, Z.zbl, Z.ztru, Z.zand, Z.zor, Z.znot, Z.zandv, Z.zorv, Z.zite, Z.znil, Z.zcons, Z.ztup, Z.zix, Z.zlen, Z.zisi, Z.isiB, Z.zcall, Z.endD, Z.gnm, Z.gtup, Z.gcons, Z.gnil, Z.gc_self, Z.zallq, Z.zanyq, Z.zsumq, Z.zminq, Z.zmaxq, Z.zlenq, Z.ztupq, Z.zrow, Z.zst, Z.zof, Z.zofL, Z.zlst, Z.lstM, Z.zcomp, Z.zrng, Z.rngM, Z.zcat, Z.zrep, Z.zzip, Z.zsort, Z.zsortR, Z.zsortset, Z.zslT, Z.zslL, Z.znone, Z.zsome, Z.znew, Z.zfz, Z.alloc, Z.wipeD, Z.sfor, Z.zm1, Z.zm0, Z.bmD, Z.zdvm, Z.zabs, Z.zmx2, Z.zmn2, Z.zint, Z.zcnt, Z.gsub, Z.setD, Z.ztt, Z.seq_tup, Z.seq_lst, Z.lst_lst, Z.ty_non, Z.ty_bl, Z.ty_int, Z.ty_str, Z.ty_tup, Z.ty_lst, Z.tru_non, Z.tru_bl, Z.tru_int, Z.tru_tup, Z.tru_lst, Z.len_tup, Z.len_lst, Z.ix_int, Z.at_0, Z.at_1, Z.at_2, Z.at_3, Z.at_4, Z.add_ii, Z.sub_ii, Z.mul_ii, Z.fdiv_ii, Z.mod_ii, Z.pow_ii, Z.add_tt, Z.lt_ii, Z.le_ii, Z.gt_ii, Z.ge_ii, Z.eq_ii, Z.ne_ii, Z.eq_dd, Z.ne_dd, Z.isN_d, Z.notN_d, Z.wt_tup, Z.D.deq, h1, hm, hp, h, hg, h0]
theorem small_div {p m : Int} (h0 : 0 ≤ p) (hm : 0 < m) (hp : small p = true) : 0 ≤ p / m ∧ small (p / m) = true := by
  have h1 : 0 ≤ p / m := Int.ediv_nonneg h0 (by omega)
  refine ⟨h1, ?_⟩
  have h2 : p / m ≤ p := Int.ediv_le_self m h0
  rw [small_def] at hp ⊢
  have h3 := of_decide_eq_true hp
  refine decide_eq_true (Nat.lt_of_le_of_lt ?_ h3)
  omega
/-- the heap with the pool at n, more behind -/
def pl (A : Hh) (n : Nat) (p : Int) (X : Hh) : Hh := A.set n (.lst [.int p]) ++ X
theorem pl_at {A : Hh} {n : Nat} {p : Int} {X : Hh} (hn : n < A.length) : (pl A n p X)[n]? = some (.lst [.int p]) := by
  unfold pl
  rw [List.getElem?_append_left (by rw [List.length_set]; exact hn), List.getElem?_set_self hn]
theorem pl_set {A : Hh} {n : Nat} {p q : Int} {X : Hh} (hn : n < A.length) : (pl A n p X).set n (.lst [.int q]) = pl A n q X := by
  unfold pl
  rw [List.set_append_left _ _ (by rw [List.length_set]; exact hn), List.set_set]
theorem pl_last {A : Hh} {n : Nat} {p : Int} {o : O} : (pl A n p [o])[A.length]? = some o := by
  unfold pl
  rw [List.getElem?_append_right (by rw [List.length_set]; exact Nat.le_refl _), List.length_set, Nat.sub_self]
  rfl
theorem pl_put {A : Hh} {n : Nat} {p : Int} {o o' : O} : (pl A n p [o]).set A.length o' = pl A n p [o'] := by
  unfold pl
  rw [List.set_append_right _ _ (by rw [List.length_set]; exact Nat.le_refl _), List.length_set, Nat.sub_self]
  rfl
theorem take_pl (k : Nat) {A : Hh} {n : Nat} {p m : Int} {X : Hh} (hn : n < A.length) (hm : 0 < m) (hp : small p = true) : callN Pg (k + 1) i__law_take [.ref n, .int m] (pl A n p X) = some (.ok (.int (p % m)) (pl A n (p / m) X)) := by
  rw [e_take k n p m _ (pl_at hn) hm hp, pl_set hn]
theorem sort_cs {cs : Cs} (hz : cs.length < 64) (hb : ∀ c ∈ cs, 1 ≤ c.1 ∧ c.1 ≤ c.2 ∧ c.2 ≤ BG) : ∃ ds : Cs, sortD (cs.map cD) = some (ds.map cD) ∧ ds.Perm cs ∧ ds.Pairwise leC := by
  have hm : cs.map cD = (cs.map fun c => [c.1, c.2]).map tupD := by rw [List.map_map]; rfl
  have hs : sortD (cs.map cD) = some (((cs.map fun c => [c.1, c.2]).mergeSort leL).map tupD) := by
    rw [hm]
    exact sortD_tups fun t ht => by
      obtain ⟨i, _, rfl⟩ := List.mem_map.mp ht
      simp
  have pm : ((cs.map fun c => [c.1, c.2]).mergeSort leL).Perm (cs.map fun c => [c.1, c.2]) := List.mergeSort_perm _ _
  have pw := List.pairwise_mergeSort leL_trans leL_total (cs.map fun c => [c.1, c.2])
  refine ⟨((cs.map fun c => [c.1, c.2]).mergeSort leL).map fun t => (t.getD 0 0, t.getD 1 0), ?_, ?_, ?_⟩
  · rw [hs, List.map_map]
    congr 1
    refine List.map_congr_left fun t ht => ?_
    obtain ⟨c, hc, rfl⟩ := List.mem_map.mp (pm.mem_iff.mp ht)
    rfl
  · have := pm.map fun t => (t.getD 0 0, t.getD 1 0)
    rw [List.map_map] at this
    have e : (cs.map ((fun (t : List Int) => (t.getD 0 0, t.getD 1 0)) ∘ fun c => [c.1, c.2])) = cs := by
      have : ((fun (t : List Int) => (t.getD 0 0, t.getD 1 0)) ∘ fun (c : Int × Int) => [c.1, c.2]) = id := by funext c; rfl
      rw [this, List.map_id]
    rw [e] at this
    exact this
  · rw [List.pairwise_map]
    refine List.Pairwise.imp_of_mem (fun {u v} hu hv h => ?_) pw
    obtain ⟨i, _, rfl⟩ := List.mem_map.mp (pm.mem_iff.mp hu)
    obtain ⟨j, _, rfl⟩ := List.mem_map.mp (pm.mem_iff.mp hv)
    exact h
end Zp

set_option maxHeartbeats 2000000
namespace Zp
open PySem Z Zq
theorem gc_keep {A A' : Hh} {d : D} (h : D.lo A.length d = false) : gc A A' d = A' := by
  unfold gc gcOk
  rw [h]
  rfl
theorem cut_ints (ns : List Int) (l h : Option Int) : ∃ ms : List Int, cutD (ns.map D.int) l h = ms.map D.int := by
  unfold cutD
  exact ⟨_, by rw [← List.map_drop, ← List.map_take]⟩
theorem e_M (σ : Sl) (A : Hh) : zbin .mul (zbin .mul (zbin .mul (zbin .mul (zbin .mul (zbin .pow (zc (.int 10)) (zc (.int 64))) (zbin .pow (zc (.int 10)) (zc (.int 64)))) (zbin .pow (zc (.int 10)) (zc (.int 64)))) (zbin .pow (zc (.int 10)) (zc (.int 64)))) (zbin .pow (zc (.int 10)) (zc (.int 64)))) (zbin .pow (zc (.int 10)) (zc (.int 64))) σ A
    = some (.ok (.int (10 ^ 384)) A) := by
  have p64 : ∀ σ A, zbin .pow (zc (.int 10)) (zc (.int 64)) σ A = some (.ok (.int (10 ^ 64)) A) := fun σ A => by kernel_rfl
  have s1 : small (10 ^ 64) = true := by rw [small_def]; decide +kernel
  have s2 : small (10 ^ 64 * 10 ^ 64) = true := by rw [small_def]; decide +kernel
  have s3 : small (10 ^ 64 * 10 ^ 64 * 10 ^ 64) = true := by rw [small_def]; decide +kernel
  have s4 : small (10 ^ 64 * 10 ^ 64 * 10 ^ 64 * 10 ^ 64) = true := by rw [small_def]; decide +kernel
  have s5 : small (10 ^ 64 * 10 ^ 64 * 10 ^ 64 * 10 ^ 64 * 10 ^ 64) = true := by rw [small_def]; decide +kernel
  have e : (10 : Int) ^ 64 * 10 ^ 64 * 10 ^ 64 * 10 ^ 64 * 10 ^ 64 * 10 ^ 64 = 10 ^ 384 := by decide +kernel
  have mm : ∀ (f g : Ev D) (x y : Int) (A : Hh), f σ A = some (.ok (.int x) A) → g σ A = some (.ok (.int y) A) → small x = true → small y = true → zbin .mul f g σ A = some (.ok (.int (x * y)) A) := fun f g x y A h1 h2 h3 h4 => by
    simp only [zbin, mb, h1, h2, andThen_ok, mul_ii, h3, h4, Bool.and_self, if_true]
  rw [← e]
  exact mm _ _ _ _ _ (mm _ _ _ _ _ (mm _ _ _ _ _ (mm _ _ _ _ _ (mm _ _ _ _ _ (p64 σ A) (p64 σ A) s1 s1) (p64 σ A) s2 s1) (p64 σ A) s3 s1) (p64 σ A) s4 s1) (p64 σ A) s5 s1
noncomputable def bodyQ (u v w z t : Int) : Sv := (sseq (sasg (gnm 3) (zbin .mod (zbin .add (zbin .add (zbin .mul (zbin .mod (zvar 3) (zc (.int u))) (zc (.int v))) (zbin .mul (zc (.int w)) (zvar 5))) (zc (.int 271))) (zc (.int u))))
 (sseq (sasg (gnm 4) (zbin .add (zbin .mul (zvar 4) (zbin .pow (zc (.int 10)) (zc (.int 11)))) (zbin .mod (zbin .mul (zvar 3) (zbin .add (zbin .mod (zvar 3) (zc (.int z))) (zc (.int 3)))) (zc (.int t)))))
 snil))
theorem q_body {A : Hh} {s0 s1 s2 : Option D} {u v w z t mo fo a x P : Int} (hp : bopD .pow (.int 10) (.int 11) A = some (.ok (.int P) A)) (hu : 0 < u) (hz : 0 < z) (ht : 0 < t) (hx : (mo % u * v + w * a + 271) % u = x) (g1 : small (mo % u) = true) (g2 : small v = true) (g3 : small w = true) (g4 : small a = true) (sf : small fo = true) (g5 : small P = true)
    (g6 : small x = true) (g7 : small (x % z + 3) = true) : bodyQ u v w z t [s0, s1, s2, some (.int mo), some (.int fo), some (.int a)] A = some (.nx [s0, s1, s2, some (.int x), some (.int (fo * P + x * (x % z + 3) % t)), some (.int a)] A) := by
  unfold bodyQ
  simp only [Z.sseq, Z.snil, Z.sret, Z.sexp, Z.sasg, Z.spar, Z.sif, Z.spass, Z.sbrk, Z.scnt, Z.sthen_nx, Z.sthen_rt, Z.sthen_bk, Z.sthen_ct, Z.of_ok, Z.andThen_ok, Z.mb, Z.ok, Z.mo, Z.zvar, Z.zc, Z.zbin, Z.zneg, Z.zcmp, Z.zchn, Z.copM, Z.zbl, Z.ztru, Z.zand, Z.zor, Z.znot, Z.zandv, Z.zorv, Z.zite, Z.znil, Z.zcons, Z.ztup, Z.zix, Z.zlen, Z.zisi, Z.zcall, Z.endD, Z.gnm, Z.gtup, Z.gcons, Z.gnil, Z.gc_self, Z.zallq, Z.zanyq, Z.zsumq, Z.zminq, Z.zmaxq, Z.zlenq, Z.ztupq, Z.zrow, Z.zst, Z.zof, Z.zofL, Z.zlst, Z.lstM, Z.zcomp, Z.zrng, Z.rngM, Z.zcat, Z.zrep, Z.zzip, Z.zsort, Z.zsortR, Z.zsortset, Z.zslT, Z.zslL, Z.znone, Z.zsome, Z.znew, Z.zfz, Z.alloc, Z.wipeD, Z.sfor, Z.zm1, Z.zm0, Z.bmD, Z.zdvm, Z.zabs, Z.zmx2, Z.zmn2, Z.zint, Z.zcnt, Z.gsub, Z.setD, Z.ztt, Z.seq_tup, Z.seq_lst, Z.lst_lst, Z.ty_non, Z.ty_bl, Z.ty_int, Z.ty_str, Z.ty_tup, Z.ty_lst, Z.tru_non, Z.tru_bl, Z.tru_int, Z.tru_tup, Z.tru_lst, Z.len_tup, Z.len_lst, Z.ix_int, Z.at_0, Z.at_1, Z.at_2, Z.at_3, Z.at_4, Z.add_ii, Z.sub_ii, Z.add_tt, Z.lt_ii, Z.le_ii, Z.gt_ii, Z.ge_ii, Z.eq_ii, Z.ne_ii, Z.eq_dd, Z.ne_dd, Z.isN_d, Z.notN_d, Z.wt_tup, Z.D.deq, List.getElem?_cons_zero, List.getElem?_cons_succ, List.set_cons_zero, List.set_cons_succ, Bool.and_self, Bool.and_true, Bool.true_and, Bool.not_true, Bool.not_false, if_true, if_false, Bool.false_eq_true, decide_true, decide_false, Option.map_some, Option.bind_some, mod_pos hu, mod_pos hz, mod_pos ht, mul_sm g1 g2, mul_sm g3 g4, mul_sm sf g5, mul_sm g6 g7, hp, hx]
theorem sm {i : Int} (h0 : 0 ≤ i) (h1 : i ≤ 10 ^ 30) : small i = true := small_le h0 (Int.le_trans h1 (by decide +kernel))
theorem pool_loop (A : Hh) (s0 s1 s2 : Option D) : ∀ (n : Nat) (a mo fo : Int) (s5 : Option D), 0 ≤ a → a + n ≤ 27 → 0 ≤ fo → fo < 10 ^ (11 * (27 - n)) → 0 ≤ mo →
    ∃ mo' fo' s5', forL [] (gnm 5) (bodyQ 999999999989 69621 40503 65537 99999999977) ((List.range n).map fun (i : Nat) => D.int (a + i)) [s0, s1, s2, some (.int mo), some (.int fo), s5] A = some (.nx [s0, s1, s2, some (.int mo'), some (.int fo'), s5'] A) ∧ 0 ≤ fo' ∧ fo' < 10 ^ 297
  | 0, a, mo, fo, s5, _, _, h0, h1, _ => ⟨mo, fo, s5, rfl, h0, by rw [show 11 * (27 - 0) = 297 from rfl] at h1; exact h1⟩
  | n + 1, a, mo, fo, s5, ha, hn, h0, h1, h2 => by
    have e : (List.range (n + 1)).map (fun (i : Nat) => D.int (a + i)) = .int a :: (List.range n).map fun (i : Nat) => D.int ((a + 1) + i) := by
      rw [List.range_succ_eq_map, List.map_cons, List.map_map]
      congr 1
      · simp
      · refine List.map_congr_left fun i _ => ?_
        simp only [Function.comp, D.int.injEq]
        omega
    obtain ⟨x, hx⟩ : ∃ x, x = (mo % 999999999989 * 69621 + 40503 * a + 271) % 999999999989 := ⟨_, rfl⟩
    have x0 : 0 ≤ x ∧ x < 999999999989 := by omega
    obtain ⟨y, hy⟩ : ∃ y, y = x * (x % 65537 + 3) % 99999999977 := ⟨_, rfl⟩
    have y0 : 0 ≤ y ∧ y < 99999999977 := by
      rw [hy]
      exact ⟨Int.emod_nonneg _ (by decide), Int.emod_lt_of_pos _ (by decide)⟩
    have fb : fo * 100000000000 + y < 10 ^ (11 * (27 - n)) := by
      have e2 : 11 * (27 - n) = 11 * (27 - (n + 1)) + 11 := by omega
      rw [e2, Int.pow_add]
      have : (10 : Int) ^ 11 = 100000000000 := by decide
      rw [this]
      generalize (10 : Int) ^ (11 * (27 - (n + 1))) = P at h1
      omega
    have sf : small fo = true := by
      refine small_le h0 (Int.le_of_lt (Int.lt_of_lt_of_le h1 ?_))
      have h5 : ((10 ^ (11 * (27 - (n + 1))) : Nat) : Int) ≤ ((10 ^ 400 : Nat) : Int) := Int.ofNat_le.mpr (Nat.pow_le_pow_right (by decide) (by omega))
      rw [Int.natCast_pow, Int.natCast_pow] at h5
      exact h5
    have g1 : small (mo % 999999999989) = true := sm (by omega) (Int.le_trans (show mo % 999999999989 ≤ 999999999989 by omega) (by decide +kernel))
    have g2 : small 69621 = true := by rw [small_def]; decide +kernel
    have g3 : small 40503 = true := by rw [small_def]; decide +kernel
    have g4 : small a = true := sm ha (Int.le_trans (show a ≤ 27 by omega) (by decide +kernel))
    have g5 : small 100000000000 = true := by rw [small_def]; decide +kernel
    have g6 : small x = true := sm x0.1 (Int.le_trans (show x ≤ 999999999989 by omega) (by decide +kernel))
    have g7 : small (x % 65537 + 3) = true := sm (by omega) (Int.le_trans (show x % 65537 + 3 ≤ 65540 by omega) (by decide +kernel))
    obtain ⟨mo', fo', s5', q1, q2, q3⟩ := pool_loop A s0 s1 s2 n (a + 1) x (fo * 100000000000 + y) (some (.int a)) (by omega) (by omega) (by omega) fb x0.1
    refine ⟨mo', fo', s5', ?_, q2, q3⟩
    have b1 : bodyQ 999999999989 69621 40503 65537 99999999977 [s0, s1, s2, some (.int mo), some (.int fo), some (.int a)] A = some (.nx [s0, s1, s2, some (.int x), some (.int (fo * 100000000000 + y)), some (.int a)] A) := by
      rw [hy]
      exact q_body (by kernel_rfl) (by decide) (by decide) (by decide) hx.symm g1 g2 g3 g4 sf g5 g6 g7
    rw [e]
    simp only [forL, wOk, List.all_nil, if_true, gnm]
    rw [show ([s0, s1, s2, some (D.int mo), some (D.int fo), s5].set 5 (some (D.int a))) = [s0, s1, s2, some (D.int mo), some (D.int fo), some (D.int a)] from rfl, b1]
    exact q1
theorem e_pool (k : Nat) (ns : List Int) (j : Int) (A : Hh) (hj : 0 ≤ j) (hj2 : j ≤ 12) : ∃ p, callN Pg (k + 1) i__law_pool [.lst (ns.map .int), .int j] A = some (.ok (.ref A.length) (A ++ [.lst [.int p]])) ∧ 0 ≤ p ∧ small p = true := by
  obtain ⟨ms, hms⟩ := cut_ints ns (some j) (some (j + 1))
  have hi := intsOf_ints ms
  obtain ⟨ce, hce⟩ : ∃ ce, ce = ms.sum := ⟨_, rfl⟩
  have hg : ∀ p, gc A (A ++ [.lst [.int p]]) (.ref A.length) = A ++ [.lst [.int p]] := fun p => gc_keep (by simp [D.lo])
  have hM : ∀ σ, zbin .mod (zabs (zvar 2)) (zbin .mul (zbin .mul (zbin .mul (zbin .mul (zbin .mul (zbin .pow (zc (.int 10)) (zc (.int 64))) (zbin .pow (zc (.int 10)) (zc (.int 64)))) (zbin .pow (zc (.int 10)) (zc (.int 64)))) (zbin .pow (zc (.int 10)) (zc (.int 64)))) (zbin .pow (zc (.int 10)) (zc (.int 64)))) (zbin .pow (zc (.int 10)) (zc (.int 64)))) [σ, some (.int j), some (.int ce), none, none, none] A
      = some (.ok (.int ((if ce < 0 then -ce else ce) % (10 ^ 384))) A) := fun σ => by
    have h1 : zabs (zvar 2) [σ, some (.int j), some (.int ce), none, none, none] A = some (.ok (.int (if ce < 0 then -ce else ce)) A) := rfl
    have h2 : (0 : Int) < 10 ^ 384 := by decide +kernel
    simp only [zbin, mb, h1, andThen_ok]
    have h3 := e_M [σ, some (.int j), some (.int ce), none, none, none] A
    simp only [zbin, mb] at h3
    rw [h3]
    simp only [andThen_ok, mod_ii, h2, decide_true, if_true]
  by_cases hc : ce < 0 ∨ 1000000000000000000 ≤ ce
  · have h2 : (0 : Int) < 10 ^ 384 := by decide +kernel
    refine ⟨(if ce < 0 then -ce else ce) % (10 ^ 384), ?_, Int.emod_nonneg _ (by omega), small_le (Int.emod_nonneg _ (by omega)) ?_⟩
    · rw [c__law_pool, mb__law_pool]
      have hM' := hM (some (.lst (ns.map .int)))
      generalize hz : (zbin .mod (zabs (zvar 2)) (zbin .mul (zbin .mul (zbin .mul (zbin .mul (zbin .mul (zbin .pow (zc (.int 10)) (zc (.int 64))) (zbin .pow (zc (.int 10)) (zc (.int 64)))) (zbin .pow (zc (.int 10)) (zc (.int 64)))) (zbin .pow (zc (.int 10)) (zc (.int 64)))) (zbin .pow (zc (.int 10)) (zc (.int 64)))) (zbin .pow (zc (.int 10)) (zc (.int 64))))) = Z0 at hM' ⊢
      generalize (if ce < 0 then -ce else ce) % (10 ^ 384) = r at hM' ⊢
      rcases hc with hc | hc
      · simp [Z.sseq, Z.snil, Z.sret, Z.sexp, Z.sasg, Z.spar, Z.sif, Z.spass, Z.sbrk, Z.scnt, Z.sthen_nx, Z.sthen_rt, Z.sthen_bk, Z.sthen_ct, Z.of_ok, Z.andThen_ok, Z.mb, Z.ok, Z.mo, Z.zvar, Z.zc, Z.zbin, Z.zneg, Z.zcmp, Z.zchn, Z.copM, Z.zbl, Z.ztru, Z.zand, Z.zor, Z.znot, Z.zandv, Z.zorv, Z.zite, Z.znil, Z.zcons, Z.ztup, Z.zix, Z.zlen, Z.zisi, Z.isiB, Z.zcall, Z.endD, Z.gnm, Z.gtup, Z.gcons, Z.gnil, Z.gc_self, Z.zallq, Z.zanyq, Z.zsumq, Z.zminq, Z.zmaxq, Z.zlenq, Z.ztupq, Z.zrow, Z.zst, Z.zof, Z.zofL, Z.zlst, Z.lstM, Z.zcomp, Z.zrng, Z.rngM, Z.zcat, Z.zrep, Z.zzip, Z.zsort, Z.zsortR, Z.zsortset, Z.zslT, Z.zslL, Z.znone, Z.zsome, Z.znew, Z.zfz, Z.alloc, Z.wipeD, Z.sfor, Z.zm1, Z.zm0, Z.bmD, Z.zdvm, Z.zabs, Z.zmx2, Z.zmn2, Z.zint, Z.zcnt, Z.gsub, Z.setD, Z.ztt, Z.seq_tup, Z.seq_lst, Z.lst_lst, Z.ty_non, Z.ty_bl, Z.ty_int, Z.ty_str, Z.ty_tup, Z.ty_lst, Z.tru_non, Z.tru_bl, Z.tru_int, Z.tru_tup, Z.tru_lst, Z.len_tup, Z.len_lst, Z.ix_int, Z.at_0, Z.at_1, Z.at_2, Z.at_3, Z.at_4, Z.add_ii, Z.sub_ii, Z.mul_ii, Z.fdiv_ii, Z.mod_ii, Z.pow_ii, Z.add_tt, Z.lt_ii, Z.le_ii, Z.gt_ii, Z.ge_ii, Z.eq_ii, Z.ne_ii, Z.eq_dd, Z.ne_dd, Z.isN_d, Z.notN_d, Z.wt_tup, Z.D.deq, hms, hi, ← hce, hM', hc, hg, SZ]
      · by_cases hc2 : ce < 0
        · simp [Z.sseq, Z.snil, Z.sret, Z.sexp, Z.sasg, Z.spar, Z.sif, Z.spass, Z.sbrk, Z.scnt, Z.sthen_nx, Z.sthen_rt, Z.sthen_bk, Z.sthen_ct, Z.of_ok, Z.andThen_ok, Z.mb, Z.ok, Z.mo, Z.zvar, Z.zc, Z.zbin, Z.zneg, Z.zcmp, Z.zchn, Z.copM, Z.zbl, Z.ztru, Z.zand, Z.zor, Z.znot, Z.zandv, Z.zorv, Z.zite, Z.znil, Z.zcons, Z.ztup, Z.zix, Z.zlen, Z.zisi, Z.isiB, Z.zcall, Z.endD, Z.gnm, Z.gtup, Z.gcons, Z.gnil, Z.gc_self, Z.zallq, Z.zanyq, Z.zsumq, Z.zminq, Z.zmaxq, Z.zlenq, Z.ztupq, Z.zrow, Z.zst, Z.zof, Z.zofL, Z.zlst, Z.lstM, Z.zcomp, Z.zrng, Z.rngM, Z.zcat, Z.zrep, Z.zzip, Z.zsort, Z.zsortR, Z.zsortset, Z.zslT, Z.zslL, Z.znone, Z.zsome, Z.znew, Z.zfz, Z.alloc, Z.wipeD, Z.sfor, Z.zm1, Z.zm0, Z.bmD, Z.zdvm, Z.zabs, Z.zmx2, Z.zmn2, Z.zint, Z.zcnt, Z.gsub, Z.setD, Z.ztt, Z.seq_tup, Z.seq_lst, Z.lst_lst, Z.ty_non, Z.ty_bl, Z.ty_int, Z.ty_str, Z.ty_tup, Z.ty_lst, Z.tru_non, Z.tru_bl, Z.tru_int, Z.tru_tup, Z.tru_lst, Z.len_tup, Z.len_lst, Z.ix_int, Z.at_0, Z.at_1, Z.at_2, Z.at_3, Z.at_4, Z.add_ii, Z.sub_ii, Z.mul_ii, Z.fdiv_ii, Z.mod_ii, Z.pow_ii, Z.add_tt, Z.lt_ii, Z.le_ii, Z.gt_ii, Z.ge_ii, Z.eq_ii, Z.ne_ii, Z.eq_dd, Z.ne_dd, Z.isN_d, Z.notN_d, Z.wt_tup, Z.D.deq, hms, hi, ← hce, hM', hc2, hg, SZ]
        · simp [Z.sseq, Z.snil, Z.sret, Z.sexp, Z.sasg, Z.spar, Z.sif, Z.spass, Z.sbrk, Z.scnt, Z.sthen_nx, Z.sthen_rt, Z.sthen_bk, Z.sthen_ct, Z.of_ok, Z.andThen_ok, Z.mb, Z.ok, Z.mo, Z.zvar, Z.zc, Z.zbin, Z.zneg, Z.zcmp, Z.zchn, Z.copM, Z.zbl, Z.ztru, Z.zand, Z.zor, Z.znot, Z.zandv, Z.zorv, Z.zite, Z.znil, Z.zcons, Z.ztup, Z.zix, Z.zlen, Z.zisi, Z.isiB, Z.zcall, Z.endD, Z.gnm, Z.gtup, Z.gcons, Z.gnil, Z.gc_self, Z.zallq, Z.zanyq, Z.zsumq, Z.zminq, Z.zmaxq, Z.zlenq, Z.ztupq, Z.zrow, Z.zst, Z.zof, Z.zofL, Z.zlst, Z.lstM, Z.zcomp, Z.zrng, Z.rngM, Z.zcat, Z.zrep, Z.zzip, Z.zsort, Z.zsortR, Z.zsortset, Z.zslT, Z.zslL, Z.znone, Z.zsome, Z.znew, Z.zfz, Z.alloc, Z.wipeD, Z.sfor, Z.zm1, Z.zm0, Z.bmD, Z.zdvm, Z.zabs, Z.zmx2, Z.zmn2, Z.zint, Z.zcnt, Z.gsub, Z.setD, Z.ztt, Z.seq_tup, Z.seq_lst, Z.lst_lst, Z.ty_non, Z.ty_bl, Z.ty_int, Z.ty_str, Z.ty_tup, Z.ty_lst, Z.tru_non, Z.tru_bl, Z.tru_int, Z.tru_tup, Z.tru_lst, Z.len_tup, Z.len_lst, Z.ix_int, Z.at_0, Z.at_1, Z.at_2, Z.at_3, Z.at_4, Z.add_ii, Z.sub_ii, Z.mul_ii, Z.fdiv_ii, Z.mod_ii, Z.pow_ii, Z.add_tt, Z.lt_ii, Z.le_ii, Z.gt_ii, Z.ge_ii, Z.eq_ii, Z.ne_ii, Z.eq_dd, Z.ne_dd, Z.isN_d, Z.notN_d, Z.wt_tup, Z.D.deq, hms, hi, ← hce, hM', hc, hc2, hg, SZ]
    · have h3 := Int.emod_lt_of_pos (if ce < 0 then -ce else ce) h2
      have h4 : (10 : Int) ^ 384 ≤ 10 ^ 400 := by decide +kernel
      exact Int.le_trans (Int.le_of_lt h3) h4
  · have c1 : ¬ ce < 0 := fun h => hc (.inl h)
    have c2 : ¬ 1000000000000000000 ≤ ce := fun h => hc (.inr h)
    have g1 : small ce = true := sm (by omega) (Int.le_trans (show ce ≤ 1000000000000000000 by omega) (by decide +kernel))
    have g2 : small 48271 = true := by rw [small_def]; decide +kernel
    have g3 : small 977 = true := by rw [small_def]; decide +kernel
    have g4 : small j = true := sm hj (Int.le_trans hj2 (by decide +kernel))
    have g5 : small (977 * j) = true := sm (by omega) (Int.le_trans (show 977 * j ≤ 11724 by omega) (by decide +kernel))
    have jj : 0 ≤ 977 * j * j := Int.mul_nonneg (by omega) hj
    obtain ⟨mo', fo', s5', q1, q2, q3⟩ := pool_loop A (some (.lst (ns.map .int))) (some (.int j)) (some (.int ce)) 27 0 (ce * 48271 + 977 * j * j + 13) 0 none (by omega) (by omega) (by omega) (by decide) (by omega)
    have hr : rngI 0 27 = (List.range 27).map fun (i : Nat) => D.int (0 + i) := rfl
    refine ⟨fo', ?_, q2, small_le q2 (Int.le_trans (Int.le_of_lt q3) (by decide +kernel))⟩
    rw [c__law_pool, mb__law_pool]
    rw [← hr] at q1
    unfold bodyQ at q1
    simp [Z.sseq, Z.snil, Z.sret, Z.sexp, Z.sasg, Z.spar, Z.sif, Z.spass, Z.sbrk, Z.scnt, Z.sthen_nx, Z.sthen_rt, Z.sthen_bk, Z.sthen_ct, Z.of_ok, Z.andThen_ok, Z.mb, Z.ok, Z.mo, Z.zvar, Z.zc, Z.zbin, Z.zneg, Z.zcmp, Z.zchn, Z.copM, Z.zbl, Z.ztru, Z.zand, Z.zor, Z.znot, Z.zandv, Z.zorv, Z.zite, Z.znil, Z.zcons, Z.ztup, Z.zix, Z.zlen, Z.zisi, Z.isiB, Z.zcall, Z.endD, Z.gnm, Z.gtup, Z.gcons, Z.gnil, Z.gc_self, Z.zallq, Z.zanyq, Z.zsumq, Z.zminq, Z.zmaxq, Z.zlenq, Z.ztupq, Z.zrow, Z.zst, Z.zof, Z.zofL, Z.zlst, Z.lstM, Z.zcomp, Z.zrng, Z.rngM, Z.zcat, Z.zrep, Z.zzip, Z.zsort, Z.zsortR, Z.zsortset, Z.zslT, Z.zslL, Z.znone, Z.zsome, Z.znew, Z.zfz, Z.alloc, Z.wipeD, Z.sfor, Z.zm1, Z.zm0, Z.bmD, Z.zdvm, Z.zabs, Z.zmx2, Z.zmn2, Z.zint, Z.zcnt, Z.gsub, Z.setD, Z.ztt, Z.seq_tup, Z.seq_lst, Z.lst_lst, Z.ty_non, Z.ty_bl, Z.ty_int, Z.ty_str, Z.ty_tup, Z.ty_lst, Z.tru_non, Z.tru_bl, Z.tru_int, Z.tru_tup, Z.tru_lst, Z.len_tup, Z.len_lst, Z.ix_int, Z.at_0, Z.at_1, Z.at_2, Z.at_3, Z.at_4, Z.add_ii, Z.sub_ii, Z.mul_ii, Z.fdiv_ii, Z.mod_ii, Z.pow_ii, Z.add_tt, Z.lt_ii, Z.le_ii, Z.gt_ii, Z.ge_ii, Z.eq_ii, Z.ne_ii, Z.eq_dd, Z.ne_dd, Z.isN_d, Z.notN_d, Z.wt_tup, Z.D.deq, hms, hi, ← hce, c1, c2, g1, g2, g3, g4, g5, q1, hg, SZ]
end Zp

set_option maxHeartbeats 2000000
namespace Zp
open PySem Z Zq
abbrev DB : Int := 999999999999999999999999999799
structure Dr (cs : Cs) : Prop where
  ok : CallsOk cs
  len : cs.length ≤ 11
  far : ∀ c ∈ cs, c.2 ≤ DB
theorem pickQ (Q : Int → Prop) (l : List Int) (i : Int) (h0 : 0 ≤ i) (h1 : i < l.length) (h : ∀ x ∈ l, Q x) : ∃ w, L2.atI (l.map D.int) i = some (.int w) ∧ Q w := by
  obtain ⟨n, rfl⟩ : ∃ n : Nat, i = n := ⟨i.toNat, by omega⟩
  have hn : n < l.length := by omega
  refine ⟨l[n], ?_, h _ (List.getElem_mem hn)⟩
  rw [at_nat, List.getElem?_map, List.getElem?_eq_getElem hn]; rfl
theorem flat_cs (cs : Cs) : (csD cs).flat = true := flats_all fun x hx => by
  obtain ⟨p, _, rfl⟩ := List.mem_map.mp hx
  rfl
theorem drawn_loop (k : Nat) (A : Hh) (n : Nat) (hn : n < A.length) (bs wd lt : Int) (hb : 0 ≤ bs ∧ bs ≤ BG - 300) (hwd : 1 ≤ wd ∧ wd ≤ 40) (hlt : 1 ≤ lt ∧ lt ≤ 60) : ∀ (xs : List D) (p : Int) (cs : Cs) (s3 s6 : Option D), 0 ≤ p → small p = true → cs.length + xs.length ≤ 11 → (∀ c ∈ cs, 1 ≤ c.1 ∧ c.1 ≤ c.2 ∧ c.2 ≤ DB) →
    ∃ (p' : Int) (cs' : Cs) (s3' s6' : Option D), forL [] (gnm 3) (lb__law_drawn_0 ⟨callN Pg (k + 1)⟩) xs [some (.ref n), some (.int bs), some (.ref A.length), s3, some (.int wd), some (.int lt), s6] (pl A n p [.lst (cs.map cD)])
      = some (.nx [some (.ref n), some (.int bs), some (.ref A.length), s3', some (.int wd), some (.int lt), s6'] (pl A n p' [.lst (cs'.map cD)])) ∧ cs'.length ≤ 11 ∧ (∀ c ∈ cs', 1 ≤ c.1 ∧ c.1 ≤ c.2 ∧ c.2 ≤ DB) ∧ 0 ≤ p' ∧ small p' = true
  | [], p, cs, s3, s6, h0, hs, hl, hc => ⟨p, cs, s3, s6, rfl, by simpa using hl, hc, h0, hs⟩
  | x :: xs, p, cs, s3, s6, h0, hs, hl, hc => by
    rw [List.length_cons] at hl
    have hw0 : 0 < wd := by omega
    have hl0 : 0 < lt := by omega
    obtain ⟨p1, q1⟩ := small_div h0 hw0 hs
    obtain ⟨p2, q2⟩ := small_div p1 hl0 q1
    have r1 := Int.emod_nonneg p (show wd ≠ 0 by omega)
    have r2 := Int.emod_nonneg (p / wd) (show lt ≠ 0 by omega)
    have r3 := Int.emod_lt_of_pos p hw0
    have r4 := Int.emod_lt_of_pos (p / wd) hl0
    have t1 := take_pl k (A := A) (n := n) (X := [.lst (cs.map cD)]) hn hw0 hs
    have t2 := take_pl k (A := A) (n := n) (X := [.lst (cs.map cD)]) hn hl0 q1
    obtain ⟨p', cs', s3', s6', g1, g2, g3⟩ := drawn_loop k A n hn bs wd lt hb hwd hlt xs (p / wd / lt) (cs ++ [(bs + 1 + p % wd, bs + 1 + p % wd + p / wd % lt)]) (some x) (some (.int (bs + 1 + p % wd))) p2 q2 (by rw [List.length_append, List.length_singleton]; omega) (fun c hc2 => by
      rcases List.mem_append.mp hc2 with h | h
      · exact hc c h
      · rw [List.mem_singleton] at h
        subst h
        unfold DB
        unfold BG at hb
        refine ⟨?_, ?_, ?_⟩ <;> dsimp only <;> omega)
    have l1 : lstD (pl A n (p / wd) [.lst (cs.map cD)]) (.ref A.length) = some (cs.map cD) := lst_ref pl_last
    have b1 : lb__law_drawn_0 ⟨callN Pg (k + 1)⟩ [some (.ref n), some (.int bs), some (.ref A.length), some x, some (.int wd), some (.int lt), s6] (pl A n p [.lst (cs.map cD)])
        = some (.nx [some (.ref n), some (.int bs), some (.ref A.length), some x, some (.int wd), some (.int lt), some (.int (bs + 1 + p % wd))] (pl A n (p / wd / lt) [.lst ((cs ++ [(bs + 1 + p % wd, bs + 1 + p % wd + p / wd % lt)]).map cD)])) := by
      have z2 : cs.length < 16000000 := by omega
      unfold lb__law_drawn_0
      simp [sseq, snil, sasg, sexp, gnm, mb, zvar, zc, ok, andThen_ok, of_ok, sthen_nx, zbin, zcall, zcons, znil, add_ii, t1, t2, zm1, l1, ztup, bmD, pl_last, pl_put, cD, SZ, z2]
    exact ⟨p', cs', s3', s6', by simp only [forL, wOk, List.all_nil, if_true, gnm]; exact (by rw [show ([some (D.ref n), some (D.int bs), some (D.ref A.length), s3, some (D.int wd), some (D.int lt), s6].set 3 (some x)) = [some (D.ref n), some (D.int bs), some (D.ref A.length), some x, some (D.int wd), some (D.int lt), s6] from rfl, b1]; exact g1), g2, g3⟩
theorem e_drawn (k n : Nat) (p : Int) (A : Hh) (hA : A[n]? = some (.lst [.int p])) (h0 : 0 ≤ p) (hs : small p = true) :
    ∃ cs p', callN Pg (k + 2) i__law_drawn [.ref n] A = some (.ok (csD cs) (A.set n (.lst [.int p']))) ∧ Dr cs ∧ 0 ≤ p' ∧ small p' = true := by
  have hn : n < A.length := (List.getElem?_eq_some_iff.mp hA).1
  have eA : A = pl A n p [] := by
    unfold pl
    rw [List.append_nil]
    have h := (List.getElem?_eq_some_iff.mp hA).2
    conv => rhs; rw [← h, List.set_getElem_self]
  obtain ⟨a1, b1⟩ := small_div h0 (show (0 : Int) < 3 by omega) hs
  obtain ⟨a2, b2⟩ := small_div a1 (show (0 : Int) < 3 by omega) b1
  obtain ⟨a3, b3⟩ := small_div a2 (show (0 : Int) < 4 by omega) b2
  obtain ⟨a4, b4⟩ := small_div a3 (show (0 : Int) < 12 by omega) b3
  have t1 := take_pl k (A := A) (n := n) (X := []) hn (show (0 : Int) < 3 by omega) hs
  have t2 := take_pl k (A := A) (n := n) (X := []) hn (show (0 : Int) < 3 by omega) b1
  have t3 := take_pl k (A := A) (n := n) (X := []) hn (show (0 : Int) < 4 by omega) b2
  have t4 := take_pl k (A := A) (n := n) (X := [.lst []]) hn (show (0 : Int) < 12 by omega) b3
  obtain ⟨bs, w1, w2⟩ := pickQ (fun x => 0 ≤ x ∧ x ≤ BG - 300) [0, 0, 999999999999999999999999999700] (p % 3) (by omega) (by simp; omega) (by simp [BG])
  obtain ⟨wd, w3, w4⟩ := pickQ (fun x => 1 ≤ x ∧ x ≤ 40) [3, 8, 40] (p / 3 % 3) (by omega) (by simp; omega) (by simp)
  obtain ⟨lt, w5, w6⟩ := pickQ (fun x => 1 ≤ x ∧ x ≤ 60) [1, 3, 6, 60] (p / 3 / 3 % 4) (by omega) (by simp; omega) (by simp)
  simp only [List.map_cons, List.map_nil] at w1 w3 w5
  have c0 : 0 ≤ p / 3 / 3 / 4 % 12 := by omega
  have c1 : p / 3 / 3 / 4 % 12 < 12 := by omega
  obtain ⟨p', cs, s3, s6, l1, l2, l3, l4, l5⟩ := drawn_loop k A n hn bs wd lt w2 w4 w6 (rngI 0 (p / 3 / 3 / 4 % 12)) (p / 3 / 3 / 4 / 12) [] none none a4 b4 (by rw [rngI_len, List.length_nil]; omega) (fun c hc => absurd hc List.not_mem_nil)
  obtain ⟨ds, d1, d2, d3⟩ := sort_cs (cs := cs) (by omega) (fun c hc => ⟨(l3 c hc).1, (l3 c hc).2.1, Int.le_trans (l3 c hc).2.2 (by decide)⟩)
  have hl : lstD (pl A n p' [.lst (cs.map cD)]) (.ref A.length) = some (cs.map cD) := lst_ref pl_last
  have hg : gc A (pl A n p' [.lst (cs.map cD)]) (csD ds) = A.set n (.lst [.int p']) := by
    unfold pl
    refine gc_drop (List.length_set ..) (D.flat_lo _ _ (flat_cs ds)) fun i o e => ?_
    by_cases hi : n = i
    · subst hi
      rw [List.getElem?_set_self hn] at e
      cases e
      exact .inr rfl
    · rw [List.getElem?_set_ne hi] at e
      exact .inl e
  refine ⟨ds, p', ?_, ⟨⟨by rw [d2.length_eq]; omega, fun c hc => ?_, d3⟩, by rw [d2.length_eq]; exact l2, fun c hc => (l3 c (d2.mem_iff.mp hc)).2.2⟩, l4, l5⟩
  · rw [c__law_drawn, mb__law_drawn]
    have r1 : (-1152921504606846976 : Int) ≤ p / 3 / 3 / 4 % 12 := by omega
    have r2 : p / 3 / 3 / 4 % 12 ≤ 1152921504606846976 := by omega
    have p30 : ∀ A, bopD .pow (.int 10) (.int 30) A = some (.ok (.int 1000000000000000000000000000000) A) := fun A => by rw [pow_ii]; kernel_rfl
    have ap : ∀ q, pl A n q [] ++ [O.lst []] = pl A n q [O.lst []] := fun q => by unfold pl; rw [List.append_nil]
    have al : ∀ q, (pl A n q []).length = A.length := fun q => by unfold pl; rw [List.append_nil, List.length_set]
    have hg2 : gc (pl A n p []) (pl A n p' [.lst (cs.map cD)]) (csD ds) = A.set n (.lst [.int p']) := by rw [← eA]; exact hg
    conv => lhs; rw [eA]
    rw [List.map_nil] at l1
    unfold csD at hg2
    simp [Z.sseq, Z.snil, Z.sret, Z.sexp, Z.sasg, Z.spar, Z.sif, Z.spass, Z.sbrk, Z.scnt, Z.sthen_nx, Z.sthen_rt, Z.sthen_bk, Z.sthen_ct, Z.of_ok, Z.andThen_ok, Z.mb, Z.ok, Z.mo, Z.zvar, Z.zc, Z.zbin, Z.zneg, Z.zcmp, Z.zchn, Z.copM, Z.zbl, Z.ztru, Z.zand, Z.zor, Z.znot, Z.zandv, Z.zorv, Z.zite, Z.znil, Z.zcons, Z.ztup, Z.zix, Z.zlen, Z.zisi, Z.isiB, Z.zcall, Z.endD, Z.gnm, Z.gtup, Z.gcons, Z.gnil, Z.gc_self, Z.zallq, Z.zanyq, Z.zsumq, Z.zminq, Z.zmaxq, Z.zlenq, Z.ztupq, Z.zrow, Z.zst, Z.zof, Z.zofL, Z.zlst, Z.lstM, Z.zcomp, Z.zrng, Z.rngM, Z.zcat, Z.zrep, Z.zzip, Z.zsort, Z.zsortR, Z.zsortset, Z.zslT, Z.zslL, Z.znone, Z.zsome, Z.znew, Z.zfz, Z.alloc, Z.wipeD, Z.sfor, Z.zm1, Z.zm0, Z.bmD, Z.zdvm, Z.zabs, Z.zmx2, Z.zmn2, Z.zint, Z.zcnt, Z.gsub, Z.setD, Z.ztt, Z.seq_tup, Z.seq_lst, Z.lst_lst, Z.ty_non, Z.ty_bl, Z.ty_int, Z.ty_str, Z.ty_tup, Z.ty_lst, Z.tru_non, Z.tru_bl, Z.tru_int, Z.tru_tup, Z.tru_lst, Z.len_tup, Z.len_lst, Z.ix_int, Z.at_0, Z.at_1, Z.at_2, Z.at_3, Z.at_4, Z.add_ii, Z.sub_ii, Z.mul_ii, Z.fdiv_ii, Z.mod_ii, Z.pow_ii, Z.add_tt, Z.lt_ii, Z.le_ii, Z.gt_ii, Z.ge_ii, Z.eq_ii, Z.ne_ii, Z.eq_dd, Z.ne_dd, Z.isN_d, Z.notN_d, Z.wt_tup, Z.D.deq, p30, t1, t2, t3, t4, w1, w3, w5, r1, r2, ap, al, l1, hl, d1, SZ, csD, hg2]
  · obtain ⟨h1, h2, h3⟩ := l3 c (d2.mem_iff.mp hc)
    exact ⟨h1, h2, Int.le_trans h3 (by decide)⟩
end Zp

set_option maxHeartbeats 2000000
namespace Zp
open PySem Z Zq L2
def PD (P : Pm) : List (Key × D) := P.map fun q => ((.inl (q.1 : Int) : Key), D.int q.2)
def TD (T : List Int) : List (Key × D) := T.map fun t => ((.inl t : Key), D.bl true)
def hpt (A : Hh) (a b : Nat) (P : Pm) (T : List Int) : Hh := (A.set a (.dck (PD P))).set b (.dck (TD T))
section
variable {A : Hh} {a b : Nat} {P P' : Pm} {T T' : List Int}
theorem hpt_p (ha : a < A.length) (hab : a ≠ b) : (hpt A a b P T)[a]? = some (.dck (PD P)) := by
  unfold hpt; rw [List.getElem?_set_ne (Ne.symm hab), List.getElem?_set_self ha]
theorem hpt_t (hb : b < A.length) : (hpt A a b P T)[b]? = some (.dck (TD T)) := by
  unfold hpt; rw [List.getElem?_set_self (by rw [List.length_set]; exact hb)]
theorem hpt_sp (hab : a ≠ b) : (hpt A a b P T).set a (.dck (PD P')) = hpt A a b P' T := by
  unfold hpt; rw [List.set_comm _ _ (Ne.symm hab), List.set_set]
theorem hpt_st : (hpt A a b P T).set b (.dck (TD T')) = hpt A a b P T' := by unfold hpt; rw [List.set_set]
theorem hpt_len : (hpt A a b P T).length = A.length := by unfold hpt; rw [List.length_set, List.length_set]
theorem gc_hpt (d : D) : gc (hpt A a b P T) (hpt A a b P' T') d = hpt A a b P' T' := gc_len (by rw [hpt_len, hpt_len])
theorem TD_any (x : Int) : ((TD T).any fun p => decide (p.1 = .inl x)) = decide (x ∈ T) := by
  rw [Bool.eq_iff_iff, List.any_eq_true, decide_eq_true_eq]
  unfold TD
  constructor
  · rintro ⟨p, hp, e⟩
    obtain ⟨t, ht, rfl⟩ := List.mem_map.mp hp
    have e := of_decide_eq_true e
    injection e with e
    exact e ▸ ht
  · exact fun h => ⟨_, List.mem_map.mpr ⟨x, h, rfl⟩, decide_eq_true rfl⟩
theorem TD_put {x : Int} (h : x ∉ T) : kPut (TD T) (.inl x) (.bl true) = TD (T ++ [x]) := by
  unfold kPut
  rw [TD_any, decide_eq_false h, if_neg Bool.false_ne_true]
  unfold TD
  rw [List.map_append]; rfl
theorem PD_any (i : Nat) : ((PD P).any fun p => decide (p.1 = .inl (i : Int))) = P.any fun q => decide (q.1 = i) := by
  unfold PD
  rw [List.any_map]
  congr 1
  funext q
  show decide ((.inl (q.1 : Int) : Key) = .inl (i : Int)) = _
  rw [Bool.eq_iff_iff, decide_eq_true_eq, decide_eq_true_eq]
  constructor
  · intro e
    injection e with e
    exact Int.ofNat_inj.mp e
  · intro e
    rw [e]
theorem PD_put (i : Nat) (x : Int) : kPut (PD P) (.inl (i : Int)) (.int x) = PD (putP P i x) := by
  unfold kPut putP
  rw [PD_any]
  by_cases h : P.any (fun q => decide (q.1 = i)) = true
  · rw [if_pos h, if_pos h]
    unfold PD
    rw [List.map_map, List.map_map]
    refine List.map_congr_left fun q _ => ?_
    show (if ((.inl (q.1 : Int) : Key) = .inl (i : Int)) then ((.inl (q.1 : Int) : Key), D.int x) else _) = _
    by_cases e : q.1 = i
    · simp [e]
    · have e2 : ¬ ((.inl (q.1 : Int) : Key) = .inl (i : Int)) := fun h => by
        injection h with h
        exact e (Int.ofNat_inj.mp h)
      rw [if_neg e2]
      simp [e]
  · rw [if_neg h, if_neg h]
    unfold PD
    rw [List.map_append]; rfl
theorem PD_len : (PD P).length = P.length := by unfold PD; rw [List.length_map]
theorem TD_len : (TD T).length = T.length := by unfold TD; rw [List.length_map]
theorem din_T (hb : b < A.length) (x : Int) : dinD (.int x) (.ref b) (hpt A a b P T) = some (decide (x ∈ T)) := by
  unfold dinD
  simp only [hpt_t hb, TD_any]
theorem set_T (hb : b < A.length) {x : Int} (h : x ∉ T) (hz : T.length < SZ) : setK (hpt A a b P T) (.ref b) (.int x) (.bl true) = some (hpt A a b P (T ++ [x])) := by
  unfold setK
  simp only [hpt_t hb, TD_len]
  rw [if_pos hz, TD_put h, hpt_st]
theorem set_P (ha : a < A.length) (hab : a ≠ b) (i : Nat) (x : Int) (hz : P.length < SZ) : setK (hpt A a b P T) (.ref a) (.int (i : Int)) (.int x) = some (hpt A a b (putP P i x) T) := by
  unfold setK
  simp only [hpt_p ha hab, PD_len]
  rw [if_pos hz, PD_put, hpt_sp hab]
theorem dAt_PD : ∀ {P : Pm}, Ks P → ∀ q ∈ P, dAt (PD P) (.inl (q.1 : Int)) = some (.int q.2)
  | [], _, q, h => absurd h List.not_mem_nil
  | x :: P, h, q, hq => by
    obtain ⟨h1, h2⟩ := List.pairwise_cons.mp h
    have ih := fun hq => dAt_PD (P := P) h2 q hq
    unfold dAt PD at ih ⊢
    rw [List.map_cons]
    rcases List.mem_cons.mp hq with e | hq
    · subst e
      rw [List.find?_cons_of_pos (by simp)]; rfl
    · have e2 : ¬ ((.inl (x.1 : Int) : Key) = .inl (q.1 : Int)) := fun h => by
        injection h with h
        exact h1 q hq (Int.ofNat_inj.mp h)
      rw [List.find?_cons_of_neg (by simpa using fun e => e2 (by rw [e]))]
      exact ih hq
theorem sel_PD (h : Ks P) (x : Int) : ((PD P).filterMap fun p => selK (PD P) x p.1) = (P.filter fun q => decide (q.2 = x)).map fun q => (q.1 : Int) := by
  have key : ∀ L : Pm, (∀ q ∈ L, q ∈ P) → (L.filterMap fun q => selK (PD P) x (.inl (q.1 : Int))) = (L.filter fun q => decide (q.2 = x)).map fun q => (q.1 : Int) := by
    intro L
    induction L with
    | nil => exact fun _ => rfl
    | cons q L ih =>
      intro hL
      have e : selK (PD P) x (.inl (q.1 : Int)) = if q.2 = x then some (q.1 : Int) else none := by
        unfold selK
        rw [dAt_PD h q (hL q (List.mem_cons_self ..))]
      have ih := ih fun r hr => hL r (List.mem_cons_of_mem _ hr)
      by_cases c : q.2 = x
      · rw [List.filterMap_cons_some (by rw [e, if_pos c]), List.filter_cons_of_pos (p := fun q : Nat × Int => decide (q.2 = x)) (decide_eq_true c), List.map_cons, ih]
      · rw [List.filterMap_cons_none (by rw [e, if_neg c]), List.filter_cons_of_neg (p := fun q : Nat × Int => decide (q.2 = x)) (by simpa using c), ih]
  have := key P fun _ h => h
  conv => lhs; unfold PD
  rw [List.filterMap_map]
  exact this
theorem dk_P (ha : a < A.length) (hab : a ≠ b) (h : Ks P) (hz : P.length < 1000) {σ : Sl} {x : Int} (e3 : σ[3]? = some (some (.ref a))) (e5 : σ[5]? = some (some (.int x))) (e8 : 8 < σ.length) :
    zdkeys 3 5 8 σ (hpt A a b P T) = some (.ok ((P.filter fun q => decide (q.2 = x)).map fun q => D.int (q.1 : Int)) (hpt A a b P T)) := by
  have al : (PD P).all (okE (PD P)) = true := by
    refine List.all_eq_true.mpr fun p hp => ?_
    unfold PD at hp
    obtain ⟨q, hq, rfl⟩ := List.mem_map.mp hp
    unfold okE
    dsimp only
    rw [dAt_PD h q hq]
  unfold zdkeys
  simp only [e3, e5, hpt_p ha hab]
  rw [if_pos ⟨⟨e8, by rw [PD_len]; exact hz⟩, al⟩, sel_PD h, List.map_map]
  rfl
end
theorem flat_len : ∀ (l : List Nat) (f : Nat → List Int) (c : Nat), (∀ x ∈ l, (f x).length ≤ c) → (l.flatMap f).length ≤ l.length * c
  | [], _, _, _ => by simp
  | x :: l, f, c, h => by
    rw [List.flatMap_cons, List.length_append, List.length_cons, Nat.add_mul, Nat.one_mul, Nat.add_comm]
    exact Nat.add_le_add (flat_len l f c fun y hy => h y (List.mem_cons_of_mem _ hy)) (h x (List.mem_cons_self ..))
def Wc (cs : Cs) (i : Nat) (t : Int) : Prop := ca cs i ≤ t ∧ t ≤ min (ce cs i) (ca cs i + cs.length)
def bts (cs : Cs) (i : Nat) : List Int := (List.range (min (ce cs i) (ca cs i + cs.length) + 1 - ca cs i).toNat).map fun (k : Nat) => ca cs i + (k : Int)
theorem mem_bts {cs : Cs} {i : Nat} {t : Int} : t ∈ bts cs i ↔ Wc cs i t := by
  unfold bts Wc
  rw [List.mem_map]
  constructor
  · rintro ⟨k, hk, rfl⟩
    have := List.mem_range.mp hk
    omega
  · intro h
    exact ⟨(t - ca cs i).toNat, List.mem_range.mpr (by omega), by omega⟩
theorem bts_len (cs : Cs) (i : Nat) : (bts cs i).length ≤ cs.length + 1 := by
  unfold bts
  rw [List.length_map, List.length_range]
  omega
def Far (cs : Cs) (T : List Int) : Prop := ∀ t ∈ T, ∃ j, j < cs.length ∧ Wc cs j t
theorem far_len {cs : Cs} {T : List Int} (hz : cs.length ≤ 12) (hd : T.Nodup) (hf : Far cs T) : T.length ≤ 156 := by
  have h1 := List.Nodup.length_le_of_subset (l₂ := (List.range cs.length).flatMap (bts cs)) hd fun t ht => by
    obtain ⟨j, hj, hw⟩ := hf t ht
    exact List.mem_flatMap.mpr ⟨j, List.mem_range.mpr hj, mem_bts.mpr hw⟩
  have h2 := flat_len (List.range cs.length) (bts cs) (cs.length + 1) fun x _ => bts_len cs x
  rw [List.length_range] at h2
  have h3 : cs.length * (cs.length + 1) ≤ 12 * 13 := Nat.mul_le_mul hz (by omega)
  omega
theorem _root_.Zq.Vd.len {W : Nat → Int → Prop} {n m : Nat} {P : Pm} (v : Vd W n m P) : P.length ≤ n := by
  have nd : (P.map (·.1)).Nodup := by unfold List.Nodup; rw [List.pairwise_map]; exact v.ks
  have := List.Nodup.length_le_of_subset (l₂ := List.range n) nd fun j hj => by
    obtain ⟨q, hq, rfl⟩ := List.mem_map.mp hj
    exact List.mem_range.mpr (v.lt q hq)
  rw [List.length_map, List.length_range] at this
  exact this
theorem e_beats (k : Nat) (cs : Cs) (i : Nat) (A : Hh) (hz : cs.length ≤ 12) : callN Pg (k + 1) i__law_beats [.tup [.int (ca cs i), .int (ce cs i)], .int cs.length] A = some (.ok (.lst ((bts cs i).map .int)) A) := by
  have e : (bts cs i).map D.int = rngI (ca cs i) (min (ce cs i) (ca cs i + cs.length) + 1) := by
    unfold bts rngI
    rw [List.map_map]; rfl
  have hl := bts_len cs i
  have hl2 : (min (ce cs i) (ca cs i + cs.length) + 1 - ca cs i).toNat ≤ 16000000 := by
    unfold bts at hl
    rw [List.length_map, List.length_range] at hl
    omega
  have hl3 : min (ce cs i) (ca cs i + cs.length) + 1 - ca cs i ≤ 16000000 := by omega
  rw [c__law_beats, mb__law_beats, e]
  simp [Z.sseq, Z.snil, Z.sret, Z.sexp, Z.sasg, Z.spar, Z.sif, Z.spass, Z.sbrk, Z.scnt, Z.sthen_nx, Z.sthen_rt, Z.sthen_bk, Z.sthen_ct, Z.of_ok, Z.andThen_ok, Z.mb, Z.ok, Z.mo, Z.zvar, Z.zc, Z.zbin, Z.zneg, Z.zcmp, Z.zchn, Z.copM, Z.zbl, Z.ztru, Z.zand, Z.zor, Z.znot, Z.zandv, Z.zorv, Z.zite, Z.znil, Z.zcons, Z.ztup, Z.zix, Z.zlen, Z.zisi, Z.isiB, Z.zcall, Z.endD, Z.gnm, Z.gtup, Z.gcons, Z.gnil, Z.gc_self, Z.zallq, Z.zanyq, Z.zsumq, Z.zminq, Z.zmaxq, Z.zlenq, Z.ztupq, Z.zrow, Z.zst, Z.zof, Z.zofL, Z.zlst, Z.lstM, Z.zcomp, Z.zrng, Z.rngM, Z.zcat, Z.zrep, Z.zzip, Z.zsort, Z.zsortR, Z.zsortset, Z.zslT, Z.zslL, Z.znone, Z.zsome, Z.znew, Z.zfz, Z.alloc, Z.wipeD, Z.sfor, Z.zm1, Z.zm0, Z.bmD, Z.zdvm, Z.zabs, Z.zmx2, Z.zmn2, Z.zint, Z.zcnt, Z.gsub, Z.setD, Z.ztt, Z.seq_tup, Z.seq_lst, Z.lst_lst, Z.ty_non, Z.ty_bl, Z.ty_int, Z.ty_str, Z.ty_tup, Z.ty_lst, Z.tru_non, Z.tru_bl, Z.tru_int, Z.tru_tup, Z.tru_lst, Z.len_tup, Z.len_lst, Z.ix_int, Z.at_0, Z.at_1, Z.at_2, Z.at_3, Z.at_4, Z.add_ii, Z.sub_ii, Z.mul_ii, Z.fdiv_ii, Z.mod_ii, Z.pow_ii, Z.add_tt, Z.lt_ii, Z.le_ii, Z.gt_ii, Z.ge_ii, Z.eq_ii, Z.ne_ii, Z.eq_dd, Z.ne_dd, Z.isN_d, Z.notN_d, Z.wt_tup, Z.D.deq, zlrg, rngL, hl3, SZ]
theorem cnt_lt {P : Pm} {p p' : Nat × Int → Bool} {q : Nat × Int} (h : P.Nodup) (hs : ∀ x ∈ P, p' x = true → p x = true) (hq : q ∈ P) (h1 : p q = true) (h2 : p' q = false) : P.countP p' + 1 ≤ P.countP p := by
  rw [List.countP_eq_length_filter, List.countP_eq_length_filter]
  have nd : (q :: P.filter p').Nodup := List.nodup_cons.mpr ⟨(fun hm => by rw [(List.mem_filter.mp hm).2] at h2; cases h2), h.filter _⟩
  have := List.Nodup.length_le_of_subset (l₂ := P.filter p) nd fun x hx => by
    rcases List.mem_cons.mp hx with e | hx
    · subst e; exact List.mem_filter.mpr ⟨hq, h1⟩
    · obtain ⟨a, b⟩ := List.mem_filter.mp hx
      exact List.mem_filter.mpr ⟨a, hs x a b⟩
  rw [List.length_cons] at this
  exact this
section
variable (cs : Cs) (m : Nat) (A : Hh) (a b : Nat)
def Sp (K : Nat) (P : Pm) (T : List Int) (i : Nat) : Prop :=
  (∃ P' T', callN Pg K i__law_placed [csD cs, .int m, .int i, .ref a, .ref b] (hpt A a b P T) = some (.ok (.bl true) (hpt A a b P' T')) ∧ Su (Wc cs) cs.length m P T i P') ∨
  (∃ T', callN Pg K i__law_placed [csD cs, .int m, .int i, .ref a, .ref b] (hpt A a b P T) = some (.ok (.bl false) (hpt A a b P T')) ∧ Fl (Wc cs) cs.length m P T T' ∧ ∀ u, Wc cs i u → u ∈ T')
variable {cs m A a b}
theorem _root_.Zq.Fl.farOf {P : Pm} {T T' : List Int} (F : Fl (Wc cs) cs.length m P T T') (h : Far cs T) : Far cs T' := fun t ht => (F.far t ht).elim (h t) id
theorem inner (hz : cs.length ≤ 12) (ha : a < A.length) (hb : b < A.length) (hab : a ≠ b) (K : Nat) (P : Pm) (x : Int) (i : Nat) (th : D) (v : Vd (Wc cs) cs.length m P)
    (T0 : List Int) (IH : ∀ T q, T.Nodup → Far cs T → (∀ t ∈ T0, t ∈ T) → q ∈ P → q.2 = x → x ∈ T → Sp cs m A a b K P T q.1) :
    ∀ (os : Pm) (T : List Int) (s7 s8 : Option D), (∀ q ∈ os, q ∈ P ∧ q.2 = x) → T.Nodup → Far cs T → (∀ t ∈ T0, t ∈ T) → x ∈ T →
    (∃ P2 T1 T2 o, (∀ t ∈ T, t ∈ T1) ∧ forL [] (gnm 7) (lb__law_placed_0 ⟨callN Pg K⟩) (os.map fun q => D.int (q.1 : Int)) [some (csD cs), some (.int m), some (.int i), some (.ref a), some (.ref b), some (.int x), some th, s7, s8] (hpt A a b P T) = some (.rt (.bl true) (hpt A a b (putP P2 i x) T2)) ∧ (o, x) ∈ P ∧ Su (Wc cs) cs.length m P T1 o P2) ∨
    (∃ T' s7', forL [] (gnm 7) (lb__law_placed_0 ⟨callN Pg K⟩) (os.map fun q => D.int (q.1 : Int)) [some (csD cs), some (.int m), some (.int i), some (.ref a), some (.ref b), some (.int x), some th, s7, s8] (hpt A a b P T) = some (.nx [some (csD cs), some (.int m), some (.int i), some (.ref a), some (.ref b), some (.int x), some th, s7', s8] (hpt A a b P T')) ∧ Fl (Wc cs) cs.length m P T T' ∧ ∀ q ∈ os, ∀ u, Wc cs q.1 u → u ∈ T')
  | [], T, s7, s8, _, hd, _, _, _ => .inr ⟨T, s7, rfl, Fl.refl hd, fun q h => absurd h List.not_mem_nil⟩
  | q :: os, T, s7, s8, hos, hd, hf, h0, hx => by
    obtain ⟨hq1, hq2⟩ := hos q (List.mem_cons_self ..)
    have g1 : gnm 7 (D.int (q.1 : Int)) [some (csD cs), some (.int m), some (.int i), some (.ref a), some (.ref b), some (.int x), some th, s7, s8] (hpt A a b P T) = some (.ok [some (csD cs), some (.int m), some (.int i), some (.ref a), some (.ref b), some (.int x), some th, some (.int (q.1 : Int)), s8] (hpt A a b P T)) := rfl
    rcases IH T q hd hf h0 hq1 hq2 hx with ⟨P2, T2, c1, S⟩ | ⟨T2, c1, F, hw⟩
    · refine .inl ⟨P2, T, T2, q.1, fun _ h => h, ?_, by rw [← hq2]; exact hq1, S⟩
      have hl := S.v.len
      have st := set_P (T := T2) (P := P2) ha hab i x (show P2.length < SZ by unfold SZ; omega)
      have b1 : lb__law_placed_0 ⟨callN Pg K⟩ [some (csD cs), some (.int m), some (.int i), some (.ref a), some (.ref b), some (.int x), some th, some (.int (q.1 : Int)), s8] (hpt A a b P T) = some (.rt (.bl true) (hpt A a b (putP P2 i x) T2)) := by
        unfold lb__law_placed_0
        simp [Z.sseq, Z.snil, Z.sret, Z.sexp, Z.sasg, Z.spar, Z.sif, Z.spass, Z.sbrk, Z.scnt, Z.sthen_nx, Z.sthen_rt, Z.sthen_bk, Z.sthen_ct, Z.of_ok, Z.andThen_ok, Z.mb, Z.ok, Z.mo, Z.zvar, Z.zc, Z.zbin, Z.zneg, Z.zcmp, Z.zchn, Z.copM, Z.zbl, Z.ztru, Z.zand, Z.zor, Z.znot, Z.zandv, Z.zorv, Z.zite, Z.znil, Z.zcons, Z.ztup, Z.zix, Z.zlen, Z.zisi, Z.isiB, Z.zcall, Z.endD, Z.gnm, Z.gtup, Z.gcons, Z.gnil, Z.gc_self, Z.zallq, Z.zanyq, Z.zsumq, Z.zminq, Z.zmaxq, Z.zlenq, Z.ztupq, Z.zrow, Z.zst, Z.zof, Z.zofL, Z.zlst, Z.lstM, Z.zcomp, Z.zrng, Z.rngM, Z.zcat, Z.zrep, Z.zzip, Z.zsort, Z.zsortR, Z.zsortset, Z.zslT, Z.zslL, Z.znone, Z.zsome, Z.znew, Z.zfz, Z.alloc, Z.wipeD, Z.sfor, Z.zm1, Z.zm0, Z.bmD, Z.zdvm, Z.zabs, Z.zmx2, Z.zmn2, Z.zint, Z.zcnt, Z.gsub, Z.setD, Z.ztt, Z.seq_tup, Z.seq_lst, Z.lst_lst, Z.ty_non, Z.ty_bl, Z.ty_int, Z.ty_str, Z.ty_tup, Z.ty_lst, Z.tru_non, Z.tru_bl, Z.tru_int, Z.tru_tup, Z.tru_lst, Z.len_tup, Z.len_lst, Z.ix_int, Z.at_0, Z.at_1, Z.at_2, Z.at_3, Z.at_4, Z.add_ii, Z.sub_ii, Z.mul_ii, Z.fdiv_ii, Z.mod_ii, Z.pow_ii, Z.add_tt, Z.lt_ii, Z.le_ii, Z.gt_ii, Z.ge_ii, Z.eq_ii, Z.ne_ii, Z.eq_dd, Z.ne_dd, Z.isN_d, Z.notN_d, Z.wt_tup, Z.D.deq, c1, gsubK, st]
      rw [List.map_cons]
      simp only [forL, wOk, List.all_nil, if_true, g1, b1]
    · have b1 : lb__law_placed_0 ⟨callN Pg K⟩ [some (csD cs), some (.int m), some (.int i), some (.ref a), some (.ref b), some (.int x), some th, some (.int (q.1 : Int)), s8] (hpt A a b P T) = some (.nx [some (csD cs), some (.int m), some (.int i), some (.ref a), some (.ref b), some (.int x), some th, some (.int (q.1 : Int)), s8] (hpt A a b P T2)) := by
        unfold lb__law_placed_0
        simp [Z.sseq, Z.snil, Z.sret, Z.sexp, Z.sasg, Z.spar, Z.sif, Z.spass, Z.sbrk, Z.scnt, Z.sthen_nx, Z.sthen_rt, Z.sthen_bk, Z.sthen_ct, Z.of_ok, Z.andThen_ok, Z.mb, Z.ok, Z.mo, Z.zvar, Z.zc, Z.zbin, Z.zneg, Z.zcmp, Z.zchn, Z.copM, Z.zbl, Z.ztru, Z.zand, Z.zor, Z.znot, Z.zandv, Z.zorv, Z.zite, Z.znil, Z.zcons, Z.ztup, Z.zix, Z.zlen, Z.zisi, Z.isiB, Z.zcall, Z.endD, Z.gnm, Z.gtup, Z.gcons, Z.gnil, Z.gc_self, Z.zallq, Z.zanyq, Z.zsumq, Z.zminq, Z.zmaxq, Z.zlenq, Z.ztupq, Z.zrow, Z.zst, Z.zof, Z.zofL, Z.zlst, Z.lstM, Z.zcomp, Z.zrng, Z.rngM, Z.zcat, Z.zrep, Z.zzip, Z.zsort, Z.zsortR, Z.zsortset, Z.zslT, Z.zslL, Z.znone, Z.zsome, Z.znew, Z.zfz, Z.alloc, Z.wipeD, Z.sfor, Z.zm1, Z.zm0, Z.bmD, Z.zdvm, Z.zabs, Z.zmx2, Z.zmn2, Z.zint, Z.zcnt, Z.gsub, Z.setD, Z.ztt, Z.seq_tup, Z.seq_lst, Z.lst_lst, Z.ty_non, Z.ty_bl, Z.ty_int, Z.ty_str, Z.ty_tup, Z.ty_lst, Z.tru_non, Z.tru_bl, Z.tru_int, Z.tru_tup, Z.tru_lst, Z.len_tup, Z.len_lst, Z.ix_int, Z.at_0, Z.at_1, Z.at_2, Z.at_3, Z.at_4, Z.add_ii, Z.sub_ii, Z.mul_ii, Z.fdiv_ii, Z.mod_ii, Z.pow_ii, Z.add_tt, Z.lt_ii, Z.le_ii, Z.gt_ii, Z.ge_ii, Z.eq_ii, Z.ne_ii, Z.eq_dd, Z.ne_dd, Z.isN_d, Z.notN_d, Z.wt_tup, Z.D.deq, c1]
      rw [List.map_cons]
      simp only [forL, wOk, List.all_nil, if_true, g1, b1]
      rcases inner hz ha hb hab K P x i th v T0 IH os T2 (some (.int (q.1 : Int))) s8 (fun r hr => hos r (List.mem_cons_of_mem _ hr)) F.nd (F.farOf hf) (fun t ht => F.sub t (h0 t ht)) (F.sub x hx) with ⟨P2, T1, T3, o, e1, e2, e3, e4⟩ | ⟨T3, s7', e1, e2, e3⟩
      · exact .inl ⟨P2, T1, T3, o, fun t ht => e1 t (F.sub t ht), e2, e3, e4⟩
      · refine .inr ⟨T3, s7', e1, F.trans e2, fun r hr u hu => ?_⟩
        rcases List.mem_cons.mp hr with e | hr
        · subst e; exact e2.sub u (hw u hu)
        · exact e3 r hr u hu
theorem outer (hz : cs.length ≤ 12) (ha : a < A.length) (hb : b < A.length) (hab : a ≠ b) (K : Nat) (P : Pm) (T0 : List Int) (i : Nat) (hi : i < cs.length) (v : Vd (Wc cs) cs.length m P)
    (IH : ∀ T q, T.Nodup → Far cs T → (∀ t ∈ T0, t ∈ T) → q ∈ P → q.2 ∉ T0 → q.2 ∈ T → Sp cs m A a b K P T q.1) :
    ∀ (xs : List Int) (T : List Int) (s5 s6 s7 : Option D), (∀ x ∈ xs, Wc cs i x) → T.Nodup → Far cs T → (∀ t ∈ T0, t ∈ T) →
    (∃ P' T', forL [] (gnm 5) (lb__law_placed_1 ⟨callN Pg K⟩) (xs.map .int) [some (csD cs), some (.int m), some (.int i), some (.ref a), some (.ref b), s5, s6, s7, none] (hpt A a b P T) = some (.rt (.bl true) (hpt A a b P' T')) ∧ Su (Wc cs) cs.length m P T0 i P') ∨
    (∃ T' s5' s6' s7', forL [] (gnm 5) (lb__law_placed_1 ⟨callN Pg K⟩) (xs.map .int) [some (csD cs), some (.int m), some (.int i), some (.ref a), some (.ref b), s5, s6, s7, none] (hpt A a b P T) = some (.nx [some (csD cs), some (.int m), some (.int i), some (.ref a), some (.ref b), s5', s6', s7', none] (hpt A a b P T')) ∧ Fl (Wc cs) cs.length m P T T' ∧ ∀ x ∈ xs, x ∈ T')
  | [], T, s5, s6, s7, _, hd, _, _ => .inr ⟨T, s5, s6, s7, rfl, Fl.refl hd, fun q h => absurd h List.not_mem_nil⟩
  | x :: xs, T, s5, s6, s7, hxs, hd, hf, hsub => by
    have hwx := hxs x (List.mem_cons_self ..)
    have hxs' := fun y hy => hxs y (List.mem_cons_of_mem _ hy)
    have g1 : gnm 5 (D.int x) [some (csD cs), some (.int m), some (.int i), some (.ref a), some (.ref b), s5, s6, s7, none] (hpt A a b P T) = some (.ok [some (csD cs), some (.int m), some (.int i), some (.ref a), some (.ref b), some (.int x), s6, s7, none] (hpt A a b P T)) := rfl
    rw [List.map_cons]
    have di := din_T (a := a) (P := P) (T := T) hb x
    by_cases hx : x ∈ T
    · have b1 : lb__law_placed_1 ⟨callN Pg K⟩ [some (csD cs), some (.int m), some (.int i), some (.ref a), some (.ref b), some (.int x), s6, s7, none] (hpt A a b P T) = some (.nx [some (csD cs), some (.int m), some (.int i), some (.ref a), some (.ref b), some (.int x), s6, s7, none] (hpt A a b P T)) := by
        rw [decide_eq_true hx] at di
        unfold lb__law_placed_1
        simp [Z.sseq, Z.snil, Z.sret, Z.sexp, Z.sasg, Z.spar, Z.sif, Z.spass, Z.sbrk, Z.scnt, Z.sthen_nx, Z.sthen_rt, Z.sthen_bk, Z.sthen_ct, Z.of_ok, Z.andThen_ok, Z.mb, Z.ok, Z.mo, Z.zvar, Z.zc, Z.zbin, Z.zneg, Z.zcmp, Z.zchn, Z.copM, Z.zbl, Z.ztru, Z.zand, Z.zor, Z.znot, Z.zandv, Z.zorv, Z.zite, Z.znil, Z.zcons, Z.ztup, Z.zix, Z.zlen, Z.zisi, Z.isiB, Z.zcall, Z.endD, Z.gnm, Z.gtup, Z.gcons, Z.gnil, Z.gc_self, Z.zallq, Z.zanyq, Z.zsumq, Z.zminq, Z.zmaxq, Z.zlenq, Z.ztupq, Z.zrow, Z.zst, Z.zof, Z.zofL, Z.zlst, Z.lstM, Z.zcomp, Z.zrng, Z.rngM, Z.zcat, Z.zrep, Z.zzip, Z.zsort, Z.zsortR, Z.zsortset, Z.zslT, Z.zslL, Z.znone, Z.zsome, Z.znew, Z.zfz, Z.alloc, Z.wipeD, Z.sfor, Z.zm1, Z.zm0, Z.bmD, Z.zdvm, Z.zabs, Z.zmx2, Z.zmn2, Z.zint, Z.zcnt, Z.gsub, Z.setD, Z.ztt, Z.seq_tup, Z.seq_lst, Z.lst_lst, Z.ty_non, Z.ty_bl, Z.ty_int, Z.ty_str, Z.ty_tup, Z.ty_lst, Z.tru_non, Z.tru_bl, Z.tru_int, Z.tru_tup, Z.tru_lst, Z.len_tup, Z.len_lst, Z.ix_int, Z.at_0, Z.at_1, Z.at_2, Z.at_3, Z.at_4, Z.add_ii, Z.sub_ii, Z.mul_ii, Z.fdiv_ii, Z.mod_ii, Z.pow_ii, Z.add_tt, Z.lt_ii, Z.le_ii, Z.gt_ii, Z.ge_ii, Z.eq_ii, Z.ne_ii, Z.eq_dd, Z.ne_dd, Z.isN_d, Z.notN_d, Z.wt_tup, Z.D.deq, zdnin, di]
      simp only [forL, wOk, List.all_nil, if_true, g1, b1]
      rcases outer hz ha hb hab K P T0 i hi v IH xs T (some (.int x)) s6 s7 hxs' hd hf hsub with h | ⟨T', t5, t6, t7, e1, e2, e3⟩
      · exact .inl h
      · refine .inr ⟨T', t5, t6, t7, e1, e2, fun y hy => ?_⟩
        rcases List.mem_cons.mp hy with e | hy
        · subst e; exact e2.sub _ hx
        · exact e3 y hy
    · rw [decide_eq_false hx] at di
      have hx0 : x ∉ T0 := fun h => hx (hsub x h)
      have hTl := far_len hz hd hf
      have st := set_T (a := a) (P := P) (A := A) hb hx (show T.length < SZ by unfold SZ; omega)
      have hd1 : (T ++ [x]).Nodup := List.nodup_append.mpr ⟨hd, by simp, fun u hu w hw e => by rw [List.mem_singleton] at hw; rw [e, hw] at hu; exact hx hu⟩
      have hf1 : Far cs (T ++ [x]) := fun t ht => by
        rcases List.mem_append.mp ht with h | h
        · exact hf t h
        · rw [List.mem_singleton] at h; subst h; exact ⟨i, hi, hwx⟩
      have hx1 : x ∈ T ++ [x] := List.mem_append_right _ (List.mem_singleton.mpr rfl)
      have hPl := v.len
      have dk := dk_P (T := T ++ [x]) ha hab v.ks (show P.length < 1000 by omega) (σ := [some (csD cs), some (.int m), some (.int i), some (.ref a), some (.ref b), some (.int x), s6, s7, none]) (x := x) rfl rfl (by show 8 < 9; decide)
      obtain ⟨L, hL⟩ : ∃ L, L = (P.filter fun q => decide (q.2 = x)) := ⟨_, rfl⟩
      have hLl : L.length = occ P x := by rw [hL, occ_eq]
      rw [← hL] at dk
      have hLm : ∀ q ∈ L, q ∈ P ∧ q.2 = x := fun q hq => by
        rw [hL] at hq
        obtain ⟨h1, h2⟩ := List.mem_filter.mp hq
        exact ⟨h1, of_decide_eq_true h2⟩
      have hLlen : (L.map fun q => D.int (q.1 : Int)).length = occ P x := by rw [List.length_map, hLl]
      by_cases ho : occ P x < m
      · have hlt : ((occ P x : Nat) : Int) < (m : Int) := by omega
        have sp := set_P (T := T ++ [x]) (P := P) ha hab i x (show P.length < SZ by unfold SZ; omega)
        have b1 : lb__law_placed_1 ⟨callN Pg K⟩ [some (csD cs), some (.int m), some (.int i), some (.ref a), some (.ref b), some (.int x), s6, s7, none] (hpt A a b P T) = some (.rt (.bl true) (hpt A a b (putP P i x) (T ++ [x]))) := by
          generalize (L.map fun q => D.int (q.1 : Int)) = M at dk hLlen
          unfold lb__law_placed_1
          simp [Z.sseq, Z.snil, Z.sret, Z.sexp, Z.sasg, Z.spar, Z.sif, Z.spass, Z.sbrk, Z.scnt, Z.sthen_nx, Z.sthen_rt, Z.sthen_bk, Z.sthen_ct, Z.of_ok, Z.andThen_ok, Z.mb, Z.ok, Z.mo, Z.zvar, Z.zc, Z.zbin, Z.zneg, Z.zcmp, Z.zchn, Z.copM, Z.zbl, Z.ztru, Z.zand, Z.zor, Z.znot, Z.zandv, Z.zorv, Z.zite, Z.znil, Z.zcons, Z.ztup, Z.zix, Z.zlen, Z.zisi, Z.isiB, Z.zcall, Z.endD, Z.gnm, Z.gtup, Z.gcons, Z.gnil, Z.gc_self, Z.zallq, Z.zanyq, Z.zsumq, Z.zminq, Z.zmaxq, Z.zlenq, Z.ztupq, Z.zrow, Z.zst, Z.zof, Z.zofL, Z.zlst, Z.lstM, Z.zcomp, Z.zrng, Z.rngM, Z.zcat, Z.zrep, Z.zzip, Z.zsort, Z.zsortR, Z.zsortset, Z.zslT, Z.zslL, Z.znone, Z.zsome, Z.znew, Z.zfz, Z.alloc, Z.wipeD, Z.sfor, Z.zm1, Z.zm0, Z.bmD, Z.zdvm, Z.zabs, Z.zmx2, Z.zmn2, Z.zint, Z.zcnt, Z.gsub, Z.setD, Z.ztt, Z.seq_tup, Z.seq_lst, Z.lst_lst, Z.ty_non, Z.ty_bl, Z.ty_int, Z.ty_str, Z.ty_tup, Z.ty_lst, Z.tru_non, Z.tru_bl, Z.tru_int, Z.tru_tup, Z.tru_lst, Z.len_tup, Z.len_lst, Z.ix_int, Z.at_0, Z.at_1, Z.at_2, Z.at_3, Z.at_4, Z.add_ii, Z.sub_ii, Z.mul_ii, Z.fdiv_ii, Z.mod_ii, Z.pow_ii, Z.add_tt, Z.lt_ii, Z.le_ii, Z.gt_ii, Z.ge_ii, Z.eq_ii, Z.ne_ii, Z.eq_dd, Z.ne_dd, Z.isN_d, Z.notN_d, Z.wt_tup, Z.D.deq, zdnin, di, gsubK, st, dk, hLlen, hlt, sp]
        simp only [forL, wOk, List.all_nil, if_true, g1, b1]
        exact .inl ⟨_, _, rfl, Su.free v hi hwx hx0 ho⟩
      · have hlt : ¬ ((occ P x : Nat) : Int) < (m : Int) := by omega
        have inn := inner hz ha hb hab K P x i (.lst (L.map fun q => D.int (q.1 : Int))) v T0 (fun T' q h1 h2 h0 h3 h4 h5 => IH T' q h1 h2 h0 h3 (by rw [h4]; exact hx0) (by rw [h4]; exact h5)) L (T ++ [x]) s7 none hLm hd1 hf1 (fun t ht => List.mem_append_left _ (hsub t ht)) hx1
        · rcases inn with ⟨P2, T1, T2, o, e1, e2, e3, e4⟩ | ⟨T2, s7', e1, e2, e3⟩
          · have b1 : lb__law_placed_1 ⟨callN Pg K⟩ [some (csD cs), some (.int m), some (.int i), some (.ref a), some (.ref b), some (.int x), s6, s7, none] (hpt A a b P T) = some (.rt (.bl true) (hpt A a b (putP P2 i x) T2)) := by
              generalize (L.map fun q => D.int (q.1 : Int)) = M at dk hLlen e2
              unfold lb__law_placed_1
              simp [Z.sseq, Z.snil, Z.sret, Z.sexp, Z.sasg, Z.spar, Z.sif, Z.spass, Z.sbrk, Z.scnt, Z.sthen_nx, Z.sthen_rt, Z.sthen_bk, Z.sthen_ct, Z.of_ok, Z.andThen_ok, Z.mb, Z.ok, Z.mo, Z.zvar, Z.zc, Z.zbin, Z.zneg, Z.zcmp, Z.zchn, Z.copM, Z.zbl, Z.ztru, Z.zand, Z.zor, Z.znot, Z.zandv, Z.zorv, Z.zite, Z.znil, Z.zcons, Z.ztup, Z.zix, Z.zlen, Z.zisi, Z.isiB, Z.zcall, Z.endD, Z.gnm, Z.gtup, Z.gcons, Z.gnil, Z.gc_self, Z.zallq, Z.zanyq, Z.zsumq, Z.zminq, Z.zmaxq, Z.zlenq, Z.ztupq, Z.zrow, Z.zst, Z.zof, Z.zofL, Z.zlst, Z.lstM, Z.zcomp, Z.zrng, Z.rngM, Z.zcat, Z.zrep, Z.zzip, Z.zsort, Z.zsortR, Z.zsortset, Z.zslT, Z.zslL, Z.znone, Z.zsome, Z.znew, Z.zfz, Z.alloc, Z.wipeD, Z.sfor, Z.zm1, Z.zm0, Z.bmD, Z.zdvm, Z.zabs, Z.zmx2, Z.zmn2, Z.zint, Z.zcnt, Z.gsub, Z.setD, Z.ztt, Z.seq_tup, Z.seq_lst, Z.lst_lst, Z.ty_non, Z.ty_bl, Z.ty_int, Z.ty_str, Z.ty_tup, Z.ty_lst, Z.tru_non, Z.tru_bl, Z.tru_int, Z.tru_tup, Z.tru_lst, Z.len_tup, Z.len_lst, Z.ix_int, Z.at_0, Z.at_1, Z.at_2, Z.at_3, Z.at_4, Z.add_ii, Z.sub_ii, Z.mul_ii, Z.fdiv_ii, Z.mod_ii, Z.pow_ii, Z.add_tt, Z.lt_ii, Z.le_ii, Z.gt_ii, Z.ge_ii, Z.eq_ii, Z.ne_ii, Z.eq_dd, Z.ne_dd, Z.isN_d, Z.notN_d, Z.wt_tup, Z.D.deq, zdnin, di, gsubK, st, dk, hLlen, hlt, e2]
            simp only [forL, wOk, List.all_nil, if_true, g1, b1]
            refine .inl ⟨_, _, rfl, Su.room v hi hwx hx0 (e1 x hx1) (fun t ht => e1 t (List.mem_append_left _ (hsub t ht))) e3 e4⟩
          · have b1 : lb__law_placed_1 ⟨callN Pg K⟩ [some (csD cs), some (.int m), some (.int i), some (.ref a), some (.ref b), some (.int x), s6, s7, none] (hpt A a b P T) = some (.nx [some (csD cs), some (.int m), some (.int i), some (.ref a), some (.ref b), some (.int x), some (.lst (L.map fun q => D.int (q.1 : Int))), s7', none] (hpt A a b P T2)) := by
              generalize (L.map fun q => D.int (q.1 : Int)) = M at dk hLlen e1
              unfold lb__law_placed_1
              simp [Z.sseq, Z.snil, Z.sret, Z.sexp, Z.sasg, Z.spar, Z.sif, Z.spass, Z.sbrk, Z.scnt, Z.sthen_nx, Z.sthen_rt, Z.sthen_bk, Z.sthen_ct, Z.of_ok, Z.andThen_ok, Z.mb, Z.ok, Z.mo, Z.zvar, Z.zc, Z.zbin, Z.zneg, Z.zcmp, Z.zchn, Z.copM, Z.zbl, Z.ztru, Z.zand, Z.zor, Z.znot, Z.zandv, Z.zorv, Z.zite, Z.znil, Z.zcons, Z.ztup, Z.zix, Z.zlen, Z.zisi, Z.isiB, Z.zcall, Z.endD, Z.gnm, Z.gtup, Z.gcons, Z.gnil, Z.gc_self, Z.zallq, Z.zanyq, Z.zsumq, Z.zminq, Z.zmaxq, Z.zlenq, Z.ztupq, Z.zrow, Z.zst, Z.zof, Z.zofL, Z.zlst, Z.lstM, Z.zcomp, Z.zrng, Z.rngM, Z.zcat, Z.zrep, Z.zzip, Z.zsort, Z.zsortR, Z.zsortset, Z.zslT, Z.zslL, Z.znone, Z.zsome, Z.znew, Z.zfz, Z.alloc, Z.wipeD, Z.sfor, Z.zm1, Z.zm0, Z.bmD, Z.zdvm, Z.zabs, Z.zmx2, Z.zmn2, Z.zint, Z.zcnt, Z.gsub, Z.setD, Z.ztt, Z.seq_tup, Z.seq_lst, Z.lst_lst, Z.ty_non, Z.ty_bl, Z.ty_int, Z.ty_str, Z.ty_tup, Z.ty_lst, Z.tru_non, Z.tru_bl, Z.tru_int, Z.tru_tup, Z.tru_lst, Z.len_tup, Z.len_lst, Z.ix_int, Z.at_0, Z.at_1, Z.at_2, Z.at_3, Z.at_4, Z.add_ii, Z.sub_ii, Z.mul_ii, Z.fdiv_ii, Z.mod_ii, Z.pow_ii, Z.add_tt, Z.lt_ii, Z.le_ii, Z.gt_ii, Z.ge_ii, Z.eq_ii, Z.ne_ii, Z.eq_dd, Z.ne_dd, Z.isN_d, Z.notN_d, Z.wt_tup, Z.D.deq, zdnin, di, gsubK, st, dk, hLlen, hlt, e1]
            simp only [forL, wOk, List.all_nil, if_true, g1, b1]
            have F : Fl (Wc cs) cs.length m P T T2 := e2.beat hi hwx (by omega) fun q hq hqx u hu => e3 q (by rw [hL]; exact List.mem_filter.mpr ⟨hq, decide_eq_true hqx⟩) u hu
            rcases outer hz ha hb hab K P T0 i hi v IH xs T2 (some (.int x)) (some (.lst (L.map fun q => D.int (q.1 : Int)))) s7' hxs' F.nd (F.farOf hf) (fun t ht => F.sub t (hsub t ht)) with h | ⟨T', t5, t6, t7, f1, f2, f3⟩
            · exact .inl h
            · refine .inr ⟨T', t5, t6, t7, f1, F.trans f2, fun y hy => ?_⟩
              rcases List.mem_cons.mp hy with e | hy
              · subst e; exact f2.sub _ (e2.sub _ hx1)
              · exact f3 y hy
theorem placed1 (hz : cs.length ≤ 12) (ha : a < A.length) (hb : b < A.length) (hab : a ≠ b) (K' : Nat) (P : Pm) (T : List Int) (i : Nat) (hi : i < cs.length) (v : Vd (Wc cs) cs.length m P) (hd : T.Nodup) (hf : Far cs T)
    (IH : ∀ T' q, T'.Nodup → Far cs T' → (∀ t ∈ T, t ∈ T') → q ∈ P → q.2 ∉ T → q.2 ∈ T' → Sp cs m A a b (K' + 1) P T' q.1) : Sp cs m A a b (K' + 1 + 1) P T i := by
  have eb := fun A => e_beats K' cs i A hz
  have at_ := ca_at hi
  have ix : L2.atI (cs.map cD) (i : Int) = some (.tup [.int (ca cs i), .int (ce cs i)]) := by rw [at_nat]; exact at_
  rcases outer hz ha hb hab (K' + 1) P T i hi v IH (bts cs i) T none none none (fun x hx => mem_bts.mp hx) hd hf (fun _ h => h) with ⟨P', T', e1, S⟩ | ⟨T', t5, t6, t7, e1, F, hx⟩
  · refine .inl ⟨P', T', ?_, S⟩
    rw [c__law_placed, mb__law_placed]
    simp [Z.sseq, Z.snil, Z.sret, Z.sexp, Z.sasg, Z.spar, Z.sif, Z.spass, Z.sbrk, Z.scnt, Z.sthen_nx, Z.sthen_rt, Z.sthen_bk, Z.sthen_ct, Z.of_ok, Z.andThen_ok, Z.mb, Z.ok, Z.mo, Z.zvar, Z.zc, Z.zbin, Z.zneg, Z.zcmp, Z.zchn, Z.copM, Z.zbl, Z.ztru, Z.zand, Z.zor, Z.znot, Z.zandv, Z.zorv, Z.zite, Z.znil, Z.zcons, Z.ztup, Z.zix, Z.zlen, Z.zisi, Z.isiB, Z.zcall, Z.endD, Z.gnm, Z.gtup, Z.gcons, Z.gnil, Z.gc_self, Z.zallq, Z.zanyq, Z.zsumq, Z.zminq, Z.zmaxq, Z.zlenq, Z.ztupq, Z.zrow, Z.zst, Z.zof, Z.zofL, Z.zlst, Z.lstM, Z.zcomp, Z.zrng, Z.rngM, Z.zcat, Z.zrep, Z.zzip, Z.zsort, Z.zsortR, Z.zsortset, Z.zslT, Z.zslL, Z.znone, Z.zsome, Z.znew, Z.zfz, Z.alloc, Z.wipeD, Z.sfor, Z.zm1, Z.zm0, Z.bmD, Z.zdvm, Z.zabs, Z.zmx2, Z.zmn2, Z.zint, Z.zcnt, Z.gsub, Z.setD, Z.ztt, Z.seq_tup, Z.seq_lst, Z.lst_lst, Z.ty_non, Z.ty_bl, Z.ty_int, Z.ty_str, Z.ty_tup, Z.ty_lst, Z.tru_non, Z.tru_bl, Z.tru_int, Z.tru_tup, Z.tru_lst, Z.len_tup, Z.len_lst, Z.ix_int, Z.at_0, Z.at_1, Z.at_2, Z.at_3, Z.at_4, Z.add_ii, Z.sub_ii, Z.mul_ii, Z.fdiv_ii, Z.mod_ii, Z.pow_ii, Z.add_tt, Z.lt_ii, Z.le_ii, Z.gt_ii, Z.ge_ii, Z.eq_ii, Z.ne_ii, Z.eq_dd, Z.ne_dd, Z.isN_d, Z.notN_d, Z.wt_tup, Z.D.deq, seq_cs, ix, eb, len_cs, e1, gc_hpt]
  · refine .inr ⟨T', ?_, F, fun u hu => hx u (mem_bts.mpr hu)⟩
    rw [c__law_placed, mb__law_placed]
    simp [Z.sseq, Z.snil, Z.sret, Z.sexp, Z.sasg, Z.spar, Z.sif, Z.spass, Z.sbrk, Z.scnt, Z.sthen_nx, Z.sthen_rt, Z.sthen_bk, Z.sthen_ct, Z.of_ok, Z.andThen_ok, Z.mb, Z.ok, Z.mo, Z.zvar, Z.zc, Z.zbin, Z.zneg, Z.zcmp, Z.zchn, Z.copM, Z.zbl, Z.ztru, Z.zand, Z.zor, Z.znot, Z.zandv, Z.zorv, Z.zite, Z.znil, Z.zcons, Z.ztup, Z.zix, Z.zlen, Z.zisi, Z.isiB, Z.zcall, Z.endD, Z.gnm, Z.gtup, Z.gcons, Z.gnil, Z.gc_self, Z.zallq, Z.zanyq, Z.zsumq, Z.zminq, Z.zmaxq, Z.zlenq, Z.ztupq, Z.zrow, Z.zst, Z.zof, Z.zofL, Z.zlst, Z.lstM, Z.zcomp, Z.zrng, Z.rngM, Z.zcat, Z.zrep, Z.zzip, Z.zsort, Z.zsortR, Z.zsortset, Z.zslT, Z.zslL, Z.znone, Z.zsome, Z.znew, Z.zfz, Z.alloc, Z.wipeD, Z.sfor, Z.zm1, Z.zm0, Z.bmD, Z.zdvm, Z.zabs, Z.zmx2, Z.zmn2, Z.zint, Z.zcnt, Z.gsub, Z.setD, Z.ztt, Z.seq_tup, Z.seq_lst, Z.lst_lst, Z.ty_non, Z.ty_bl, Z.ty_int, Z.ty_str, Z.ty_tup, Z.ty_lst, Z.tru_non, Z.tru_bl, Z.tru_int, Z.tru_tup, Z.tru_lst, Z.len_tup, Z.len_lst, Z.ix_int, Z.at_0, Z.at_1, Z.at_2, Z.at_3, Z.at_4, Z.add_ii, Z.sub_ii, Z.mul_ii, Z.fdiv_ii, Z.mod_ii, Z.pow_ii, Z.add_tt, Z.lt_ii, Z.le_ii, Z.gt_ii, Z.ge_ii, Z.eq_ii, Z.ne_ii, Z.eq_dd, Z.ne_dd, Z.isN_d, Z.notN_d, Z.wt_tup, Z.D.deq, seq_cs, ix, eb, len_cs, e1, gc_hpt]
theorem placed (hz : cs.length ≤ 12) (ha : a < A.length) (hb : b < A.length) (hab : a ≠ b) : ∀ (d k : Nat) (P : Pm) (T : List Int) (i : Nat), i < cs.length → Vd (Wc cs) cs.length m P → T.Nodup → Far cs T → (∀ q ∈ P, q.1 = i → q.2 ∈ T) → P.countP (fun q => decide (q.2 ∉ T)) ≤ d → Sp cs m A a b (k + d + 2) P T i := by
  intro d
  induction d with
  | zero =>
    intro k P T i hi v hd hf hp hc
    exact placed1 hz ha hb hab k P T i hi v hd hf fun T' q h1 h2 h3 h4 h5 h6 => by
      have := List.countP_eq_zero.mp (Nat.le_zero.mp hc) q h4
      simp [h5] at this
  | succ d ih =>
    intro k P T i hi v hd hf hp hc
    exact placed1 hz ha hb hab (k + (d + 1)) P T i hi v hd hf fun T' q h1 h2 h3 h4 h5 h6 => by
      have e : k + (d + 1) + 1 = k + d + 2 := by omega
      rw [e]
      refine ih k P T' q.1 (v.lt q h4) v h1 h2 (fun r hr e => by rw [v.ks.uniq hr h4 e]; exact h6) ?_
      have := cnt_lt (P := P) (p := fun q => decide (q.2 ∉ T)) (p' := fun q => decide (q.2 ∉ T')) (q := q) v.ks.nd (fun x _ hx => decide_eq_true fun hm => of_decide_eq_true hx (h3 _ hm)) h4 (decide_eq_true h5) (decide_eq_false fun hn => hn h6)
      omega
end
end Zp

set_option maxHeartbeats 2000000
namespace Zp
open PySem Z Zq L2
theorem hpt_app (A : Hh) (P : Pm) (T : List Int) (o o2 : O) (J : Hh) : hpt (A ++ o :: (J ++ [o2])) A.length (A.length + 1 + J.length) P T = A ++ .dck (PD P) :: (J ++ [.dck (TD T)]) := by
  unfold hpt
  rw [List.set_append_right _ _ (Nat.le_refl _), Nat.sub_self, List.set_cons_zero, List.set_append_right _ _ (by omega), show A.length + 1 + J.length - A.length = J.length + 1 by omega, List.set_cons_succ, List.set_append_right _ _ (Nat.le_refl _), Nat.sub_self]
  rfl
theorem blsOf_map : ∀ bs : List Bool, blsOf (bs.map D.bl) = some bs
  | [] => rfl
  | b :: bs => by rw [List.map_cons, blsOf, blsOf_map bs]; rfl
def Pln (cs : Cs) (m : Nat) : Prop := ∃ f : Nat → Int, (∀ j, j < cs.length → Wc cs j (f j)) ∧ ∀ t, (List.range cs.length).countP (fun j => decide (f j = t)) ≤ m
theorem all_loop (cs : Cs) (m : Nat) (hz : cs.length ≤ 12) (k : Nat) (A : Hh) : ∀ (N i : Nat) (P : Pm) (J : Hh) (acc : List D), i + N = cs.length → (∀ q ∈ P, q.1 < i) → Vd (Wc cs) cs.length m P → acc.length + N < SZ →
    ∃ (bs : List Bool) (P' : Pm) (J' : Hh), compL [some (csD cs), some (.int m), some (.ref A.length), none] [] (gnm 3) ztt (ce__law_all_placed_0 ⟨callN Pg (k + 14)⟩) ((List.range N).map fun (j : Nat) => D.int ((i : Int) + j)) acc (A ++ .dck (PD P) :: J) = some (.ok (acc ++ bs.map .bl) (A ++ .dck (PD P') :: J')) ∧
      Vd (Wc cs) cs.length m P' ∧ (Pln cs m → ∀ b ∈ bs, b = true) ∧ ((∀ b ∈ bs, b = true) → ∀ j, ((∃ c, (j, c) ∈ P) ∨ (i ≤ j ∧ j < cs.length)) → ∃ c, (j, c) ∈ P')
  | 0, i, P, J, acc, hi, hP, v, hs => ⟨[], P, J, by simp [compL, wOk], v, fun _ b h => absurd h List.not_mem_nil, fun _ j h => h.elim id fun h => by omega⟩
  | N + 1, i, P, J, acc, hi, hP, v, hs => by
    have e : (List.range (N + 1)).map (fun (j : Nat) => D.int ((i : Int) + j)) = .int (i : Int) :: (List.range N).map fun (j : Nat) => D.int (((i + 1 : Nat) : Int) + j) := by
      rw [List.range_succ_eq_map, List.map_cons, List.map_map]
      refine congr (congrArg List.cons (by simp)) (List.map_congr_left fun j _ => ?_)
      simp only [Function.comp, D.int.injEq]
      omega
    obtain ⟨B, hB⟩ : ∃ B, B = A ++ O.dck (PD P) :: (J ++ [O.dck []]) := ⟨_, rfl⟩
    have hb0 : hpt B A.length (A.length + 1 + J.length) P [] = B := by rw [hB, hpt_app]; rfl
    have hBl : B.length = A.length + 1 + J.length + 1 := by rw [hB]; simp; omega
    have ev : ce__law_all_placed_0 ⟨callN Pg (k + 14)⟩ [some (csD cs), some (.int m), some (.ref A.length), some (.int (i : Int))] (A ++ .dck (PD P) :: J) = callN Pg (k + 14) i__law_placed [csD cs, .int m, .int i, .ref A.length, .ref (A.length + 1 + J.length)] (hpt B A.length (A.length + 1 + J.length) P []) := by
      rw [hb0, hB]
      unfold ce__law_all_placed_0
      have l : (A ++ O.dck (PD P) :: J).length = A.length + 1 + J.length := by simp; omega
      have r : A ++ O.dck (PD P) :: J ++ [O.dck []] = A ++ O.dck (PD P) :: (J ++ [O.dck []]) := by simp
      simp only [zcall, zcons, znil, znewK, mb, ok, andThen_ok, zvar, Z.alloc, List.getElem?_cons_zero, List.getElem?_cons_succ, l, r]
    have hc : P.countP (fun q => decide (q.2 ∉ [])) ≤ 12 := Nat.le_trans List.countP_le_length (Nat.le_trans v.len hz)
    have g1 : gnm 3 (D.int (i : Int)) [some (csD cs), some (.int m), some (.ref A.length), none] (A ++ .dck (PD P) :: J) = some (.ok [some (csD cs), some (.int m), some (.ref A.length), some (.int (i : Int))] (A ++ .dck (PD P) :: J)) := rfl
    have hno : ∀ b, (i, b) ∉ P := fun b h => by have := hP _ h; dsimp only at this; omega
    have tt : ∀ (σ : Sl) (X : Hh), ztt σ X = some (.ok true X) := fun _ _ => rfl
    rcases placed (A := B) (a := A.length) (b := A.length + 1 + J.length) hz (by omega) (by omega) (by omega) 12 k P [] i (by omega) v List.nodup_nil (fun t h => absurd h List.not_mem_nil) (fun q hq e => absurd (hP q hq) (by omega)) hc with ⟨P', T', c1, S⟩ | ⟨T', c1, F, hw⟩
    · rw [← ev, hB, hpt_app] at c1
      obtain ⟨bs, P2, J2, q1, q2, q3, q4⟩ := all_loop cs m hz k A N (i + 1) P' (J ++ [.dck (TD T')]) (acc ++ [.bl true]) (by omega) (fun q hq => by
        rcases (S.keys q.1).mp ⟨q.2, hq⟩ with ⟨c, h⟩ | h
        · have := hP _ h; dsimp only at this; omega
        · omega) S.v (by rw [List.length_append, List.length_singleton]; omega)
      refine ⟨true :: bs, P2, J2, ?_, q2, fun pl b hb => ?_, fun hb j hj => q4 (fun b h => hb b (List.mem_cons_of_mem _ h)) j ?_⟩
      · rw [e]
        simp only [compL, wOk, List.all_nil, if_true, g1, tt, c1]
        rw [if_pos (by omega), q1]
        simp
      · rcases List.mem_cons.mp hb with h | h
        · exact h
        · exact q3 pl b h
      · rcases hj with h | h
        · exact .inl ((S.keys j).mpr (.inl h))
        · by_cases e2 : j = i
          · exact .inl ((S.keys j).mpr (.inr e2))
          · exact .inr (by omega)
    · rw [← ev, hB, hpt_app] at c1
      obtain ⟨bs, P2, J2, q1, q2, q3, q4⟩ := all_loop cs m hz k A N (i + 1) P (J ++ [.dck (TD T')]) (acc ++ [.bl false]) (by omega) (fun q hq => by have := hP q hq; omega) v (by rw [List.length_append, List.length_singleton]; omega)
      refine ⟨false :: bs, P2, J2, ?_, q2, fun pl b hb => ?_, fun hb => by have := hb false (List.mem_cons_self ..); cases this⟩
      · rw [e]
        simp only [compL, wOk, List.all_nil, if_true, g1, tt, c1]
        rw [if_pos (by omega), q1]
        simp
      · obtain ⟨f, f1, f2⟩ := pl
        exact (stuck v F (by omega) hno hw f f1 f2).elim
theorem e_all (k : Nat) (cs : Cs) (m : Nat) (A : Hh) (hz : cs.length ≤ 12) (hm : 1 ≤ m) : ∃ r, callN Pg (k + 15) i__law_all_placed [csD cs, .int m] A = some (.ok (.bl r) A) ∧ (Pln cs m → r = true) ∧ (r = true → ∃ P, Vd (Wc cs) cs.length m P ∧ ∀ j, j < cs.length → ∃ c, (j, c) ∈ P) := by
  obtain ⟨bs, P', J', q1, q2, q3, q4⟩ := all_loop cs m hz k A cs.length 0 [] [] [] (by omega) (fun q h => absurd h List.not_mem_nil) ⟨List.Pairwise.nil, fun q h => absurd h List.not_mem_nil, fun q h => absurd h List.not_mem_nil, fun t => Nat.zero_le _⟩ (by unfold SZ; simp; omega)
  refine ⟨bs.all id, ?_, fun pl => List.all_eq_true.mpr fun b hb => q3 pl b hb, fun h => ⟨P', q2, fun j hj => q4 (fun b hb => List.all_eq_true.mp h b hb) j (.inr ⟨Nat.zero_le _, hj⟩)⟩⟩
  have hr : rngI 0 (cs.length : Int) = (List.range cs.length).map fun (j : Nat) => D.int (((0 : Nat) : Int) + j) := by
    unfold rngI
    simp
  rw [← hr] at q1
  have e0 : PD [] = [] := rfl
  rw [e0, List.nil_append] at q1
  have m0 : ¬ (m : Int) = 0 := by omega
  have hg : gc A (A ++ .dck (PD P') :: J') (.bl (bs.all id)) = A := gc_app rfl
  have b1 : (-1152921504606846976 : Int) ≤ (cs.length : Int) := by omega
  have b2 : (cs.length : Int) ≤ 1152921504606846976 := by omega
  have n0 : ¬ m = 0 := by omega
  rw [c__law_all_placed, mb__law_all_placed]
  have ee : ∀ (X : Hh) (i j : Int), eqD X (.int i) (.int j) = some (decide (i = j)) := fun _ _ _ => rfl
  simp [Z.sseq, Z.snil, Z.sret, Z.sexp, Z.sasg, Z.spar, Z.sif, Z.spass, Z.sbrk, Z.scnt, Z.sthen_nx, Z.sthen_rt, Z.sthen_bk, Z.sthen_ct, Z.of_ok, Z.andThen_ok, Z.mb, Z.ok, Z.mo, Z.zvar, Z.zc, Z.zbin, Z.zneg, Z.zcmp, Z.zchn, Z.copM, Z.zbl, Z.ztru, Z.zand, Z.zor, Z.znot, Z.zandv, Z.zorv, Z.zite, Z.znil, Z.zcons, Z.ztup, Z.zix, Z.zlen, Z.zisi, Z.isiB, Z.zcall, Z.endD, Z.gnm, Z.gtup, Z.gcons, Z.gnil, Z.gc_self, Z.zallq, Z.zanyq, Z.zsumq, Z.zminq, Z.zmaxq, Z.zlenq, Z.ztupq, Z.zrow, Z.zst, Z.zof, Z.zofL, Z.zlst, Z.lstM, Z.zcomp, Z.zrng, Z.rngM, Z.zcat, Z.zrep, Z.zzip, Z.zsort, Z.zsortR, Z.zsortset, Z.zslT, Z.zslL, Z.znone, Z.zsome, Z.znew, Z.zfz, Z.alloc, Z.wipeD, Z.sfor, Z.zm1, Z.zm0, Z.bmD, Z.zdvm, Z.zabs, Z.zmx2, Z.zmn2, Z.zint, Z.zcnt, Z.gsub, Z.setD, Z.ztt, Z.seq_tup, Z.seq_lst, Z.lst_lst, Z.ty_non, Z.ty_bl, Z.ty_int, Z.ty_str, Z.ty_tup, Z.ty_lst, Z.tru_non, Z.tru_bl, Z.tru_int, Z.tru_tup, Z.tru_lst, Z.len_tup, Z.len_lst, Z.ix_int, Z.at_0, Z.at_1, Z.at_2, Z.at_3, Z.at_4, Z.add_ii, Z.sub_ii, Z.mul_ii, Z.fdiv_ii, Z.mod_ii, Z.pow_ii, Z.add_tt, Z.lt_ii, Z.le_ii, Z.gt_ii, Z.ge_ii, Z.eq_ii, Z.ne_ii, Z.eq_dd, Z.ne_dd, Z.isN_d, Z.notN_d, Z.wt_tup, Z.D.deq, ee, znewK, len_cs, m0, n0, b1, b2, q1, blsOf_map, hg]
theorem leL_iff {a b c d : Int} : leL [a, b] [c, d] = true ↔ a < c ∨ (a = c ∧ b ≤ d) := by
  unfold leL
  rw [Bool.not_eq_true', HT.lexLt_cons]
  by_cases e : c = a
  · rw [if_pos e, HT.lexLt_cons]
    by_cases e2 : d = b
    · rw [if_pos e2]
      constructor
      · exact fun _ => .inr ⟨e.symm, by omega⟩
      · exact fun _ => rfl
    · rw [if_neg e2, decide_eq_false_iff_not]
      omega
  · rw [if_neg e, decide_eq_false_iff_not]
    omega
def cutC (n : Nat) (c : Int × Int) : Int × Int := (c.1, min c.2 (c.1 + n))
theorem cut_ok {cs : Cs} (h : CallsOk cs) : CallsOk (cs.map (cutC cs.length)) := by
  refine ⟨by rw [List.length_map]; exact h.len, fun c hc => ?_, ?_⟩
  · obtain ⟨d, hd, rfl⟩ := List.mem_map.mp hc
    have := h.in_ d hd
    unfold cutC
    dsimp only
    omega
  · rw [List.pairwise_map]
    refine List.Pairwise.imp (fun {c d} hl => ?_) h.ord
    unfold leC cutC at *
    rw [leL_iff] at *
    dsimp only
    omega
theorem count_range (l : List Int) (t : Int) : (List.range l.length).countP (fun j => decide ((l[j]?).getD 0 = t)) = l.count t := by
  have e : l = (List.range l.length).map fun j => (l[j]?).getD 0 := by
    refine List.ext_getElem? fun j => ?_
    rw [List.getElem?_map]
    by_cases h : j < l.length
    · rw [List.getElem?_eq_getElem h, List.getElem?_range h]; simp [h]
    · rw [List.getElem?_eq_none (by omega), List.getElem?_eq_none (by rw [List.length_range]; omega)]; rfl
  conv => rhs; rw [e]
  rw [List.count_eq_countP, List.countP_map]
  congr 1
theorem pln_of {cs : Cs} {m : Nat} (h : CallsOk cs) (hm : 1 ≤ m) (hall : ∀ s t : Int, s ≤ t → (cs.countP (fun c => decide (s ≤ c.1) && decide (c.2 ≤ t)) : Int) ≤ m * (t - s + 1)) : Pln cs m := by
  have hall2 : ∀ s t : Int, s ≤ t → ((cs.map (cutC cs.length)).countP (fun c => decide (s ≤ c.1) && decide (c.2 ≤ t)) : Int) ≤ m * (t - s + 1) := fun s t hst => by
    rw [List.countP_map]
    by_cases hw : (cs.length : Int) ≤ t - s + 1
    · have a : (cs.countP ((fun c => decide (s ≤ c.1) && decide (c.2 ≤ t)) ∘ cutC cs.length) : Int) ≤ cs.length := by exact_mod_cast List.countP_le_length
      have b : t - s + 1 ≤ m * (t - s + 1) := by
        have := Int.mul_le_mul_of_nonneg_right (show (1 : Int) ≤ m by omega) (show 0 ≤ t - s + 1 by omega)
        omega
      omega
    · refine Int.le_trans ?_ (hall s t hst)
      have : cs.countP ((fun c => decide (s ≤ c.1) && decide (c.2 ≤ t)) ∘ cutC cs.length) ≤ cs.countP (fun c => decide (s ≤ c.1) && decide (c.2 ≤ t)) := by
        refine List.countP_mono_left fun c _ hc => ?_
        unfold cutC at hc
        simp only [Function.comp, Bool.and_eq_true, decide_eq_true_eq] at hc ⊢
        omega
      exact_mod_cast this
  obtain ⟨ps, _, P⟩ := e_plan 0 _ m (cut_ok h) (fun _ => hm) hall2
  have hl : ps.length = cs.length := by rw [P.len, List.length_map]
  refine ⟨fun j => (ps[j]?).getD 0, fun j hj => ?_, fun t => ?_⟩
  · have e1 : (cs.map (cutC cs.length))[j]? = some (cutC cs.length cs[j]) := by rw [List.getElem?_map, List.getElem?_eq_getElem hj]; rfl
    have e2 : ps[j]? = some ps[j] := List.getElem?_eq_getElem (by omega)
    have := P.in_ j _ _ e1 e2
    unfold cutC at this
    unfold Wc ca ce
    dsimp only
    rw [e2, List.getElem?_eq_getElem hj]
    exact this
  · rw [← hl, count_range]
    exact P.few t
theorem countP_ix (cs : Cs) (p : Int × Int → Bool) : cs.countP p = (List.range cs.length).countP fun j => p (ca cs j, ce cs j) := by
  have e : cs = (List.range cs.length).map fun j => (ca cs j, ce cs j) := by
    refine List.ext_getElem? fun j => ?_
    rw [List.getElem?_map]
    by_cases h : j < cs.length
    · rw [List.getElem?_eq_getElem h, List.getElem?_range h]; simp [ca, ce, h]
    · rw [List.getElem?_eq_none (by omega), List.getElem?_eq_none (by rw [List.length_range]; omega)]; rfl
  conv => lhs; rw [e]
  rw [List.countP_map]
  rfl
/-- a stretch with more: not all placed -/
theorem short_no {cs : Cs} {m : Nat} {P : Pm} (v : Vd (Wc cs) cs.length m P) (all : ∀ j, j < cs.length → ∃ c, (j, c) ∈ P) (f l : Int) (hfl : f ≤ l) : (cs.countP (fun c => decide (f ≤ c.1) && decide (c.2 ≤ l)) : Int) ≤ m * (l - f + 1) := by
  rw [countP_ix]
  refine pigeon v all f l hfl _ fun j t hp hw => ?_
  simp only [Bool.and_eq_true, decide_eq_true_eq] at hp
  unfold Wc at hw
  omega
end Zp

set_option maxHeartbeats 2000000
namespace Zp
open PySem Z Zq
def Hall (cs : Cs) (m : Nat) : Prop := ∀ s t : Int, s ≤ t → (cs.countP (fun c => decide (s ≤ c.1) && decide (c.2 ≤ t)) : Int) ≤ m * (t - s + 1)
def Hw (cs : Cs) (m : Nat) : Prop := Hall cs m ∧ ∀ m' : Nat, Hall cs m' → m ≤ m'
theorem Hw.eq {cs : Cs} {a b : Nat} (h : Hw cs a) (g : Hw cs b) : a = b := Nat.le_antisymm (h.2 _ g.1) (g.2 _ h.1)
theorem hw_of {cs : Cs} {m : Nat} {fd : D} (h : Hall cs m) (g : Good cs m fd) : Hw cs m := by
  refine ⟨h, fun m' h' => ?_⟩
  rcases g with ⟨e, _⟩ | ⟨h1, f, l, _, hfl, _, hc⟩
  · omega
  · refine Classical.byContradiction fun hn => ?_
    have a := h' f l hfl
    rw [← cnt_countP] at a
    have b := Int.mul_le_mul_of_nonneg_right (show (m' : Int) ≤ (m : Int) - 1 by omega) (show (0 : Int) ≤ l - f + 1 by omega)
    omega
theorem eqD_ii (A : Hh) (i j : Int) : eqD A (.int i) (.int j) = some (decide (i = j)) := rfl
theorem e_many (k : Nat) (m : Nat) (A : Hh) : callN Pg (k + 2) i_check_many [.int m] A = some (.ok .non A) := by
  rw [c_check_many, mb_check_many]
  have e := e_whole k m A
  have h : ¬ (m : Int) < 0 := by omega
  simp [Z.sseq, Z.snil, Z.sret, Z.sexp, Z.sasg, Z.spar, Z.sif, Z.spass, Z.sbrk, Z.scnt, Z.sthen_nx, Z.sthen_rt, Z.sthen_bk, Z.sthen_ct, Z.of_ok, Z.andThen_ok, Z.mb, Z.ok, Z.mo, Z.zvar, Z.zc, Z.zbin, Z.zneg, Z.zcmp, Z.zchn, Z.copM, Z.zbl, Z.ztru, Z.zand, Z.zor, Z.znot, Z.zandv, Z.zorv, Z.zite, Z.znil, Z.zcons, Z.ztup, Z.zix, Z.zlen, Z.zisi, Z.isiB, Z.zcall, Z.endD, Z.gnm, Z.gtup, Z.gcons, Z.gnil, Z.gc_self, Z.zallq, Z.zanyq, Z.zsumq, Z.zminq, Z.zmaxq, Z.zlenq, Z.ztupq, Z.zrow, Z.zst, Z.zof, Z.zofL, Z.zlst, Z.lstM, Z.zcomp, Z.zrng, Z.rngM, Z.zcat, Z.zrep, Z.zzip, Z.zsort, Z.zsortR, Z.zsortset, Z.zslT, Z.zslL, Z.znone, Z.zsome, Z.znew, Z.zfz, Z.alloc, Z.wipeD, Z.sfor, Z.zm1, Z.zm0, Z.bmD, Z.zdvm, Z.zabs, Z.zmx2, Z.zmn2, Z.zint, Z.zcnt, Z.gsub, Z.setD, Z.ztt, Z.seq_tup, Z.seq_lst, Z.lst_lst, Z.ty_non, Z.ty_bl, Z.ty_int, Z.ty_str, Z.ty_tup, Z.ty_lst, Z.tru_non, Z.tru_bl, Z.tru_int, Z.tru_tup, Z.tru_lst, Z.len_tup, Z.len_lst, Z.ix_int, Z.at_0, Z.at_1, Z.at_2, Z.at_3, Z.at_4, Z.add_ii, Z.sub_ii, Z.mul_ii, Z.fdiv_ii, Z.mod_ii, Z.pow_ii, Z.add_tt, Z.lt_ii, Z.le_ii, Z.gt_ii, Z.ge_ii, Z.eq_ii, Z.ne_ii, Z.eq_dd, Z.ne_dd, Z.isN_d, Z.notN_d, Z.wt_tup, Z.D.deq, e, h]
theorem e_core (k : Nat) (cs : Cs) (h : CallsOk cs) : ∃ (wm : Nat) (fd : D), wm ≤ 12 ∧ Hw cs wm ∧ Good cs wm fd ∧ (cs ≠ [] → 1 ≤ wm) ∧
    (∃ ps : List Int, (∀ A, callN Pg (k + 6) i_least_hands [csD cs] A = some (.ok (.tup [.int (wm : Nat), .tup (ps.map .int), fd]) A)) ∧ PlanOk cs wm ps) ∧ ∀ m : Nat,
    (wm ≤ m → ∃ ps : List Int, (∀ A, callN Pg (k + 6) i_with_hands [csD cs, .int m] A = some (.ok (.tup [.str "plan", .tup (ps.map .int)]) A)) ∧ PlanOk cs m ps) ∧
    (m < wm → ∃ f l : Int, (∀ A, callN Pg (k + 6) i_with_hands [csD cs, .int m] A = some (.ok (.tup [.str "short", .int f, .int l]) A)) ∧ f ≤ l ∧ (1 ≤ f ∧ l ≤ BG) ∧ (m : Int) * (l - f + 1) < cnt cs f l) := by
  obtain ⟨mi, fd, w1, w2, w3, w4⟩ := e_wanted (k + 3) cs h
  obtain ⟨wm, rfl⟩ : ∃ m : Nat, mi = m := ⟨mi.toNat, (Int.toNat_of_nonneg w2).symm⟩
  have hcs : ∀ c ∈ cs, c.1 ≤ c.2 := fun c hc => (h.in_ c hc).2.1
  have hal : Hall cs wm := hall_all w2 hcs w4
  have l12 : wm ≤ 12 := by
    rcases w3 with ⟨e, _⟩ | ⟨h1, f, l, _, hfl, _, hc⟩
    · omega
    · have hcn : cnt cs f l ≤ 12 := Nat.le_trans (List.length_filter_le _ _) h.len
      have := Int.mul_le_mul_of_nonneg_left (show (1 : Int) ≤ l - f + 1 by omega) (show (0 : Int) ≤ (wm : Int) - 1 by omega)
      rw [Int.mul_one] at this
      omega
  have hne : cs ≠ [] → 1 ≤ wm := fun hne => by
    obtain ⟨c, r, e⟩ : ∃ c r, cs = c :: r := by cases cs with
      | nil => exact absurd rfl hne
      | cons c r => exact ⟨c, r, rfl⟩
    have hc : c ∈ cs := by rw [e]; exact List.mem_cons_self ..
    have h1 := w4 c hc c hc (hcs c hc)
    have h2 : 1 ≤ cnt cs c.1 c.2 := by
      unfold cnt
      have : c ∈ cs.filter (inW c.1 c.2) := List.mem_filter.mpr ⟨hc, by simp [inW]⟩
      exact List.length_pos_of_mem this
    refine Classical.byContradiction fun hz => ?_
    have hz' : wm = 0 := by omega
    subst hz'
    simp at h1
    omega
  refine ⟨wm, fd, l12, hw_of hal w3, w3, hne, ?_, fun m => ⟨fun hm => ?_, fun hm => ?_⟩⟩
  · obtain ⟨ps, p1, p2⟩ := e_plan (k + 4) cs wm h hne hal
    refine ⟨ps, fun A => ?_, p2⟩
    rw [c_least_hands, mb_least_hands]
    have c1 := e_check k cs A h
    simp [Z.sseq, Z.snil, Z.sret, Z.sexp, Z.sasg, Z.spar, Z.sif, Z.spass, Z.sbrk, Z.scnt, Z.sthen_nx, Z.sthen_rt, Z.sthen_bk, Z.sthen_ct, Z.of_ok, Z.andThen_ok, Z.mb, Z.ok, Z.mo, Z.zvar, Z.zc, Z.zbin, Z.zneg, Z.zcmp, Z.zchn, Z.copM, Z.zbl, Z.ztru, Z.zand, Z.zor, Z.znot, Z.zandv, Z.zorv, Z.zite, Z.znil, Z.zcons, Z.ztup, Z.zix, Z.zlen, Z.zisi, Z.isiB, Z.zcall, Z.endD, Z.gnm, Z.gtup, Z.gcons, Z.gnil, Z.gc_self, Z.zallq, Z.zanyq, Z.zsumq, Z.zminq, Z.zmaxq, Z.zlenq, Z.ztupq, Z.zrow, Z.zst, Z.zof, Z.zofL, Z.zlst, Z.lstM, Z.zcomp, Z.zrng, Z.rngM, Z.zcat, Z.zrep, Z.zzip, Z.zsort, Z.zsortR, Z.zsortset, Z.zslT, Z.zslL, Z.znone, Z.zsome, Z.znew, Z.zfz, Z.alloc, Z.wipeD, Z.sfor, Z.zm1, Z.zm0, Z.bmD, Z.zdvm, Z.zabs, Z.zmx2, Z.zmn2, Z.zint, Z.zcnt, Z.gsub, Z.setD, Z.ztt, Z.seq_tup, Z.seq_lst, Z.lst_lst, Z.ty_non, Z.ty_bl, Z.ty_int, Z.ty_str, Z.ty_tup, Z.ty_lst, Z.tru_non, Z.tru_bl, Z.tru_int, Z.tru_tup, Z.tru_lst, Z.len_tup, Z.len_lst, Z.ix_int, Z.at_0, Z.at_1, Z.at_2, Z.at_3, Z.at_4, Z.add_ii, Z.sub_ii, Z.mul_ii, Z.fdiv_ii, Z.mod_ii, Z.pow_ii, Z.add_tt, Z.lt_ii, Z.le_ii, Z.gt_ii, Z.ge_ii, Z.eq_ii, Z.ne_ii, Z.eq_dd, Z.ne_dd, Z.isN_d, Z.notN_d, Z.wt_tup, Z.D.deq, c1, w1, p1, SZ]
  · obtain ⟨ps, p1, p2⟩ := e_plan (k + 4) cs m h (fun hn => by have := hne hn; omega) fun s t hst => Int.le_trans (hal s t hst) (Int.mul_le_mul_of_nonneg_right (by omega) (by omega))
    refine ⟨ps, fun A => ?_, p2⟩
    rw [c_with_hands, mb_with_hands]
    have c1 := e_check k cs A h
    have c2 := e_many (k + 3) m A
    simp [Z.sseq, Z.snil, Z.sret, Z.sexp, Z.sasg, Z.spar, Z.sif, Z.spass, Z.sbrk, Z.scnt, Z.sthen_nx, Z.sthen_rt, Z.sthen_bk, Z.sthen_ct, Z.of_ok, Z.andThen_ok, Z.mb, Z.ok, Z.mo, Z.zvar, Z.zc, Z.zbin, Z.zneg, Z.zcmp, Z.zchn, Z.copM, Z.zbl, Z.ztru, Z.zand, Z.zor, Z.znot, Z.zandv, Z.zorv, Z.zite, Z.znil, Z.zcons, Z.ztup, Z.zix, Z.zlen, Z.zisi, Z.isiB, Z.zcall, Z.endD, Z.gnm, Z.gtup, Z.gcons, Z.gnil, Z.gc_self, Z.zallq, Z.zanyq, Z.zsumq, Z.zminq, Z.zmaxq, Z.zlenq, Z.ztupq, Z.zrow, Z.zst, Z.zof, Z.zofL, Z.zlst, Z.lstM, Z.zcomp, Z.zrng, Z.rngM, Z.zcat, Z.zrep, Z.zzip, Z.zsort, Z.zsortR, Z.zsortset, Z.zslT, Z.zslL, Z.znone, Z.zsome, Z.znew, Z.zfz, Z.alloc, Z.wipeD, Z.sfor, Z.zm1, Z.zm0, Z.bmD, Z.zdvm, Z.zabs, Z.zmx2, Z.zmn2, Z.zint, Z.zcnt, Z.gsub, Z.setD, Z.ztt, Z.seq_tup, Z.seq_lst, Z.lst_lst, Z.ty_non, Z.ty_bl, Z.ty_int, Z.ty_str, Z.ty_tup, Z.ty_lst, Z.tru_non, Z.tru_bl, Z.tru_int, Z.tru_tup, Z.tru_lst, Z.len_tup, Z.len_lst, Z.ix_int, Z.at_0, Z.at_1, Z.at_2, Z.at_3, Z.at_4, Z.add_ii, Z.sub_ii, Z.mul_ii, Z.fdiv_ii, Z.mod_ii, Z.pow_ii, Z.add_tt, Z.lt_ii, Z.le_ii, Z.gt_ii, Z.ge_ii, Z.eq_ii, Z.ne_ii, Z.eq_dd, Z.ne_dd, Z.isN_d, Z.notN_d, Z.wt_tup, Z.D.deq, c1, c2, w1, p1, hm, SZ]
  · rcases w3 with ⟨e, _⟩ | ⟨h1, f, l, rfl, hfl, hb, hc⟩
    · omega
    · refine ⟨f, l, fun A => ?_, hfl, hb, ?_⟩
      · rw [c_with_hands, mb_with_hands]
        have c1 := e_check k cs A h
        have c2 := e_many (k + 3) m A
        have hm2 : ¬ wm ≤ m := by omega
        simp [Z.sseq, Z.snil, Z.sret, Z.sexp, Z.sasg, Z.spar, Z.sif, Z.spass, Z.sbrk, Z.scnt, Z.sthen_nx, Z.sthen_rt, Z.sthen_bk, Z.sthen_ct, Z.of_ok, Z.andThen_ok, Z.mb, Z.ok, Z.mo, Z.zvar, Z.zc, Z.zbin, Z.zneg, Z.zcmp, Z.zchn, Z.copM, Z.zbl, Z.ztru, Z.zand, Z.zor, Z.znot, Z.zandv, Z.zorv, Z.zite, Z.znil, Z.zcons, Z.ztup, Z.zix, Z.zlen, Z.zisi, Z.isiB, Z.zcall, Z.endD, Z.gnm, Z.gtup, Z.gcons, Z.gnil, Z.gc_self, Z.zallq, Z.zanyq, Z.zsumq, Z.zminq, Z.zmaxq, Z.zlenq, Z.ztupq, Z.zrow, Z.zst, Z.zof, Z.zofL, Z.zlst, Z.lstM, Z.zcomp, Z.zrng, Z.rngM, Z.zcat, Z.zrep, Z.zzip, Z.zsort, Z.zsortR, Z.zsortset, Z.zslT, Z.zslL, Z.znone, Z.zsome, Z.znew, Z.zfz, Z.alloc, Z.wipeD, Z.sfor, Z.zm1, Z.zm0, Z.bmD, Z.zdvm, Z.zabs, Z.zmx2, Z.zmn2, Z.zint, Z.zcnt, Z.gsub, Z.setD, Z.ztt, Z.seq_tup, Z.seq_lst, Z.lst_lst, Z.ty_non, Z.ty_bl, Z.ty_int, Z.ty_str, Z.ty_tup, Z.ty_lst, Z.tru_non, Z.tru_bl, Z.tru_int, Z.tru_tup, Z.tru_lst, Z.len_tup, Z.len_lst, Z.ix_int, Z.at_0, Z.at_1, Z.at_2, Z.at_3, Z.at_4, Z.add_ii, Z.sub_ii, Z.mul_ii, Z.fdiv_ii, Z.mod_ii, Z.pow_ii, Z.add_tt, Z.lt_ii, Z.le_ii, Z.gt_ii, Z.ge_ii, Z.eq_ii, Z.ne_ii, Z.eq_dd, Z.ne_dd, Z.isN_d, Z.notN_d, Z.wt_tup, Z.D.deq, c1, c2, w1, hm2, SZ]
      · exact Int.lt_of_le_of_lt (Int.mul_le_mul_of_nonneg_right (by omega) (by omega)) hc
theorem zip_mem {cs : Cs} {ps : List Int} {x : D} (h : x ∈ zipD (cs.map cD) (ps.map D.int)) : ∃ (i : Nat) (c : Int × Int) (p : Int), x = .tup [cD c, .int p] ∧ cs[i]? = some c ∧ ps[i]? = some p := by
  obtain ⟨i, hi, e⟩ := List.mem_iff_getElem.mp h
  obtain ⟨a, b, h1, h2, h3⟩ := zip_at (List.getElem?_eq_some_iff.mpr ⟨hi, e⟩)
  rw [List.getElem?_map] at h1 h2
  obtain ⟨c, c1, c2⟩ := Option.map_eq_some_iff.mp h1
  obtain ⟨p, p1, p2⟩ := Option.map_eq_some_iff.mp h2
  exact ⟨i, c, p, by rw [h3, c2, p2], c1, p1⟩
theorem zip_len (xs ys : List D) : (zipD xs ys).length = min xs.length ys.length := by simp [zipD]
theorem foldl_max_le : ∀ (l : List Int) (a m : Int), a ≤ m → (∀ x ∈ l, x ≤ m) → l.foldl max a ≤ m
  | [], _, _, h, _ => h
  | x :: l, a, m, h, hl => foldl_max_le l (max a x) m (by have := hl x (List.mem_cons_self ..); omega) fun y hy => hl y (List.mem_cons_of_mem _ hy)
theorem e_is_plan (k : Nat) (cs : Cs) (ps : List Int) (m : Nat) (A : Hh) (h : CallsOk cs) (P : PlanOk cs m ps) : callN Pg (k + 2) i__law_is_plan [csD cs, .tup (ps.map .int), .int m] A = some (.ok (.bl true) A) := by
  have hz := h.len
  have pz := P.len
  have c1 : compL [some (csD cs), some (.tup (ps.map .int)), some (.int m), none, none] [] (gnm 3) ztt (zcall ⟨callN Pg (k + 1)⟩ i__law_whole (zcons (zvar 3) znil)) (ps.map .int) [] A = some (.ok (List.replicate ps.length (.bl true)) A) := by
    rw [compL_map (fun x => [some (csD cs), some (.tup (ps.map .int)), some (.int m), some x, none]) (fun _ => true) (fun _ => .bl true) _ _ (fun x hx => ?_) (by simp [SZ]; omega), filter_true, map_const _ (.bl true) _ fun _ _ => rfl]
    · simp
    · obtain ⟨p, _, rfl⟩ := List.mem_map.mp hx
      refine ⟨rfl, rfl, fun _ => ?_⟩
      simp only [Z.sseq, Z.snil, Z.sret, Z.sexp, Z.sasg, Z.spar, Z.sif, Z.spass, Z.sbrk, Z.scnt, Z.sthen_nx, Z.sthen_rt, Z.sthen_bk, Z.sthen_ct, Z.of_ok, Z.andThen_ok, Z.mb, Z.ok, Z.mo, Z.zvar, Z.zc, Z.zbin, Z.zneg, Z.zcmp, Z.zchn, Z.copM, Z.zbl, Z.ztru, Z.zand, Z.zor, Z.znot, Z.zandv, Z.zorv, Z.zite, Z.znil, Z.zcons, Z.ztup, Z.zix, Z.zlen, Z.zisi, Z.zcall, Z.endD, Z.gnm, Z.gtup, Z.gcons, Z.gnil, Z.gc_self, Z.zallq, Z.zanyq, Z.zsumq, Z.zminq, Z.zmaxq, Z.zlenq, Z.ztupq, Z.zrow, Z.zst, Z.zof, Z.zofL, Z.zlst, Z.lstM, Z.zcomp, Z.zrng, Z.rngM, Z.zcat, Z.zrep, Z.zzip, Z.zsort, Z.zsortR, Z.zsortset, Z.zslT, Z.zslL, Z.znone, Z.zsome, Z.znew, Z.zfz, Z.alloc, Z.wipeD, Z.sfor, Z.zm1, Z.zm0, Z.bmD, Z.zdvm, Z.zabs, Z.zmx2, Z.zmn2, Z.zint, Z.zcnt, Z.gsub, Z.setD, Z.ztt, Z.seq_tup, Z.seq_lst, Z.lst_lst, Z.ty_non, Z.ty_bl, Z.ty_int, Z.ty_str, Z.ty_tup, Z.ty_lst, Z.tru_non, Z.tru_bl, Z.tru_int, Z.tru_tup, Z.tru_lst, Z.len_tup, Z.len_lst, Z.ix_int, Z.at_0, Z.at_1, Z.at_2, Z.at_3, Z.at_4, Z.add_ii, Z.sub_ii, Z.add_tt, Z.lt_ii, Z.le_ii, Z.gt_ii, Z.ge_ii, Z.eq_ii, Z.ne_ii, Z.eq_dd, Z.ne_dd, Z.isN_d, Z.notN_d, Z.wt_tup, Z.D.deq, List.getElem?_cons_zero, List.getElem?_cons_succ, List.set_cons_zero, List.set_cons_succ, Bool.and_self, Bool.and_true, Bool.true_and, Bool.not_true, Bool.not_false, if_true, if_false, Bool.false_eq_true, decide_true, decide_false, Option.map_some, Option.bind_some, e_lwhole k p A]
  have c2 : compL [some (csD cs), some (.tup (ps.map .int)), some (.int m), none, none] [] (gtup 2 (gcons (gnm 4) (gcons (gnm 3) gnil))) ztt (zbl (zchn .le .le (zix (zvar 4) (zc (.int 0))) (zvar 3) (zix (zvar 4) (zc (.int 1))))) (zipD (cs.map cD) (ps.map .int)) [] A
      = some (.ok (List.replicate ps.length (.bl true)) A) := by
    rw [compL_map (fun x => match x with | .tup [c, p] => [some (csD cs), some (.tup (ps.map .int)), some (.int m), some p, some c] | _ => []) (fun _ => true) (fun _ => .bl true) _ _ (fun x hx => ?_) (by rw [zip_len]; simp [SZ]; omega), filter_true, map_const _ (.bl true) _ fun _ _ => rfl]
    · rw [zip_len]
      simp [pz]
    · obtain ⟨i, c, p, rfl, e1, e2⟩ := zip_mem hx
      obtain ⟨q1, q2⟩ := P.in_ i c p e1 e2
      refine ⟨rfl, rfl, fun _ => ?_⟩
      simp [Z.sseq, Z.snil, Z.sret, Z.sexp, Z.sasg, Z.spar, Z.sif, Z.spass, Z.sbrk, Z.scnt, Z.sthen_nx, Z.sthen_rt, Z.sthen_bk, Z.sthen_ct, Z.of_ok, Z.andThen_ok, Z.mb, Z.ok, Z.mo, Z.zvar, Z.zc, Z.zbin, Z.zneg, Z.zcmp, Z.zchn, Z.copM, Z.zbl, Z.ztru, Z.zand, Z.zor, Z.znot, Z.zandv, Z.zorv, Z.zite, Z.znil, Z.zcons, Z.ztup, Z.zix, Z.zlen, Z.zisi, Z.isiB, Z.zcall, Z.endD, Z.gnm, Z.gtup, Z.gcons, Z.gnil, Z.gc_self, Z.zallq, Z.zanyq, Z.zsumq, Z.zminq, Z.zmaxq, Z.zlenq, Z.ztupq, Z.zrow, Z.zst, Z.zof, Z.zofL, Z.zlst, Z.lstM, Z.zcomp, Z.zrng, Z.rngM, Z.zcat, Z.zrep, Z.zzip, Z.zsort, Z.zsortR, Z.zsortset, Z.zslT, Z.zslL, Z.znone, Z.zsome, Z.znew, Z.zfz, Z.alloc, Z.wipeD, Z.sfor, Z.zm1, Z.zm0, Z.bmD, Z.zdvm, Z.zabs, Z.zmx2, Z.zmn2, Z.zint, Z.zcnt, Z.gsub, Z.setD, Z.ztt, Z.seq_tup, Z.seq_lst, Z.lst_lst, Z.ty_non, Z.ty_bl, Z.ty_int, Z.ty_str, Z.ty_tup, Z.ty_lst, Z.tru_non, Z.tru_bl, Z.tru_int, Z.tru_tup, Z.tru_lst, Z.len_tup, Z.len_lst, Z.ix_int, Z.at_0, Z.at_1, Z.at_2, Z.at_3, Z.at_4, Z.add_ii, Z.sub_ii, Z.mul_ii, Z.fdiv_ii, Z.mod_ii, Z.pow_ii, Z.add_tt, Z.lt_ii, Z.le_ii, Z.gt_ii, Z.ge_ii, Z.eq_ii, Z.ne_ii, Z.eq_dd, Z.ne_dd, Z.isN_d, Z.notN_d, Z.wt_tup, Z.D.deq, cD, q1, q2]
  have c3 : compL [some (csD cs), some (.tup (ps.map .int)), some (.int m), none, none] [] (gnm 3) ztt (zcnt (zvar 1) (zvar 3)) (ps.map .int) [] A = some (.ok ((ps.map fun p => ((ps.count p : Nat) : Int)).map .int) A) := by
    rw [compL_map (fun x => [some (csD cs), some (.tup (ps.map .int)), some (.int m), some x, none]) (fun _ => true) (fun x => match x with | .int p => .int ((ps.count p : Nat) : Int) | _ => .non) _ _ (fun x hx => ?_) (by simp [SZ]; omega), filter_true, List.map_map, List.map_map]
    · rfl
    · obtain ⟨p, _, rfl⟩ := List.mem_map.mp hx
      refine ⟨rfl, rfl, fun _ => ?_⟩
      simp [Z.sseq, Z.snil, Z.sret, Z.sexp, Z.sasg, Z.spar, Z.sif, Z.spass, Z.sbrk, Z.scnt, Z.sthen_nx, Z.sthen_rt, Z.sthen_bk, Z.sthen_ct, Z.of_ok, Z.andThen_ok, Z.mb, Z.ok, Z.mo, Z.zvar, Z.zc, Z.zbin, Z.zneg, Z.zcmp, Z.zchn, Z.copM, Z.zbl, Z.ztru, Z.zand, Z.zor, Z.znot, Z.zandv, Z.zorv, Z.zite, Z.znil, Z.zcons, Z.ztup, Z.zix, Z.zlen, Z.zisi, Z.isiB, Z.zcall, Z.endD, Z.gnm, Z.gtup, Z.gcons, Z.gnil, Z.gc_self, Z.zallq, Z.zanyq, Z.zsumq, Z.zminq, Z.zmaxq, Z.zlenq, Z.ztupq, Z.zrow, Z.zst, Z.zof, Z.zofL, Z.zlst, Z.lstM, Z.zcomp, Z.zrng, Z.rngM, Z.zcat, Z.zrep, Z.zzip, Z.zsort, Z.zsortR, Z.zsortset, Z.zslT, Z.zslL, Z.znone, Z.zsome, Z.znew, Z.zfz, Z.alloc, Z.wipeD, Z.sfor, Z.zm1, Z.zm0, Z.bmD, Z.zdvm, Z.zabs, Z.zmx2, Z.zmn2, Z.zint, Z.zcnt, Z.gsub, Z.setD, Z.ztt, Z.seq_tup, Z.seq_lst, Z.lst_lst, Z.ty_non, Z.ty_bl, Z.ty_int, Z.ty_str, Z.ty_tup, Z.ty_lst, Z.tru_non, Z.tru_bl, Z.tru_int, Z.tru_tup, Z.tru_lst, Z.len_tup, Z.len_lst, Z.ix_int, Z.at_0, Z.at_1, Z.at_2, Z.at_3, Z.at_4, Z.add_ii, Z.sub_ii, Z.mul_ii, Z.fdiv_ii, Z.mod_ii, Z.pow_ii, Z.add_tt, Z.lt_ii, Z.le_ii, Z.gt_ii, Z.ge_ii, Z.eq_ii, Z.ne_ii, Z.eq_dd, Z.ne_dd, Z.isN_d, Z.notN_d, Z.wt_tup, Z.D.deq, intsOf_ints]
  have e1 : ((ps.map D.int).length : Int) = (cs.length : Int) := by rw [List.length_map, pz]
  obtain ⟨L, hL⟩ : ∃ L, L = ps.map fun p => ((ps.count p : Nat) : Int) := ⟨_, rfl⟩
  rw [← hL] at c3
  have hLl : L.length = ps.length := by rw [hL, List.length_map]
  have hLz : 1 + L.length ≤ 16000000 := by omega
  have iL : intsOf (D.int 0 :: L.map D.int) = some (0 :: L) := by
    have := intsOf_ints (0 :: L)
    exact this
  have fm : L.foldl max 0 ≤ (m : Int) := foldl_max_le L 0 m (by omega) fun x hx => by
    rw [hL] at hx
    obtain ⟨p, _, rfl⟩ := List.mem_map.mp hx
    exact Int.ofNat_le.mpr (P.few p)
  rw [c__law_is_plan, mb__law_is_plan]
  unfold csD at c1 c2 c3 ⊢
  simp [Z.sseq, Z.snil, Z.sret, Z.sexp, Z.sasg, Z.spar, Z.sif, Z.spass, Z.sbrk, Z.scnt, Z.sthen_nx, Z.sthen_rt, Z.sthen_bk, Z.sthen_ct, Z.of_ok, Z.andThen_ok, Z.mb, Z.ok, Z.mo, Z.zvar, Z.zc, Z.zbin, Z.zneg, Z.zcmp, Z.zchn, Z.copM, Z.zbl, Z.ztru, Z.zand, Z.zor, Z.znot, Z.zandv, Z.zorv, Z.zite, Z.znil, Z.zcons, Z.ztup, Z.zix, Z.zlen, Z.zisi, Z.isiB, Z.zcall, Z.endD, Z.gnm, Z.gtup, Z.gcons, Z.gnil, Z.gc_self, Z.zallq, Z.zanyq, Z.zsumq, Z.zminq, Z.zmaxq, Z.zlenq, Z.ztupq, Z.zrow, Z.zst, Z.zof, Z.zofL, Z.zlst, Z.lstM, Z.zcomp, Z.zrng, Z.rngM, Z.zcat, Z.zrep, Z.zzip, Z.zsort, Z.zsortR, Z.zsortset, Z.zslT, Z.zslL, Z.znone, Z.zsome, Z.znew, Z.zfz, Z.alloc, Z.wipeD, Z.sfor, Z.zm1, Z.zm0, Z.bmD, Z.zdvm, Z.zabs, Z.zmx2, Z.zmn2, Z.zint, Z.zcnt, Z.gsub, Z.setD, Z.ztt, Z.seq_tup, Z.seq_lst, Z.lst_lst, Z.ty_non, Z.ty_bl, Z.ty_int, Z.ty_str, Z.ty_tup, Z.ty_lst, Z.tru_non, Z.tru_bl, Z.tru_int, Z.tru_tup, Z.tru_lst, Z.len_tup, Z.len_lst, Z.ix_int, Z.at_0, Z.at_1, Z.at_2, Z.at_3, Z.at_4, Z.add_ii, Z.sub_ii, Z.mul_ii, Z.fdiv_ii, Z.mod_ii, Z.pow_ii, Z.add_tt, Z.lt_ii, Z.le_ii, Z.gt_ii, Z.ge_ii, Z.eq_ii, Z.ne_ii, Z.eq_dd, Z.ne_dd, Z.isN_d, Z.notN_d, Z.wt_tup, Z.D.deq, eqD_ii, c1, c2, c3, blsOf_true, pz, zcatL, iL, maxI, fm, hLz, SZ]
theorem comp_one {σ : Sl} {A : Hh} {cs : List (Int × Int)} {f l : Int} (j a b : Nat) (hz : cs.length ≤ 12) (ha : a ≠ j) (hb : b ≠ j) (hj : j < σ.length) (ea : σ[a]? = some (some (.int f))) (eb : σ[b]? = some (some (.int l))) :
    compL σ [] (gnm j) (zand (zcmp .le (zvar a) (zix (zvar j) (zc (.int 0)))) (zcmp .le (zix (zvar j) (zc (.int 1))) (zvar b))) (zc (.int 1)) (cs.map cD) [] A = some (.ok (List.replicate (cnt cs f l) (.int 1)) A) := by
  let q : D → Bool := fun d => match d with
    | .tup [.int x, .int y] => decide (f ≤ x) && decide (y ≤ l)
    | _ => false
  have ej : ∀ x, (σ.set j (some x))[j]? = some (some x) := fun x => List.getElem?_set_self hj
  have ea' : ∀ x, (σ.set j (some x))[a]? = some (some (.int f)) := fun x => by rw [List.getElem?_set_ne (Ne.symm ha), ea]
  have eb' : ∀ x, (σ.set j (some x))[b]? = some (some (.int l)) := fun x => by rw [List.getElem?_set_ne (Ne.symm hb), eb]
  rw [compL_map (fun x => σ.set j (some x)) q (fun x => .int 1) _ _ (fun x hx => ?_) (by simp [SZ]; omega)]
  · rw [List.filter_map]
    have : (q ∘ cD) = inW f l := by
      funext c
      rfl
    rw [this, map_const _ (.int 1) _ fun _ _ => rfl, List.length_map]
    rfl
  · obtain ⟨c, _, rfl⟩ := List.mem_map.mp hx
    refine ⟨rfl, ?_, fun _ => rfl⟩
    simp only [zand, mb, zcmp, zvar, ea', eb', ej, ok, andThen_ok, zix, zc, ix_int, cD, seq_tup, Option.bind_some, at_0, at_1, copM, le_ii, Option.map_some, List.getElem?_cons_zero, List.getElem?_cons_succ]
    by_cases h1 : f ≤ c.1
    · simp [h1, q, mb, zcmp, zvar, ea', eb', ej, ok, andThen_ok, zix, zc, ix_int, cD, seq_tup, at_0, at_1, copM, le_ii]
    · simp [h1, q, ok]
theorem e_is_short (k : Nat) (cs : Cs) (f l hm : Int) (A : Hh) (hz : cs.length ≤ 12) (hfl : f ≤ l) (hb : 1 ≤ f ∧ l ≤ BG) (h0 : 0 ≤ hm) (h12 : hm ≤ 12) (hc : hm * (l - f + 1) < cnt cs f l) :
    callN Pg (k + 2) i__law_is_short [csD cs, .int f, .int l, .int hm] A = some (.ok (.bl true) A) := by
  have c1 := comp_one (σ := [some (csD cs), some (.int f), some (.int l), some (.int hm), none]) (A := A) (cs := cs) (f := f) (l := l) 4 1 2 hz (by decide) (by decide) (by show 4 < 5; decide) rfl rfl
  have b : 0 < l - f + 1 := by omega
  have hs : small (l - f + 1) = true := sm (by omega) (Int.le_trans (show l - f + 1 ≤ BG by omega) (by decide +kernel))
  have hs2 : small hm = true := sm h0 (Int.le_trans h12 (by decide +kernel))
  have w1 := e_lwhole k f A
  have w2 := e_lwhole k l A
  rw [c__law_is_short, mb__law_is_short]
  simp [Z.sseq, Z.snil, Z.sret, Z.sexp, Z.sasg, Z.spar, Z.sif, Z.spass, Z.sbrk, Z.scnt, Z.sthen_nx, Z.sthen_rt, Z.sthen_bk, Z.sthen_ct, Z.of_ok, Z.andThen_ok, Z.mb, Z.ok, Z.mo, Z.zvar, Z.zc, Z.zbin, Z.zneg, Z.zcmp, Z.zchn, Z.copM, Z.zbl, Z.ztru, Z.zand, Z.zor, Z.znot, Z.zandv, Z.zorv, Z.zite, Z.znil, Z.zcons, Z.ztup, Z.zix, Z.zlen, Z.zisi, Z.isiB, Z.zcall, Z.endD, Z.gnm, Z.gtup, Z.gcons, Z.gnil, Z.gc_self, Z.zallq, Z.zanyq, Z.zsumq, Z.zminq, Z.zmaxq, Z.zlenq, Z.ztupq, Z.zrow, Z.zst, Z.zof, Z.zofL, Z.zlst, Z.lstM, Z.zcomp, Z.zrng, Z.rngM, Z.zcat, Z.zrep, Z.zzip, Z.zsort, Z.zsortR, Z.zsortset, Z.zslT, Z.zslL, Z.znone, Z.zsome, Z.znew, Z.zfz, Z.alloc, Z.wipeD, Z.sfor, Z.zm1, Z.zm0, Z.bmD, Z.zdvm, Z.zabs, Z.zmx2, Z.zmn2, Z.zint, Z.zcnt, Z.gsub, Z.setD, Z.ztt, Z.seq_tup, Z.seq_lst, Z.lst_lst, Z.ty_non, Z.ty_bl, Z.ty_int, Z.ty_str, Z.ty_tup, Z.ty_lst, Z.tru_non, Z.tru_bl, Z.tru_int, Z.tru_tup, Z.tru_lst, Z.len_tup, Z.len_lst, Z.ix_int, Z.at_0, Z.at_1, Z.at_2, Z.at_3, Z.at_4, Z.add_ii, Z.sub_ii, Z.mul_ii, Z.fdiv_ii, Z.mod_ii, Z.pow_ii, Z.add_tt, Z.lt_ii, Z.le_ii, Z.gt_ii, Z.ge_ii, Z.eq_ii, Z.ne_ii, Z.eq_dd, Z.ne_dd, Z.isN_d, Z.notN_d, Z.wt_tup, Z.D.deq, w1, w2, seq_cs, c1, hfl, hs, hs2, hc]
theorem e_all0 (k : Nat) (cs : Cs) (A : Hh) : callN Pg (k + 1) i__law_all_placed [csD cs, .int 0] A = some (.ok (.bl cs.isEmpty) A) := by
  have hg : gc A (A ++ [.dck []]) (.bl cs.isEmpty) = A := gc_app rfl
  have ee : ∀ X, copD .eqE (csD cs) (.tup []) X = some cs.isEmpty := fun X => by
    unfold csD
    show some (cs.map cD).isEmpty = _
    cases cs <;> rfl
  rw [c__law_all_placed, mb__law_all_placed]
  simp [Z.sseq, Z.snil, Z.sret, Z.sexp, Z.sasg, Z.spar, Z.sif, Z.spass, Z.sbrk, Z.scnt, Z.sthen_nx, Z.sthen_rt, Z.sthen_bk, Z.sthen_ct, Z.of_ok, Z.andThen_ok, Z.mb, Z.ok, Z.mo, Z.zvar, Z.zc, Z.zbin, Z.zneg, Z.zcmp, Z.zchn, Z.copM, Z.zbl, Z.ztru, Z.zand, Z.zor, Z.znot, Z.zandv, Z.zorv, Z.zite, Z.znil, Z.zcons, Z.ztup, Z.zix, Z.zlen, Z.zisi, Z.isiB, Z.zcall, Z.endD, Z.gnm, Z.gtup, Z.gcons, Z.gnil, Z.gc_self, Z.zallq, Z.zanyq, Z.zsumq, Z.zminq, Z.zmaxq, Z.zlenq, Z.ztupq, Z.zrow, Z.zst, Z.zof, Z.zofL, Z.zlst, Z.lstM, Z.zcomp, Z.zrng, Z.rngM, Z.zcat, Z.zrep, Z.zzip, Z.zsort, Z.zsortR, Z.zsortset, Z.zslT, Z.zslL, Z.znone, Z.zsome, Z.znew, Z.zfz, Z.alloc, Z.wipeD, Z.sfor, Z.zm1, Z.zm0, Z.bmD, Z.zdvm, Z.zabs, Z.zmx2, Z.zmn2, Z.zint, Z.zcnt, Z.gsub, Z.setD, Z.ztt, Z.seq_tup, Z.seq_lst, Z.lst_lst, Z.ty_non, Z.ty_bl, Z.ty_int, Z.ty_str, Z.ty_tup, Z.ty_lst, Z.tru_non, Z.tru_bl, Z.tru_int, Z.tru_tup, Z.tru_lst, Z.len_tup, Z.len_lst, Z.ix_int, Z.at_0, Z.at_1, Z.at_2, Z.at_3, Z.at_4, Z.add_ii, Z.sub_ii, Z.mul_ii, Z.fdiv_ii, Z.mod_ii, Z.pow_ii, Z.add_tt, Z.lt_ii, Z.le_ii, Z.gt_ii, Z.ge_ii, Z.eq_ii, Z.ne_ii, Z.eq_dd, Z.ne_dd, Z.isN_d, Z.notN_d, Z.wt_tup, Z.D.deq, znewK, eqD_ii, ee, hg, SZ]
theorem e_how (k : Nat) (cs : Cs) (h : CallsOk cs) : ∃ m : Nat, (∀ A, callN Pg (k + 16) i__law_how [csD cs] A = some (.ok (.int m) A)) ∧ Hw cs m ∧ m ≤ 12 := by
  obtain ⟨wm, fd, l12, hw, gd, hne, ⟨ps, q1, q2⟩, _⟩ := e_core (k + 9) cs h
  refine ⟨wm, fun A => ?_, hw, l12⟩
  have hz := h.len
  have ip := fun A => e_is_plan (k + 13) cs ps wm A h q2
  have iw := fun (i : Int) A => e_lwhole (k + 14) i A
  have e31 : ∀ (x y z : D), D.tup [x, y, z] = D.tup [x, y, z] := fun _ _ _ => rfl
  by_cases he : cs = []
  · subst he
    have w0 : wm = 0 := by
      have := hw.2 0 fun s t hst => by simp
      omega
    subst w0
    have fe : fd = .non := by
      rcases gd with ⟨_, e⟩ | ⟨h1, _⟩
      · exact e
      · omega
    subst fe
    have a0 := fun A => e_all0 (k + 14) [] A
    have ee : ∀ X, copD .eqE (csD []) (.tup []) X = some true := fun X => rfl
    rw [c__law_how, mb__law_how]
    have z0 : ((0 : Nat) : Int) = 0 := rfl
    rw [z0] at q1 ip
    simp [Z.sseq, Z.snil, Z.sret, Z.sexp, Z.sasg, Z.spar, Z.sif, Z.spass, Z.sbrk, Z.scnt, Z.sthen_nx, Z.sthen_rt, Z.sthen_bk, Z.sthen_ct, Z.of_ok, Z.andThen_ok, Z.mb, Z.ok, Z.mo, Z.zvar, Z.zc, Z.zbin, Z.zneg, Z.zcmp, Z.zchn, Z.copM, Z.zbl, Z.ztru, Z.zand, Z.zor, Z.znot, Z.zandv, Z.zorv, Z.zite, Z.znil, Z.zcons, Z.ztup, Z.zix, Z.zlen, Z.zisi, Z.isiB, Z.zcall, Z.endD, Z.gnm, Z.gtup, Z.gcons, Z.gnil, Z.gc_self, Z.zallq, Z.zanyq, Z.zsumq, Z.zminq, Z.zmaxq, Z.zlenq, Z.ztupq, Z.zrow, Z.zst, Z.zof, Z.zofL, Z.zlst, Z.lstM, Z.zcomp, Z.zrng, Z.rngM, Z.zcat, Z.zrep, Z.zzip, Z.zsort, Z.zsortR, Z.zsortset, Z.zslT, Z.zslL, Z.znone, Z.zsome, Z.znew, Z.zfz, Z.alloc, Z.wipeD, Z.sfor, Z.zm1, Z.zm0, Z.bmD, Z.zdvm, Z.zabs, Z.zmx2, Z.zmn2, Z.zint, Z.zcnt, Z.gsub, Z.setD, Z.ztt, Z.seq_tup, Z.seq_lst, Z.lst_lst, Z.ty_non, Z.ty_bl, Z.ty_int, Z.ty_str, Z.ty_tup, Z.ty_lst, Z.tru_non, Z.tru_bl, Z.tru_int, Z.tru_tup, Z.tru_lst, Z.len_tup, Z.len_lst, Z.ix_int, Z.at_0, Z.at_1, Z.at_2, Z.at_3, Z.at_4, Z.add_ii, Z.sub_ii, Z.mul_ii, Z.fdiv_ii, Z.mod_ii, Z.pow_ii, Z.add_tt, Z.lt_ii, Z.le_ii, Z.gt_ii, Z.ge_ii, Z.eq_ii, Z.ne_ii, Z.eq_dd, Z.ne_dd, Z.isN_d, Z.notN_d, Z.wt_tup, Z.D.deq, q1, iw, ip, a0, ee, eqD_ii, SZ, zint]
  · have h1 := hne he
    obtain ⟨W, hW⟩ : ∃ W : Int, W = (wm : Int) := ⟨_, rfl⟩
    rw [← hW] at q1
    rw [← hW] at ip
    have w0 : ¬ W = 0 := by omega
    rcases gd with ⟨e, _⟩ | ⟨_, f, l, rfl, hfl, hb, hc⟩
    · omega
    · have sh := fun A => e_is_short (k + 13) cs f l (W - 1) A hz hfl hb (by omega) (by omega) (by rw [hW]; exact hc)
      obtain ⟨r, a1, a2, _⟩ := e_all k cs wm A hz h1
      have r1 := a2 (pln_of h h1 hw.1)
      subst r1
      rw [← hW] at a1
      have a3 : callN Pg (k + 15) i__law_all_placed [csD cs, .int (W - 1)] A = some (.ok (.bl false) A) := by
        by_cases w1 : wm = 1
        · have e0 : W - 1 = 0 := by omega
          rw [e0, e_all0 (k + 14) cs A]
          cases cs with
          | nil => exact absurd rfl he
          | cons _ _ => rfl
        · obtain ⟨r, b1, _, b3⟩ := e_all k cs (wm - 1) A hz (by omega)
          have e0 : W - 1 = ((wm - 1 : Nat) : Int) := by omega
          rw [e0, b1]
          cases r with
          | false => rfl
          | true =>
            obtain ⟨P, v, all⟩ := b3 rfl
            have c1 := short_no v all f l hfl
            rw [← cnt_countP] at c1
            rw [← e0] at c1
            rw [← hW] at hc
            omega
      rw [c__law_how, mb__law_how]
      rw [← hW]
      simp [Z.sseq, Z.snil, Z.sret, Z.sexp, Z.sasg, Z.spar, Z.sif, Z.spass, Z.sbrk, Z.scnt, Z.sthen_nx, Z.sthen_rt, Z.sthen_bk, Z.sthen_ct, Z.of_ok, Z.andThen_ok, Z.mb, Z.ok, Z.mo, Z.zvar, Z.zc, Z.zbin, Z.zneg, Z.zcmp, Z.zchn, Z.copM, Z.zbl, Z.ztru, Z.zand, Z.zor, Z.znot, Z.zandv, Z.zorv, Z.zite, Z.znil, Z.zcons, Z.ztup, Z.zix, Z.zlen, Z.zisi, Z.isiB, Z.zcall, Z.endD, Z.gnm, Z.gtup, Z.gcons, Z.gnil, Z.gc_self, Z.zallq, Z.zanyq, Z.zsumq, Z.zminq, Z.zmaxq, Z.zlenq, Z.ztupq, Z.zrow, Z.zst, Z.zof, Z.zofL, Z.zlst, Z.lstM, Z.zcomp, Z.zrng, Z.rngM, Z.zcat, Z.zrep, Z.zzip, Z.zsort, Z.zsortR, Z.zsortset, Z.zslT, Z.zslL, Z.znone, Z.zsome, Z.znew, Z.zfz, Z.alloc, Z.wipeD, Z.sfor, Z.zm1, Z.zm0, Z.bmD, Z.zdvm, Z.zabs, Z.zmx2, Z.zmn2, Z.zint, Z.zcnt, Z.gsub, Z.setD, Z.ztt, Z.seq_tup, Z.seq_lst, Z.lst_lst, Z.ty_non, Z.ty_bl, Z.ty_int, Z.ty_str, Z.ty_tup, Z.ty_lst, Z.tru_non, Z.tru_bl, Z.tru_int, Z.tru_tup, Z.tru_lst, Z.len_tup, Z.len_lst, Z.ix_int, Z.at_0, Z.at_1, Z.at_2, Z.at_3, Z.at_4, Z.add_ii, Z.sub_ii, Z.mul_ii, Z.fdiv_ii, Z.mod_ii, Z.pow_ii, Z.add_tt, Z.lt_ii, Z.le_ii, Z.gt_ii, Z.ge_ii, Z.eq_ii, Z.ne_ii, Z.eq_dd, Z.ne_dd, Z.isN_d, Z.notN_d, Z.wt_tup, Z.D.deq, q1, iw, ip, a1, a3, sh, w0, eqD_ii, SZ, zint]
end Zp

set_option maxHeartbeats 2000000
namespace Zp
open PySem Z Zq
theorem eq_str (A : Hh) (a b : Str) : eqD A (.str a) (.str b) = some (decide (a = b)) := rfl
theorem Hw.mono {cs ds : Cs} {a b : Nat} (h : Hw cs a) (g : Hw ds b) (le : ∀ s t : Int, cs.countP (fun c => decide (s ≤ c.1) && decide (c.2 ≤ t)) ≤ ds.countP (fun c => decide (s ≤ c.1) && decide (c.2 ≤ t))) : a ≤ b :=
  h.2 b fun s t hst => Int.le_trans (Int.ofNat_le.mpr (le s t)) (g.1 s t hst)
theorem Hw.one {cs ds : Cs} {a b : Nat} (h : Hw cs a) (g : Hw ds b) (le : ∀ s t : Int, ds.countP (fun c => decide (s ≤ c.1) && decide (c.2 ≤ t)) ≤ cs.countP (fun c => decide (s ≤ c.1) && decide (c.2 ≤ t)) + 1) : b ≤ a + 1 :=
  g.2 (a + 1) fun s t hst => by
    have e1 := h.1 s t hst
    have e2 := le s t
    have e3 : ((a + 1 : Nat) : Int) * (t - s + 1) = (a : Int) * (t - s + 1) + (t - s + 1) := by rw [Int.natCast_add, Int.add_mul]; simp
    rw [e3]
    omega
theorem Hw.two {cs ds : Cs} {a b : Nat} (h : Hw cs a) (g : Hw ds b) (le : ∀ s t : Int, ds.countP (fun c => decide (s ≤ c.1) && decide (c.2 ≤ t)) ≤ 2 * cs.countP (fun c => decide (s ≤ c.1) && decide (c.2 ≤ t))) : b ≤ 2 * a :=
  g.2 (2 * a) fun s t hst => by
    have e1 := h.1 s t hst
    have e2 := le s t
    have e3 : ((2 * a : Nat) : Int) * (t - s + 1) = 2 * ((a : Int) * (t - s + 1)) := by rw [Int.natCast_mul, Int.mul_assoc]; rfl
    rw [e3]
    omega
theorem cnt_snoc (cs : Cs) (c : Int × Int) (p : Int × Int → Bool) : (cs ++ [c]).countP p = cs.countP p + (if p c = true then 1 else 0) := by
  rw [List.countP_append]
  simp [List.countP_cons]
theorem add_hw {cs ds : Cs} {c : Int × Int} {a b : Nat} (pm : ds.Perm (cs ++ [c])) (h : Hw cs a) (g : Hw ds b) : a ≤ b ∧ b ≤ a + 1 :=
  ⟨h.mono g fun s t => by rw [pm.countP_eq, cnt_snoc]; exact Nat.le_add_right _ _, h.one g fun s t => by rw [pm.countP_eq, cnt_snoc]; split <;> omega⟩
theorem twice_hw {cs ds : Cs} {a b : Nat} (pm : ds.Perm (cs ++ cs)) (h : Hw cs a) (g : Hw ds b) : a ≤ b ∧ b ≤ 2 * a :=
  ⟨h.mono g fun s t => by rw [pm.countP_eq, List.countP_append]; exact Nat.le_add_right _ _, h.two g fun s t => by rw [pm.countP_eq, List.countP_append]; omega⟩
def shC (m : Int) (c : Int × Int) : Int × Int := (c.1 + m, c.2 + m)
theorem sh_count (cs : Cs) (m s t : Int) : (cs.map (shC m)).countP (fun c => decide (s ≤ c.1) && decide (c.2 ≤ t)) = cs.countP (fun c => decide (s - m ≤ c.1) && decide (c.2 ≤ t - m)) := by
  rw [List.countP_map]
  congr 1
  funext c
  simp only [Function.comp, shC]
  congr 1 <;> exact decide_eq_decide.mpr (by omega)
theorem sh_hw {cs : Cs} {m : Int} {a b : Nat} (h : Hw cs a) (g : Hw (cs.map (shC m)) b) : b = a := by
  refine Nat.le_antisymm (g.2 a fun s t hst => ?_) (h.2 b fun s t hst => ?_)
  · rw [sh_count]
    have := h.1 (s - m) (t - m) (by omega)
    have e : t - m - (s - m) + 1 = t - s + 1 := by omega
    rw [e] at this
    exact this
  · have := g.1 (s + m) (t + m) (by omega)
    rw [sh_count] at this
    have e : t + m - (s + m) + 1 = t - s + 1 := by omega
    have e1 : s + m - m = s := by omega
    have e2 : t + m - m = t := by omega
    rw [e, e1, e2] at this
    exact this
theorem later_hw {rs cs ds : Cs} {x y z : Int} {a b r : Nat} (pc : cs.Perm (rs ++ [(x, y)])) (pd : ds.Perm (rs ++ [(x, z)])) (hyz : y ≤ z) (hr : Hw rs r) (h : Hw cs a) (g : Hw ds b) : b ≤ a ∧ a ≤ b + 1 := by
  have h1 := (add_hw pc hr h)
  have h2 := (add_hw pd hr g)
  refine ⟨g.mono h fun s t => ?_, by omega⟩
  rw [pc.countP_eq, pd.countP_eq, cnt_snoc, cnt_snoc]
  have : ∀ (w : Bool), (if (w && decide (z ≤ t)) = true then 1 else 0) ≤ (if (w && decide (y ≤ t)) = true then 1 else 0) := fun w => by
    cases w with
    | false => simp
    | true =>
      by_cases q : z ≤ t
      · have : y ≤ t := by omega
        simp [q, this]
      · simp [q]
  have := this (decide (s ≤ x))
  dsimp only
  omega
/-- one of them, and the rest -/
theorem rest_perm {cs : Cs} {i : Nat} {c : Int × Int} (h : cs[i]? = some c) : cs.Perm (cs.take i ++ cs.drop (i + 1) ++ [c]) := by
  obtain ⟨hi, e⟩ := List.getElem?_eq_some_iff.mp h
  have e1 : cs = cs.take i ++ c :: cs.drop (i + 1) := by
    conv => lhs; rw [← List.take_append_drop i cs]
    rw [List.drop_eq_getElem_cons hi, e]
  conv => lhs; rw [e1]
  exact (List.perm_middle).trans (List.perm_append_singleton c _).symm
/-- how many, between these -/
structure Ot (cs : Cs) (lo hi : Int) : Prop where
  ok : CallsOk cs
  bd : ∀ m : Nat, Hw cs m → lo ≤ (m : Int) ∧ (m : Int) ≤ hi
theorem sortT_cs {cs : Cs} (hz : cs.length < 64) (hb : ∀ c ∈ cs, 1 ≤ c.1 ∧ c.1 ≤ c.2 ∧ c.2 ≤ BG) : ∃ ds : Cs, sortT (.tup (cs.map cD)) = some (ds.map cD) ∧ ds.Perm cs ∧ ds.Pairwise leC := by
  obtain ⟨ds, d1, d2, d3⟩ := sort_cs hz hb
  refine ⟨ds, ?_, d2, d3⟩
  have hm : cs.map cD = (cs.map fun c => [c.1, c.2]).map tupD := by rw [List.map_map]; rfl
  have hs := sortD_tups (ts := cs.map fun c => [c.1, c.2]) fun t ht => by
      obtain ⟨i, _, rfl⟩ := List.mem_map.mp ht
      simp
  rw [← hm, d1] at hs
  unfold sortT
  dsimp only
  rw [hm, tupsOf_tups]
  dsimp only
  rw [if_pos, ← hs]
  refine List.all_eq_true.mpr fun u hu => ?_
  obtain ⟨i, _, rfl⟩ := List.mem_map.mp hu
  rfl
/-- a part told: the calls and how many hands they may want -/
def otD (o : Cs × Int × Int) : D := .tup [csD o.1, .int o.2.1, .int o.2.2]
def OtOk (o : Cs × Int × Int) : Prop := Ot o.1 o.2.1 o.2.2
theorem some_loop0 (k : Nat) (cs : Cs) (wm : Nat) (h : CallsOk cs) (hs : ∀ m : Nat, wm ≤ m → ∃ ps : List Int, (∀ A, callN Pg (k + 6) i_with_hands [csD cs, .int m] A = some (.ok (.tup [.str "plan", .tup (ps.map .int)]) A)) ∧ PlanOk cs m ps) (s1 : Option D) (A : Hh) :
    ∀ (ms : List Nat) (s2 s3 : Option D), (∀ m ∈ ms, wm ≤ m) → ∃ s2' s3', forL [] (gnm 2) (lb__law_some_hands_0 ⟨callN Pg (k + 6)⟩) (ms.map fun m => D.int (m : Nat)) [some (csD cs), s1, s2, s3] A = some (.nx [some (csD cs), s1, s2', s3'] A)
  | [], s2, s3, _ => ⟨s2, s3, rfl⟩
  | m :: ms, s2, s3, hm => by
    obtain ⟨ps, p1, p2⟩ := hs m (hm m (List.mem_cons_self ..))
    have e := e_is_plan (k + 4) cs ps m A h p2
    have b : lb__law_some_hands_0 ⟨callN Pg (k + 6)⟩ [some (csD cs), s1, some (.int m), s3] A = some (.nx [some (csD cs), s1, some (.int m), some (.tup [.str "plan", .tup (ps.map .int)])] A) := by
      unfold lb__law_some_hands_0
      simp [Z.sseq, Z.snil, Z.sret, Z.sexp, Z.sasg, Z.spar, Z.sif, Z.spass, Z.sbrk, Z.scnt, Z.sthen_nx, Z.sthen_rt, Z.sthen_bk, Z.sthen_ct, Z.of_ok, Z.andThen_ok, Z.mb, Z.ok, Z.mo, Z.zvar, Z.zc, Z.zbin, Z.zneg, Z.zcmp, Z.zchn, Z.copM, Z.zbl, Z.ztru, Z.zand, Z.zor, Z.znot, Z.zandv, Z.zorv, Z.zite, Z.znil, Z.zcons, Z.ztup, Z.zix, Z.zlen, Z.zisi, Z.isiB, Z.zcall, Z.endD, Z.gnm, Z.gtup, Z.gcons, Z.gnil, Z.gc_self, Z.zallq, Z.zanyq, Z.zsumq, Z.zminq, Z.zmaxq, Z.zlenq, Z.ztupq, Z.zrow, Z.zst, Z.zof, Z.zofL, Z.zlst, Z.lstM, Z.zcomp, Z.zrng, Z.rngM, Z.zcat, Z.zrep, Z.zzip, Z.zsort, Z.zsortR, Z.zsortset, Z.zslT, Z.zslL, Z.znone, Z.zsome, Z.znew, Z.zfz, Z.alloc, Z.wipeD, Z.sfor, Z.zm1, Z.zm0, Z.bmD, Z.zdvm, Z.zabs, Z.zmx2, Z.zmn2, Z.zint, Z.zcnt, Z.gsub, Z.setD, Z.ztt, Z.seq_tup, Z.seq_lst, Z.lst_lst, Z.ty_non, Z.ty_bl, Z.ty_int, Z.ty_str, Z.ty_tup, Z.ty_lst, Z.tru_non, Z.tru_bl, Z.tru_int, Z.tru_tup, Z.tru_lst, Z.len_tup, Z.len_lst, Z.ix_int, Z.at_0, Z.at_1, Z.at_2, Z.at_3, Z.at_4, Z.add_ii, Z.sub_ii, Z.mul_ii, Z.fdiv_ii, Z.mod_ii, Z.pow_ii, Z.add_tt, Z.lt_ii, Z.le_ii, Z.gt_ii, Z.ge_ii, Z.eq_ii, Z.ne_ii, Z.eq_dd, Z.ne_dd, Z.isN_d, Z.notN_d, Z.wt_tup, Z.D.deq, p1, e, eqD_ii, eq_str]
    obtain ⟨t2, t3, r⟩ := some_loop0 k cs wm h hs s1 A ms (some (.int m)) (some (.tup [.str "plan", .tup (ps.map .int)])) fun x hx => hm x (List.mem_cons_of_mem _ hx)
    refine ⟨t2, t3, ?_⟩
    have g1 : gnm 2 (.int m) [some (csD cs), s1, s2, s3] A = some (.ok [some (csD cs), s1, some (.int m), s3] A) := rfl
    rw [List.map_cons]
    simp only [forL, wOk, List.all_nil, if_true, g1, b]
    exact r
theorem some_loop1 (k : Nat) (cs : Cs) (wm : Nat) (h : CallsOk cs) (h12 : wm ≤ 12) (hs : ∀ m : Nat, m < wm → ∃ f l : Int, (∀ A, callN Pg (k + 6) i_with_hands [csD cs, .int m] A = some (.ok (.tup [.str "short", .int f, .int l]) A)) ∧ f ≤ l ∧ (1 ≤ f ∧ l ≤ BG) ∧ (m : Int) * (l - f + 1) < cnt cs f l) (s1 : Option D) (A : Hh) :
    ∀ (ms : List Nat) (s2 s3 : Option D), (∀ m ∈ ms, m < wm) → ∃ s2' s3', forL [] (gnm 2) (lb__law_some_hands_1 ⟨callN Pg (k + 6)⟩) (ms.map fun m => D.int (m : Nat)) [some (csD cs), s1, s2, s3] A = some (.nx [some (csD cs), s1, s2', s3'] A)
  | [], s2, s3, _ => ⟨s2, s3, rfl⟩
  | m :: ms, s2, s3, hm => by
    have hm0 := hm m (List.mem_cons_self ..)
    obtain ⟨f, l, p1, p2, p3, p4⟩ := hs m hm0
    have e := e_is_short (k + 4) cs f l m A h.len p2 p3 (by omega) (by omega) p4
    have b : lb__law_some_hands_1 ⟨callN Pg (k + 6)⟩ [some (csD cs), s1, some (.int m), s3] A = some (.nx [some (csD cs), s1, some (.int m), some (.tup [.str "short", .int f, .int l])] A) := by
      unfold lb__law_some_hands_1
      simp [Z.sseq, Z.snil, Z.sret, Z.sexp, Z.sasg, Z.spar, Z.sif, Z.spass, Z.sbrk, Z.scnt, Z.sthen_nx, Z.sthen_rt, Z.sthen_bk, Z.sthen_ct, Z.of_ok, Z.andThen_ok, Z.mb, Z.ok, Z.mo, Z.zvar, Z.zc, Z.zbin, Z.zneg, Z.zcmp, Z.zchn, Z.copM, Z.zbl, Z.ztru, Z.zand, Z.zor, Z.znot, Z.zandv, Z.zorv, Z.zite, Z.znil, Z.zcons, Z.ztup, Z.zix, Z.zlen, Z.zisi, Z.isiB, Z.zcall, Z.endD, Z.gnm, Z.gtup, Z.gcons, Z.gnil, Z.gc_self, Z.zallq, Z.zanyq, Z.zsumq, Z.zminq, Z.zmaxq, Z.zlenq, Z.ztupq, Z.zrow, Z.zst, Z.zof, Z.zofL, Z.zlst, Z.lstM, Z.zcomp, Z.zrng, Z.rngM, Z.zcat, Z.zrep, Z.zzip, Z.zsort, Z.zsortR, Z.zsortset, Z.zslT, Z.zslL, Z.znone, Z.zsome, Z.znew, Z.zfz, Z.alloc, Z.wipeD, Z.sfor, Z.zm1, Z.zm0, Z.bmD, Z.zdvm, Z.zabs, Z.zmx2, Z.zmn2, Z.zint, Z.zcnt, Z.gsub, Z.setD, Z.ztt, Z.seq_tup, Z.seq_lst, Z.lst_lst, Z.ty_non, Z.ty_bl, Z.ty_int, Z.ty_str, Z.ty_tup, Z.ty_lst, Z.tru_non, Z.tru_bl, Z.tru_int, Z.tru_tup, Z.tru_lst, Z.len_tup, Z.len_lst, Z.ix_int, Z.at_0, Z.at_1, Z.at_2, Z.at_3, Z.at_4, Z.add_ii, Z.sub_ii, Z.mul_ii, Z.fdiv_ii, Z.mod_ii, Z.pow_ii, Z.add_tt, Z.lt_ii, Z.le_ii, Z.gt_ii, Z.ge_ii, Z.eq_ii, Z.ne_ii, Z.eq_dd, Z.ne_dd, Z.isN_d, Z.notN_d, Z.wt_tup, Z.D.deq, p1, e, eqD_ii, eq_str]
    obtain ⟨t2, t3, r⟩ := some_loop1 k cs wm h h12 hs s1 A ms (some (.int m)) (some (.tup [.str "short", .int f, .int l])) fun x hx => hm x (List.mem_cons_of_mem _ hx)
    refine ⟨t2, t3, ?_⟩
    have g1 : gnm 2 (.int m) [some (csD cs), s1, s2, s3] A = some (.ok [some (csD cs), s1, some (.int m), s3] A) := rfl
    rw [List.map_cons]
    simp only [forL, wOk, List.all_nil, if_true, g1, b]
    exact r
theorem e_some (k : Nat) (cs : Cs) (h : CallsOk cs) (wm : Nat) (hw : Hw cs wm) (A : Hh) : callN Pg (k + 7) i__law_some_hands [csD cs, .int wm] A = some (.ok (.bl true) A) := by
  obtain ⟨wm', fd, l12, hw', _, _, _, hs⟩ := e_core k cs h
  have e := hw.eq hw'
  subst e
  obtain ⟨a2, a3, l0⟩ := some_loop0 k cs wm h (fun m hm => (hs m).1 hm) (some (.int wm)) A [wm, wm + 1, wm + 7, 1000000000000000000000000000000] none none (by
    intro m hm
    simp only [List.mem_cons, List.not_mem_nil, or_false] at hm
    rcases hm with r | r | r | r <;> subst r <;> omega)
  obtain ⟨b2, b3, l1⟩ := some_loop1 k cs wm h l12 (fun m hm => (hs m).2 hm) (some (.int wm)) A (List.range wm) a2 a3 (fun m hm => List.mem_range.mp hm)
  have e0 : ([wm, wm + 1, wm + 7, 1000000000000000000000000000000].map fun m => D.int (m : Nat)) = [.int wm, .int ((wm : Int) + 1), .int ((wm : Int) + 7), .int 1000000000000000000000000000000] := by
    simp
  rw [e0] at l0
  have e1 : (List.range wm).map (fun m => D.int (m : Nat)) = rngI 0 wm := by
    unfold rngI
    have : ((wm : Int) - 0).toNat = wm := by omega
    rw [this]
    exact List.map_congr_left fun i _ => by simp
  rw [e1] at l1
  obtain ⟨W, hW⟩ : ∃ W : Int, W = (wm : Int) := ⟨_, rfl⟩
  have r1 : (-1152921504606846976 : Int) ≤ W := by omega
  have r2 : W ≤ 1152921504606846976 := by omega
  have p30 : ∀ A, bopD .pow (.int 10) (.int 30) A = some (.ok (.int 1000000000000000000000000000000) A) := fun A => by rw [pow_ii]; kernel_rfl
  rw [← hW] at l0 l1 ⊢
  rw [c__law_some_hands, mb__law_some_hands]
  simp [Z.sseq, Z.snil, Z.sret, Z.sexp, Z.sasg, Z.spar, Z.sif, Z.spass, Z.sbrk, Z.scnt, Z.sthen_nx, Z.sthen_rt, Z.sthen_bk, Z.sthen_ct, Z.of_ok, Z.andThen_ok, Z.mb, Z.ok, Z.mo, Z.zvar, Z.zc, Z.zbin, Z.zneg, Z.zcmp, Z.zchn, Z.copM, Z.zbl, Z.ztru, Z.zand, Z.zor, Z.znot, Z.zandv, Z.zorv, Z.zite, Z.znil, Z.zcons, Z.ztup, Z.zix, Z.zlen, Z.zisi, Z.isiB, Z.zcall, Z.endD, Z.gnm, Z.gtup, Z.gcons, Z.gnil, Z.gc_self, Z.zallq, Z.zanyq, Z.zsumq, Z.zminq, Z.zmaxq, Z.zlenq, Z.ztupq, Z.zrow, Z.zst, Z.zof, Z.zofL, Z.zlst, Z.lstM, Z.zcomp, Z.zrng, Z.rngM, Z.zcat, Z.zrep, Z.zzip, Z.zsort, Z.zsortR, Z.zsortset, Z.zslT, Z.zslL, Z.znone, Z.zsome, Z.znew, Z.zfz, Z.alloc, Z.wipeD, Z.sfor, Z.zm1, Z.zm0, Z.bmD, Z.zdvm, Z.zabs, Z.zmx2, Z.zmn2, Z.zint, Z.zcnt, Z.gsub, Z.setD, Z.ztt, Z.seq_tup, Z.seq_lst, Z.lst_lst, Z.ty_non, Z.ty_bl, Z.ty_int, Z.ty_str, Z.ty_tup, Z.ty_lst, Z.tru_non, Z.tru_bl, Z.tru_int, Z.tru_tup, Z.tru_lst, Z.len_tup, Z.len_lst, Z.ix_int, Z.at_0, Z.at_1, Z.at_2, Z.at_3, Z.at_4, Z.add_ii, Z.sub_ii, Z.mul_ii, Z.fdiv_ii, Z.mod_ii, Z.pow_ii, Z.add_tt, Z.lt_ii, Z.le_ii, Z.gt_ii, Z.ge_ii, Z.eq_ii, Z.ne_ii, Z.eq_dd, Z.ne_dd, Z.isN_d, Z.notN_d, Z.wt_tup, Z.D.deq, l0, l1, r1, r2, p30, SZ]
end Zp

set_option maxHeartbeats 2000000
namespace Zp
open PySem Z Zq
theorem sstep {s t : Sv} {σ σ' : Sl} {A A' : Hh} (h : s σ A = some (.nx σ' A')) : sseq s t σ A = t σ' A' := by
  unfold sseq
  rw [h, sthen_nx]
theorem sr_ok {σ : Sl} {H H' : Hh} {v : Nat} {rs ds : Cs} {c : Int × Int} {pe : Ev D} (hv : σ[v]? = some (some (csD rs))) (hp : pe σ H = some (.ok (cD c) H')) (hs : sortT (.tup ((rs ++ [c]).map cD)) = some (ds.map cD)) (hz : rs.length ≤ 12) :
    ztupq (zst (zsortT (zbin .add (zvar v) (ztup (zcons pe znil))))) σ H = some (.ok (csD ds) H') := by
  have z1 : (1 : Nat) ≤ SZ := by unfold SZ; omega
  have z2 : (rs.map cD).length + 1 ≤ SZ := by rw [List.length_map]; unfold SZ; omega
  have e : rs.map cD ++ [cD c] = (rs ++ [c]).map cD := by simp
  simp only [ztupq, zst, zsortT, zbin, mb, zvar, hv, ok, andThen_ok, ztup, zcons, znil, hp, List.length_cons, List.length_nil, Nat.zero_add, if_pos z1, csD, add_tt, if_pos z2, e, hs, mo]
theorem s2_ok {σ : Sl} {H : Hh} {v : Nat} {cs ds : Cs} (hv : σ[v]? = some (some (csD cs))) (hs : sortT (.tup ((cs ++ cs).map cD)) = some (ds.map cD)) (hz : cs.length ≤ 12) :
    ztupq (zst (zsortT (zbin .add (zvar v) (zvar v)))) σ H = some (.ok (csD ds) H) := by
  have z2 : (cs.map cD).length + (cs.map cD).length ≤ SZ := by rw [List.length_map]; unfold SZ; omega
  have e : cs.map cD ++ cs.map cD = (cs ++ cs).map cD := by simp
  simp only [ztupq, zst, zsortT, zbin, mb, zvar, hv, ok, andThen_ok, csD, add_tt, if_pos z2, e, hs, mo]
theorem tri_ok {σ : Sl} {H H' : Hh} {X a b : Ev D} {d : Cs} {i j : Int} (hx : X σ H = some (.ok (csD d) H')) (ha : a σ H' = some (.ok (.int i) H')) (hb : b σ H' = some (.ok (.int j) H')) : ztup (zcons X (zcons a (zcons b znil))) σ H = some (.ok (otD (d, i, j)) H') := by
  have z1 : (3 : Nat) ≤ SZ := by unfold SZ; omega
  simp only [ztup, zcons, znil, mb, hx, ha, hb, ok, andThen_ok, List.length_cons, List.length_nil, Nat.zero_add, Nat.reduceAdd, if_pos z1, otD]
theorem ap_ok {σ : Sl} {A : Hh} {n : Nat} {p p' : Int} {os : List (Cs × Int × Int)} {o : Cs × Int × Int} {e : Ev D} (h4 : σ[4]? = some (some (.ref A.length))) (hz : os.length < 10) (he : e σ (pl A n p [.lst (os.map otD)]) = some (.ok (otD o) (pl A n p' [.lst (os.map otD)]))) :
    sexp (zm1 .append (zvar 4) e) σ (pl A n p [.lst (os.map otD)]) = some (.nx σ (pl A n p' [.lst ((os ++ [o]).map otD)])) := by
  have l0 : lstD (pl A n p [.lst (os.map otD)]) (.ref A.length) = some (os.map otD) := lst_ref pl_last
  have z : (os.map otD).length < SZ := by rw [List.length_map]; unfold SZ; omega
  have ee : (os ++ [o]).map otD = os.map otD ++ [otD o] := by simp
  simp only [sexp, zm1, mb, zvar, h4, ok, andThen_ok, l0, Option.map_some, he, bmD, pl_last, if_pos z, of_ok, pl_put, ee]
theorem cut_drop (xs : List D) (m : Nat) : cutD xs (some (m : Int)) none = xs.drop m := by
  unfold cutD
  rw [HT.sIx_none, HT.sIx_nat]
  rcases Nat.le_total m xs.length with h | h
  · rw [Nat.min_eq_left h, List.take_of_length_le (by rw [List.length_drop]; exact Nat.le_refl _)]
  · rw [Nat.min_eq_right h, Nat.sub_self, List.take_zero, List.drop_of_length_le h]
def GoodC (cs : Cs) : Prop := ∀ c ∈ cs, 1 ≤ c.1 ∧ c.1 ≤ c.2 ∧ c.2 ≤ BG
/-- one more -/
theorem more_ok {rs : Cs} {c : Int × Int} (hz : rs.length ≤ 11) (hr : GoodC rs) (hc : 1 ≤ c.1 ∧ c.1 ≤ c.2 ∧ c.2 ≤ BG) : ∃ ds : Cs, sortT (.tup ((rs ++ [c]).map cD)) = some (ds.map cD) ∧ ds.Perm (rs ++ [c]) ∧ CallsOk ds := by
  have hb : ∀ x ∈ rs ++ [c], 1 ≤ x.1 ∧ x.1 ≤ x.2 ∧ x.2 ≤ BG := fun x hx => by
    rcases List.mem_append.mp hx with h | h
    · exact hr x h
    · rw [List.mem_singleton] at h; rw [h]; exact hc
  obtain ⟨ds, d1, d2, d3⟩ := sortT_cs (cs := rs ++ [c]) (by simp; omega) hb
  exact ⟨ds, d1, d2, ⟨by rw [d2.length_eq]; simp; omega, fun x hx => hb x (d2.mem_iff.mp hx), d3⟩⟩
theorem move_comp (k : Nat) (σ : Sl) (A : Hh) (cs : Cs) (m : Int) (s0 s1 s2 s3 s4 s6 s7 s8 s9 : Option D) (hz : cs.length ≤ 12) :
    compL [s0, s1, s2, s3, s4, some (.int m), s6, s7, none, none] [] (gtup 2 (gcons (gnm 8) (gcons (gnm 9) gnil))) ztt (ce__law_others_0 ⟨callN Pg k⟩) (cs.map cD) [] A = some (.ok ((cs.map (shC m)).map cD) A) := by
  rw [compL_map (fun x => match x with | .tup [a, b] => [s0, s1, s2, s3, s4, some (.int m), s6, s7, some a, some b] | _ => []) (fun _ => true) (fun x => match x with | .tup [.int a, .int b] => .tup [.int (a + m), .int (b + m)] | _ => .non) _ _ (fun x hx => ?_) (by simp [SZ]; omega), filter_true, List.map_map, List.map_map]
  · rfl
  · obtain ⟨c, _, rfl⟩ := List.mem_map.mp hx
    refine ⟨rfl, rfl, fun _ => ?_⟩
    unfold ce__law_others_0
    simp [Z.sseq, Z.snil, Z.sret, Z.sexp, Z.sasg, Z.spar, Z.sif, Z.spass, Z.sbrk, Z.scnt, Z.sthen_nx, Z.sthen_rt, Z.sthen_bk, Z.sthen_ct, Z.of_ok, Z.andThen_ok, Z.mb, Z.ok, Z.mo, Z.zvar, Z.zc, Z.zbin, Z.zneg, Z.zcmp, Z.zchn, Z.copM, Z.zbl, Z.ztru, Z.zand, Z.zor, Z.znot, Z.zandv, Z.zorv, Z.zite, Z.znil, Z.zcons, Z.ztup, Z.zix, Z.zlen, Z.zisi, Z.isiB, Z.zcall, Z.endD, Z.gnm, Z.gtup, Z.gcons, Z.gnil, Z.gc_self, Z.zallq, Z.zanyq, Z.zsumq, Z.zminq, Z.zmaxq, Z.zlenq, Z.ztupq, Z.zrow, Z.zst, Z.zof, Z.zofL, Z.zlst, Z.lstM, Z.zcomp, Z.zrng, Z.rngM, Z.zcat, Z.zrep, Z.zzip, Z.zsort, Z.zsortR, Z.zsortset, Z.zslT, Z.zslL, Z.znone, Z.zsome, Z.znew, Z.zfz, Z.alloc, Z.wipeD, Z.sfor, Z.zm1, Z.zm0, Z.bmD, Z.zdvm, Z.zabs, Z.zmx2, Z.zmn2, Z.zint, Z.zcnt, Z.gsub, Z.setD, Z.ztt, Z.seq_tup, Z.seq_lst, Z.lst_lst, Z.ty_non, Z.ty_bl, Z.ty_int, Z.ty_str, Z.ty_tup, Z.ty_lst, Z.tru_non, Z.tru_bl, Z.tru_int, Z.tru_tup, Z.tru_lst, Z.len_tup, Z.len_lst, Z.ix_int, Z.at_0, Z.at_1, Z.at_2, Z.at_3, Z.at_4, Z.add_ii, Z.sub_ii, Z.mul_ii, Z.fdiv_ii, Z.mod_ii, Z.pow_ii, Z.add_tt, Z.lt_ii, Z.le_ii, Z.gt_ii, Z.ge_ii, Z.eq_ii, Z.ne_ii, Z.eq_dd, Z.ne_dd, Z.isN_d, Z.notN_d, Z.wt_tup, Z.D.deq, cD, SZ]
theorem e_others (k n : Nat) (p : Int) (cs : Cs) (wm : Nat) (A : Hh) (h : Dr cs) (hw : Hw cs wm) (h12 : wm ≤ 12) (hA : A[n]? = some (.lst [.int p])) (h0 : 0 ≤ p) (hs : small p = true) (hex : ∀ ds, CallsOk ds → ∃ m, Hw ds m) :
    ∃ (os : List (Cs × Int × Int)) (p' : Int), callN Pg (k + 2) i__law_others [.ref n, csD cs, .int wm] A = some (.ok (.ref A.length) (pl A n p' [.lst (os.map otD)])) ∧ (∀ o ∈ os, OtOk o) := by
  have hn : n < A.length := (List.getElem?_eq_some_iff.mp hA).1
  have eA : A = pl A n p [] := by
    unfold pl
    rw [List.append_nil]
    have h := (List.getElem?_eq_some_iff.mp hA).2
    conv => rhs; rw [← h, List.set_getElem_self]
  have hcs : GoodC cs := h.ok.in_
  have hz := h.len
  obtain ⟨W, hW⟩ : ∃ W : Int, W = (wm : Int) := ⟨_, rfl⟩
  obtain ⟨a1, b1⟩ := small_div h0 (show (0 : Int) < 40 by omega) hs
  obtain ⟨p1, hp1⟩ : ∃ p1, p1 = p / 40 := ⟨_, rfl⟩
  rw [← hp1] at a1 b1
  obtain ⟨a2, b2⟩ := small_div a1 (show (0 : Int) < 4 by omega) b1
  obtain ⟨p2, hp2⟩ : ∃ p2, p2 = p1 / 4 := ⟨_, rfl⟩
  rw [← hp2] at a2 b2
  obtain ⟨a3, b3⟩ := small_div a2 (show (0 : Int) < 200 by omega) b2
  obtain ⟨p3, hp3⟩ : ∃ p3, p3 = p2 / 200 := ⟨_, rfl⟩
  rw [← hp3] at a3 b3
  obtain ⟨f, hf⟩ : ∃ f, f = 1 + p % 40 := ⟨_, rfl⟩
  obtain ⟨mv, hmv⟩ : ∃ mv, mv = p2 % 200 := ⟨_, rfl⟩
  have t1 := take_pl k (A := A) (n := n) (X := []) hn (show (0 : Int) < 40 by omega) hs
  have t2 := take_pl k (A := A) (n := n) (X := []) hn (show (0 : Int) < 4 by omega) b1
  have t3 := fun X => take_pl k (A := A) (n := n) (X := X) hn (show (0 : Int) < 200 by omega) b2
  rw [← hp1] at t1
  rw [← hp2] at t2
  -- one more
  obtain ⟨d1, e1, q1, k1⟩ := more_ok (rs := cs) (c := (f, f + p1 % 4)) hz hcs (by unfold BG; refine ⟨?_, ?_, ?_⟩ <;> dsimp only <;> omega)
  have o1 : OtOk (d1, W, W + 1) := ⟨k1, fun m hm => by have := add_hw q1 hw hm; dsimp only; omega⟩
  -- moved
  have o2 : OtOk (cs.map (shC mv), W, W) := ⟨⟨by rw [List.length_map]; omega, fun c hc => by
    obtain ⟨x, hx, rfl⟩ := List.mem_map.mp hc
    have u1 := hcs x hx
    have u2 := h.far x hx
    unfold DB at u2
    unfold shC BG
    refine ⟨?_, ?_, ?_⟩ <;> dsimp only <;> omega, by
      rw [List.pairwise_map]
      refine List.Pairwise.imp (fun {u v} h => ?_) h.ok.ord
      unfold leC at h ⊢
      rw [leL_iff] at h ⊢
      unfold shC
      dsimp only
      omega⟩, fun m hm => by have := sh_hw hw hm; dsimp only; omega⟩
  -- the beginning
  have s1 : sasg (gnm 3) (zbin .add (zc (.int 1)) (zcall ⟨callN Pg (k + 1)⟩ i__law_take (zcons (zvar 0) (zcons (zc (.int 40)) znil)))) [some (.ref n), some (csD cs), some (.int W), none, none, none, none, none, none, none] (pl A n p [])
      = some (.nx [some (.ref n), some (csD cs), some (.int W), some (.int f), none, none, none, none, none, none] (pl A n p1 [])) := by
    rw [hf]
    simp [Z.sseq, Z.snil, Z.sret, Z.sexp, Z.sasg, Z.spar, Z.sif, Z.spass, Z.sbrk, Z.scnt, Z.sthen_nx, Z.sthen_rt, Z.sthen_bk, Z.sthen_ct, Z.of_ok, Z.andThen_ok, Z.mb, Z.ok, Z.mo, Z.zvar, Z.zc, Z.zbin, Z.zneg, Z.zcmp, Z.zchn, Z.copM, Z.zbl, Z.ztru, Z.zand, Z.zor, Z.znot, Z.zandv, Z.zorv, Z.zite, Z.znil, Z.zcons, Z.ztup, Z.zix, Z.zlen, Z.zisi, Z.isiB, Z.zcall, Z.endD, Z.gnm, Z.gtup, Z.gcons, Z.gnil, Z.gc_self, Z.zallq, Z.zanyq, Z.zsumq, Z.zminq, Z.zmaxq, Z.zlenq, Z.ztupq, Z.zrow, Z.zst, Z.zof, Z.zofL, Z.zlst, Z.lstM, Z.zcomp, Z.zrng, Z.rngM, Z.zcat, Z.zrep, Z.zzip, Z.zsort, Z.zsortR, Z.zsortset, Z.zslT, Z.zslL, Z.znone, Z.zsome, Z.znew, Z.zfz, Z.alloc, Z.wipeD, Z.sfor, Z.zm1, Z.zm0, Z.bmD, Z.zdvm, Z.zabs, Z.zmx2, Z.zmn2, Z.zint, Z.zcnt, Z.gsub, Z.setD, Z.ztt, Z.seq_tup, Z.seq_lst, Z.lst_lst, Z.ty_non, Z.ty_bl, Z.ty_int, Z.ty_str, Z.ty_tup, Z.ty_lst, Z.tru_non, Z.tru_bl, Z.tru_int, Z.tru_tup, Z.tru_lst, Z.len_tup, Z.len_lst, Z.ix_int, Z.at_0, Z.at_1, Z.at_2, Z.at_3, Z.at_4, Z.add_ii, Z.sub_ii, Z.mul_ii, Z.fdiv_ii, Z.mod_ii, Z.pow_ii, Z.add_tt, Z.lt_ii, Z.le_ii, Z.gt_ii, Z.ge_ii, Z.eq_ii, Z.ne_ii, Z.eq_dd, Z.ne_dd, Z.isN_d, Z.notN_d, Z.wt_tup, Z.D.deq, t1]
  have al : (pl A n p2 []).length = A.length := by unfold pl; rw [List.append_nil, List.length_set]
  have ap : ∀ o, pl A n p2 [] ++ [o] = pl A n p2 [o] := fun o => by unfold pl; rw [List.append_nil]
  have E1 : ztup (zcons (ztupq (zst (zsortT (zbin .add (zvar 1) (ztup (zcons (ztup (zcons (zvar 3) (zcons (zbin .add (zvar 3) (zcall ⟨callN Pg (k + 1)⟩ i__law_take (zcons (zvar 0) (zcons (zc (.int 4)) znil)))) znil))) znil)))))) (zcons (zvar 2) (zcons (zbin .add (zvar 2) (zc (.int 1))) znil))) [some (.ref n), some (csD cs), some (.int W), some (.int f), none, none, none, none, none, none] (pl A n p1 [])
      = some (.ok (otD (d1, W, W + 1)) (pl A n p2 [])) := by
    refine tri_ok (sr_ok (rs := cs) (c := (f, f + p1 % 4)) rfl ?_ e1 (by omega)) rfl rfl
    simp [Z.sseq, Z.snil, Z.sret, Z.sexp, Z.sasg, Z.spar, Z.sif, Z.spass, Z.sbrk, Z.scnt, Z.sthen_nx, Z.sthen_rt, Z.sthen_bk, Z.sthen_ct, Z.of_ok, Z.andThen_ok, Z.mb, Z.ok, Z.mo, Z.zvar, Z.zc, Z.zbin, Z.zneg, Z.zcmp, Z.zchn, Z.copM, Z.zbl, Z.ztru, Z.zand, Z.zor, Z.znot, Z.zandv, Z.zorv, Z.zite, Z.znil, Z.zcons, Z.ztup, Z.zix, Z.zlen, Z.zisi, Z.isiB, Z.zcall, Z.endD, Z.gnm, Z.gtup, Z.gcons, Z.gnil, Z.gc_self, Z.zallq, Z.zanyq, Z.zsumq, Z.zminq, Z.zmaxq, Z.zlenq, Z.ztupq, Z.zrow, Z.zst, Z.zof, Z.zofL, Z.zlst, Z.lstM, Z.zcomp, Z.zrng, Z.rngM, Z.zcat, Z.zrep, Z.zzip, Z.zsort, Z.zsortR, Z.zsortset, Z.zslT, Z.zslL, Z.znone, Z.zsome, Z.znew, Z.zfz, Z.alloc, Z.wipeD, Z.sfor, Z.zm1, Z.zm0, Z.bmD, Z.zdvm, Z.zabs, Z.zmx2, Z.zmn2, Z.zint, Z.zcnt, Z.gsub, Z.setD, Z.ztt, Z.seq_tup, Z.seq_lst, Z.lst_lst, Z.ty_non, Z.ty_bl, Z.ty_int, Z.ty_str, Z.ty_tup, Z.ty_lst, Z.tru_non, Z.tru_bl, Z.tru_int, Z.tru_tup, Z.tru_lst, Z.len_tup, Z.len_lst, Z.ix_int, Z.at_0, Z.at_1, Z.at_2, Z.at_3, Z.at_4, Z.add_ii, Z.sub_ii, Z.mul_ii, Z.fdiv_ii, Z.mod_ii, Z.pow_ii, Z.add_tt, Z.lt_ii, Z.le_ii, Z.gt_ii, Z.ge_ii, Z.eq_ii, Z.ne_ii, Z.eq_dd, Z.ne_dd, Z.isN_d, Z.notN_d, Z.wt_tup, Z.D.deq, t2, cD, SZ]
  have s2 : sasg (gnm 4) (znew (zlst (zcons (ztup (zcons (ztupq (zst (zsortT (zbin .add (zvar 1) (ztup (zcons (ztup (zcons (zvar 3) (zcons (zbin .add (zvar 3) (zcall ⟨callN Pg (k + 1)⟩ i__law_take (zcons (zvar 0) (zcons (zc (.int 4)) znil)))) znil))) znil)))))) (zcons (zvar 2) (zcons (zbin .add (zvar 2) (zc (.int 1))) znil)))) znil))) [some (.ref n), some (csD cs), some (.int W), some (.int f), none, none, none, none, none, none] (pl A n p1 [])
      = some (.nx [some (.ref n), some (csD cs), some (.int W), some (.int f), some (.ref A.length), none, none, none, none, none] (pl A n p2 [.lst ([(d1, W, W + 1)].map otD)])) := by
    have z1 : (1 : Nat) ≤ SZ := by unfold SZ; omega
    have l1 : zlst (zcons (ztup (zcons (ztupq (zst (zsortT (zbin .add (zvar 1) (ztup (zcons (ztup (zcons (zvar 3) (zcons (zbin .add (zvar 3) (zcall ⟨callN Pg (k + 1)⟩ i__law_take (zcons (zvar 0) (zcons (zc (.int 4)) znil)))) znil))) znil)))))) (zcons (zvar 2) (zcons (zbin .add (zvar 2) (zc (.int 1))) znil)))) znil) [some (.ref n), some (csD cs), some (.int W), some (.int f), none, none, none, none, none, none] (pl A n p1 [])
        = some (.ok [otD (d1, W, W + 1)] (pl A n p2 [])) := by
      unfold zlst
      rw [show ∀ (e : Ev D), zcons e znil = fun σ => mb (e σ) fun x => mb (znil σ) fun xs => ok (x :: xs) from fun _ => rfl]
      simp only [mb, E1, znil, ok, andThen_ok, lstM, List.length_cons, List.length_nil, Nat.zero_add, if_pos z1]
    unfold sasg znew
    simp only [mb, l1, andThen_ok, Z.alloc, of_ok, al, ap, gnm]
    rfl
  have s3 : sasg (gnm 5) (zcall ⟨callN Pg (k + 1)⟩ i__law_take (zcons (zvar 0) (zcons (zc (.int 200)) znil))) [some (.ref n), some (csD cs), some (.int W), some (.int f), some (.ref A.length), none, none, none, none, none] (pl A n p2 [.lst ([(d1, W, W + 1)].map otD)])
      = some (.nx [some (.ref n), some (csD cs), some (.int W), some (.int f), some (.ref A.length), some (.int mv), none, none, none, none] (pl A n p3 [.lst ([(d1, W, W + 1)].map otD)])) := by
    have := t3 [.lst ([(d1, W, W + 1)].map otD)]
    rw [← hp3, ← hmv] at this
    simp only [sasg, zcall, zcons, znil, zvar, zc, mb, ok, andThen_ok, List.getElem?_cons_zero, this, of_ok, gnm]
    rfl
  obtain ⟨σ5, hσ5⟩ : ∃ σ5 : Sl, σ5 = [some (.ref n), some (csD cs), some (.int W), some (.int f), some (.ref A.length), some (.int mv), none, none, none, none] := ⟨_, rfl⟩
  have s4 := ap_ok (σ := σ5) (A := A) (n := n) (p := p3) (p' := p3) (os := [(d1, W, W + 1)]) (o := (cs.map (shC mv), W, W)) (e := ztup (zcons (ztupq (zst (zcomp [8, 9] (gtup 2 (gcons (gnm 8) (gcons (gnm 9) gnil))) (zof (zvar 1)) ztt (ce__law_others_0 ⟨callN Pg (k + 1)⟩)))) (zcons (zvar 2) (zcons (zvar 2) znil)))) (by rw [hσ5]; rfl) (by simp) (by
    rw [hσ5]
    refine tri_ok ?_ rfl rfl
    have c := move_comp (k + 1) [] (pl A n p3 [.lst ([(d1, W, W + 1)].map otD)]) cs mv (some (.ref n)) (some (csD cs)) (some (.int W)) (some (.int f)) (some (.ref A.length)) none none none none (by omega)
    simp only [ztupq, zst, zcomp, zof, zvar, mb, ok, andThen_ok, List.getElem?_cons_zero, List.getElem?_cons_succ, seq_cs, Option.map_some, wipeD, List.set_cons_zero, List.set_cons_succ, c]
    rfl)
  -- told twice
  have s5 : ∃ os : List (Cs × Int × Int), (∀ o ∈ os, OtOk o) ∧ os.length ≤ 3 ∧ ∀ b : Sv, sseq (sif (zcmp .lt (zlen (zvar 1)) (zc (.int 7))) (sseq (sexp (zm1 .append (zvar 4) (ztup (zcons (ztupq (zst (zsortT (zbin .add (zvar 1) (zvar 1))))) (zcons (zvar 2) (zcons (zbin .mul (zc (.int 2)) (zvar 2)) znil)))))) snil) snil) b σ5 (pl A n p3 [.lst (([(d1, W, W + 1)] ++ [(cs.map (shC mv), W, W)]).map otD)])
      = b σ5 (pl A n p3 [.lst (os.map otD)]) := by
    by_cases h7 : cs.length < 7
    · obtain ⟨d3, e3, q3, r3⟩ := sortT_cs (cs := cs ++ cs) (by rw [List.length_append]; omega) (fun c hc => hcs c (by rcases List.mem_append.mp hc with h | h <;> exact h))
      have k3 : CallsOk d3 := ⟨by rw [q3.length_eq, List.length_append]; omega, fun c hc => hcs c (by rcases List.mem_append.mp (q3.mem_iff.mp hc) with h | h <;> exact h), r3⟩
      refine ⟨[(d1, W, W + 1), (cs.map (shC mv), W, W), (d3, W, 2 * W)], fun o ho => ?_, Nat.le_refl _, fun b => ?_⟩
      · simp only [List.mem_cons, List.not_mem_nil, or_false] at ho
        rcases ho with r | r | r <;> subst r
        · exact o1
        · exact o2
        · exact ⟨k3, fun m hm => by have := twice_hw q3 hw hm; dsimp only; omega⟩
      · have g1 : small 2 = true := by rw [small_def]; decide +kernel
        have g2 : small W = true := sm (by omega) (Int.le_trans (show W ≤ 12 by omega) (by decide +kernel))
        have s := ap_ok (σ := σ5) (A := A) (n := n) (p := p3) (p' := p3) (os := [(d1, W, W + 1)] ++ [(cs.map (shC mv), W, W)]) (o := (d3, W, 2 * W)) (e := ztup (zcons (ztupq (zst (zsortT (zbin .add (zvar 1) (zvar 1))))) (zcons (zvar 2) (zcons (zbin .mul (zc (.int 2)) (zvar 2)) znil)))) (by rw [hσ5]; rfl) (by simp) (by
          rw [hσ5]
          refine tri_ok (s2_ok rfl e3 (by omega)) rfl ?_
          simp only [zbin, zc, zvar, mb, ok, andThen_ok, List.getElem?_cons_zero, List.getElem?_cons_succ, mul_sm g1 g2])
        have cnd : zcmp .lt (zlen (zvar 1)) (zc (.int 7)) σ5 (pl A n p3 [.lst (([(d1, W, W + 1)] ++ [(cs.map (shC mv), W, W)]).map otD)]) = some (.ok true (pl A n p3 [.lst (([(d1, W, W + 1)] ++ [(cs.map (shC mv), W, W)]).map otD)])) := by
          rw [hσ5]
          have h7' : (cs.length : Int) < 7 := by omega
          simp only [zcmp, zlen, zvar, zc, mb, ok, andThen_ok, List.getElem?_cons_zero, List.getElem?_cons_succ, len_cs, Option.map_some, copM, lt_ii, decide_eq_true h7']
        refine sstep ?_
        unfold sif
        rw [cnd, of_ok, if_pos rfl, sstep s]
        rfl
    · refine ⟨[(d1, W, W + 1), (cs.map (shC mv), W, W)], fun o ho => ?_, by simp, fun b => ?_⟩
      · simp only [List.mem_cons, List.not_mem_nil, or_false] at ho
        rcases ho with r | r <;> subst r
        · exact o1
        · exact o2
      · have cnd : zcmp .lt (zlen (zvar 1)) (zc (.int 7)) σ5 (pl A n p3 [.lst (([(d1, W, W + 1)] ++ [(cs.map (shC mv), W, W)]).map otD)]) = some (.ok false (pl A n p3 [.lst (([(d1, W, W + 1)] ++ [(cs.map (shC mv), W, W)]).map otD)])) := by
          rw [hσ5]
          have h7' : ¬ (cs.length : Int) < 7 := by omega
          simp only [zcmp, zlen, zvar, zc, mb, ok, andThen_ok, List.getElem?_cons_zero, List.getElem?_cons_succ, len_cs, Option.map_some, copM, lt_ii, decide_eq_false h7']
        refine sstep ?_
        unfold sif
        rw [cnd, of_ok]
        rfl
  obtain ⟨os, ho, hol, s5⟩ := s5
  have fin : ∀ (σ : Sl) (q : Int) (os : List (Cs × Int × Int)), σ[4]? = some (some (.ref A.length)) → endD (pl A n p []) (sseq (sret (zvar 4)) snil σ (pl A n q [.lst (os.map otD)])) = some (.ok (.ref A.length) (pl A n q [.lst (os.map otD)])) := fun σ q os e => by
    have hg : gc (pl A n p []) (pl A n q [.lst (os.map otD)]) (.ref A.length) = pl A n q [.lst (os.map otD)] := gc_keep (by rw [← eA]; simp [D.lo])
    simp only [sseq, sret, zvar, e, ok, of_ok, sthen_rt, endD, hg]
  have ne0 : ∀ X, eqD X (csD cs) (.tup []) = some cs.isEmpty := fun X => by
    unfold csD
    have := eqD_nob (A := X) (x := .tup (cs.map cD)) (y := .tup []) (by
      have : ∀ l : Cs, D.nobs (l.map cD) = true := fun l => by
        induction l with
        | nil => rfl
        | cons c l ih => show (D.nob (cD c) && D.nobs (l.map cD)) = true; rw [ih]; rfl
      exact this cs) rfl (by
      have : ∀ l : Cs, D.deps (l.map cD) ≤ 1 := fun l => by
        induction l with
        | nil => exact Nat.zero_le _
        | cons c l ih => show max 1 (D.deps (l.map cD)) ≤ 1; omega
      have := this cs
      show D.deps (cs.map cD) + 1 ≤ 64
      omega) (by decide)
    rw [this]
    cases cs <;> simp
  by_cases he : cs = []
  · refine ⟨os, p3, ?_, ho⟩
    rw [c__law_others, mb__law_others, ← hW]
    conv => lhs; rw [eA]
    rw [sstep s1, sstep s2, sstep s3, ← hσ5, sstep s4, s5]
    have cnd : zcmp .ne (zvar 1) (ztup znil) σ5 (pl A n p3 [.lst (os.map otD)]) = some (.ok false (pl A n p3 [.lst (os.map otD)])) := by
      rw [hσ5]
      simp [Z.sseq, Z.snil, Z.sret, Z.sexp, Z.sasg, Z.spar, Z.sif, Z.spass, Z.sbrk, Z.scnt, Z.sthen_nx, Z.sthen_rt, Z.sthen_bk, Z.sthen_ct, Z.of_ok, Z.andThen_ok, Z.mb, Z.ok, Z.mo, Z.zvar, Z.zc, Z.zbin, Z.zneg, Z.zcmp, Z.zchn, Z.copM, Z.zbl, Z.ztru, Z.zand, Z.zor, Z.znot, Z.zandv, Z.zorv, Z.zite, Z.znil, Z.zcons, Z.ztup, Z.zix, Z.zlen, Z.zisi, Z.isiB, Z.zcall, Z.endD, Z.gnm, Z.gtup, Z.gcons, Z.gnil, Z.gc_self, Z.zallq, Z.zanyq, Z.zsumq, Z.zminq, Z.zmaxq, Z.zlenq, Z.ztupq, Z.zrow, Z.zst, Z.zof, Z.zofL, Z.zlst, Z.lstM, Z.zcomp, Z.zrng, Z.rngM, Z.zcat, Z.zrep, Z.zzip, Z.zsort, Z.zsortR, Z.zsortset, Z.zslT, Z.zslL, Z.znone, Z.zsome, Z.znew, Z.zfz, Z.alloc, Z.wipeD, Z.sfor, Z.zm1, Z.zm0, Z.bmD, Z.zdvm, Z.zabs, Z.zmx2, Z.zmn2, Z.zint, Z.zcnt, Z.gsub, Z.setD, Z.ztt, Z.seq_tup, Z.seq_lst, Z.lst_lst, Z.ty_non, Z.ty_bl, Z.ty_int, Z.ty_str, Z.ty_tup, Z.ty_lst, Z.tru_non, Z.tru_bl, Z.tru_int, Z.tru_tup, Z.tru_lst, Z.len_tup, Z.len_lst, Z.ix_int, Z.at_0, Z.at_1, Z.at_2, Z.at_3, Z.at_4, Z.add_ii, Z.sub_ii, Z.mul_ii, Z.fdiv_ii, Z.mod_ii, Z.pow_ii, Z.add_tt, Z.lt_ii, Z.le_ii, Z.gt_ii, Z.ge_ii, Z.eq_ii, Z.ne_ii, Z.eq_dd, Z.ne_dd, Z.isN_d, Z.notN_d, Z.wt_tup, Z.D.deq, ne0]
      simp [he]
    rw [sstep (σ' := σ5) (A' := pl A n p3 [.lst (os.map otD)]) (by unfold sif; rw [cnd, of_ok]; rfl)]
    exact fin σ5 p3 os (by rw [hσ5]; rfl)
  · have hl0 : 0 < cs.length := List.length_pos_iff.mpr he
    have hl1 : (0 : Int) < cs.length := by omega
    obtain ⟨a4, b4⟩ := small_div a3 hl1 b3
    obtain ⟨p4, hp4⟩ : ∃ p4, p4 = p3 / (cs.length : Int) := ⟨_, rfl⟩
    rw [← hp4] at a4 b4
    obtain ⟨a5, b5⟩ := small_div a4 (show (0 : Int) < 9 by omega) b4
    obtain ⟨p5, hp5⟩ : ∃ p5, p5 = p4 / 9 := ⟨_, rfl⟩
    rw [← hp5] at a5 b5
    obtain ⟨a6, b6⟩ := small_div a5 (show (0 : Int) < 4 by omega) b5
    obtain ⟨p6, hp6⟩ : ∃ p6, p6 = p5 / 4 := ⟨_, rfl⟩
    have t4 := fun X => take_pl k (A := A) (n := n) (X := X) hn hl1 b3
    have t5 := fun X => take_pl k (A := A) (n := n) (X := X) hn (show (0 : Int) < 9 by omega) b4
    have t6 := fun X => take_pl k (A := A) (n := n) (X := X) hn (show (0 : Int) < 4 by omega) b5
    rw [← hp4] at t4
    rw [← hp5] at t5
    rw [← hp6] at t6
    obtain ⟨i, hi⟩ : ∃ i : Nat, p3 % (cs.length : Int) = i := ⟨(p3 % (cs.length : Int)).toNat, by have := Int.emod_nonneg p3 (show (cs.length : Int) ≠ 0 by omega); omega⟩
    have hi2 : i < cs.length := by have := Int.emod_lt_of_pos p3 hl1; omega
    rw [hi] at t4
    obtain ⟨x, y, hxy⟩ : ∃ x y, cs[i]? = some (x, y) := ⟨cs[i].1, cs[i].2, by rw [List.getElem?_eq_getElem hi2]⟩
    have hm : (x, y) ∈ cs := List.mem_of_getElem? hxy
    have hb := hcs _ hm
    have hfar := h.far _ hm
    unfold DB at hfar
    dsimp only at hb hfar
    obtain ⟨rs, hrs⟩ : ∃ rs, rs = cs.take i ++ cs.drop (i + 1) := ⟨_, rfl⟩
    have pm : cs.Perm (rs ++ [(x, y)]) := by rw [hrs]; exact rest_perm hxy
    have hrl : rs.length ≤ 10 := by
      have := pm.length_eq
      rw [List.length_append, List.length_singleton] at this
      omega
    have hrg : GoodC rs := fun c hc => hcs c (pm.mem_iff.mpr (List.mem_append_left _ hc))
    have hrs2 : rs.Sublist cs := by
      rw [hrs]
      conv => rhs; rw [← List.take_append_drop i cs]
      exact List.Sublist.append_left (by rw [List.drop_eq_getElem_cons hi2]; exact List.sublist_cons_self ..) _
    have kr : CallsOk rs := ⟨by omega, hrg, h.ok.ord.sublist hrs2⟩
    obtain ⟨r, hr⟩ := hex rs kr
    have hrw := add_hw pm hr hw
    obtain ⟨d5, e5, q5, k5⟩ := more_ok (rs := rs) (c := (x, y + p4 % 9)) (by omega) hrg (by unfold BG; refine ⟨?_, ?_, ?_⟩ <;> dsimp only <;> omega)
    obtain ⟨d6, e6, q6, k6⟩ := more_ok (rs := rs) (c := (x, max x (y - p5 % 4))) (by omega) hrg (by unfold BG; unfold BG at hb; refine ⟨?_, ?_, ?_⟩ <;> dsimp only <;> omega)
    have o4 : OtOk (rs, W - 1, W) := ⟨kr, fun m hm => by have e := hm.eq hr; subst e; dsimp only; omega⟩
    have o5 : OtOk (d5, W - 1, W) := ⟨k5, fun m hm => by have := later_hw pm q5 (by omega) hr hw hm; dsimp only; omega⟩
    have o6 : OtOk (d6, W, W + 1) := ⟨k6, fun m hm => by have := later_hw q6 pm (by omega) hr hm hw; dsimp only; omega⟩
    refine ⟨os ++ [(rs, W - 1, W)] ++ [(d5, W - 1, W)] ++ [(d6, W, W + 1)], p6, ?_, fun o h => ?_⟩
    · rw [c__law_others, mb__law_others, ← hW]
      conv => lhs; rw [eA]
      rw [sstep s1, sstep s2, sstep s3, ← hσ5, sstep s4, s5]
      have cnd : zcmp .ne (zvar 1) (ztup znil) σ5 (pl A n p3 [.lst (os.map otD)]) = some (.ok true (pl A n p3 [.lst (os.map otD)])) := by
        rw [hσ5]
        simp [Z.sseq, Z.snil, Z.sret, Z.sexp, Z.sasg, Z.spar, Z.sif, Z.spass, Z.sbrk, Z.scnt, Z.sthen_nx, Z.sthen_rt, Z.sthen_bk, Z.sthen_ct, Z.of_ok, Z.andThen_ok, Z.mb, Z.ok, Z.mo, Z.zvar, Z.zc, Z.zbin, Z.zneg, Z.zcmp, Z.zchn, Z.copM, Z.zbl, Z.ztru, Z.zand, Z.zor, Z.znot, Z.zandv, Z.zorv, Z.zite, Z.znil, Z.zcons, Z.ztup, Z.zix, Z.zlen, Z.zisi, Z.isiB, Z.zcall, Z.endD, Z.gnm, Z.gtup, Z.gcons, Z.gnil, Z.gc_self, Z.zallq, Z.zanyq, Z.zsumq, Z.zminq, Z.zmaxq, Z.zlenq, Z.ztupq, Z.zrow, Z.zst, Z.zof, Z.zofL, Z.zlst, Z.lstM, Z.zcomp, Z.zrng, Z.rngM, Z.zcat, Z.zrep, Z.zzip, Z.zsort, Z.zsortR, Z.zsortset, Z.zslT, Z.zslL, Z.znone, Z.zsome, Z.znew, Z.zfz, Z.alloc, Z.wipeD, Z.sfor, Z.zm1, Z.zm0, Z.bmD, Z.zdvm, Z.zabs, Z.zmx2, Z.zmn2, Z.zint, Z.zcnt, Z.gsub, Z.setD, Z.ztt, Z.seq_tup, Z.seq_lst, Z.lst_lst, Z.ty_non, Z.ty_bl, Z.ty_int, Z.ty_str, Z.ty_tup, Z.ty_lst, Z.tru_non, Z.tru_bl, Z.tru_int, Z.tru_tup, Z.tru_lst, Z.len_tup, Z.len_lst, Z.ix_int, Z.at_0, Z.at_1, Z.at_2, Z.at_3, Z.at_4, Z.add_ii, Z.sub_ii, Z.mul_ii, Z.fdiv_ii, Z.mod_ii, Z.pow_ii, Z.add_tt, Z.lt_ii, Z.le_ii, Z.gt_ii, Z.ge_ii, Z.eq_ii, Z.ne_ii, Z.eq_dd, Z.ne_dd, Z.isN_d, Z.notN_d, Z.wt_tup, Z.D.deq, ne0]
        simp [he]
      obtain ⟨σ6, hσ6⟩ : ∃ σ6 : Sl, σ6 = [some (.ref n), some (csD cs), some (.int W), some (.int f), some (.ref A.length), some (.int mv), some (.int i), some (csD rs), some (.int x), some (.int y)] := ⟨_, rfl⟩
      have u1 : sasg (gnm 6) (zcall ⟨callN Pg (k + 1)⟩ i__law_take (zcons (zvar 0) (zcons (zlen (zvar 1)) znil))) σ5 (pl A n p3 [.lst (os.map otD)]) = some (.nx [some (.ref n), some (csD cs), some (.int W), some (.int f), some (.ref A.length), some (.int mv), some (.int i), none, none, none] (pl A n p4 [.lst (os.map otD)])) := by
        rw [hσ5]
        simp only [sasg, zcall, zcons, znil, zvar, zlen, mb, ok, andThen_ok, List.getElem?_cons_zero, List.getElem?_cons_succ, len_cs, Option.map_some, t4, of_ok, gnm]
        rfl
      have ct : ∀ X, zslT (zvar 1) znone (zsome (zvar 6)) [some (.ref n), some (csD cs), some (.int W), some (.int f), some (.ref A.length), some (.int mv), some (.int i), none, none, none] X = some (.ok (csD (cs.take i)) X) := fun X => by
        have := cut_take (cs.map cD) i
        unfold csD
        simp only [zslT, znone, zsome, zvar, mb, ok, andThen_ok, List.getElem?_cons_zero, List.getElem?_cons_succ, this, List.map_take]
      have cd : ∀ X, zslT (zvar 1) (zsome (zbin .add (zvar 6) (zc (.int 1)))) znone [some (.ref n), some (csD cs), some (.int W), some (.int f), some (.ref A.length), some (.int mv), some (.int i), none, none, none] X = some (.ok (csD (cs.drop (i + 1))) X) := fun X => by
        have := cut_drop (cs.map cD) (i + 1)
        have e3 : ((i + 1 : Nat) : Int) = (i : Int) + 1 := rfl
        rw [e3] at this
        unfold csD
        simp only [zslT, znone, zsome, zbin, zc, zvar, mb, ok, andThen_ok, add_ii, List.getElem?_cons_zero, List.getElem?_cons_succ, this, List.map_drop]
      have cx : ∀ X, zix (zvar 1) (zvar 6) [some (.ref n), some (csD cs), some (.int W), some (.int f), some (.ref A.length), some (.int mv), some (.int i), none, none, none] X = some (.ok (cD (x, y)) X) := fun X => by
        simp only [zix, zvar, mb, ok, andThen_ok, List.getElem?_cons_zero, List.getElem?_cons_succ, ix_int, seq_cs, Option.bind_some, at_nat, List.getElem?_map, hxy, Option.map_some]
      have u2 : sasg (gtup 2 (gcons (gnm 7) (gcons (gtup 2 (gcons (gnm 8) (gcons (gnm 9) gnil))) gnil))) (ztup (zcons (zbin .add (zslT (zvar 1) znone (zsome (zvar 6))) (zslT (zvar 1) (zsome (zbin .add (zvar 6) (zc (.int 1)))) znone)) (zcons (zix (zvar 1) (zvar 6)) znil))) [some (.ref n), some (csD cs), some (.int W), some (.int f), some (.ref A.length), some (.int mv), some (.int i), none, none, none] (pl A n p4 [.lst (os.map otD)])
          = some (.nx σ6 (pl A n p4 [.lst (os.map otD)])) := by
        have z1 : (2 : Nat) ≤ SZ := by unfold SZ; omega
        have z2 : ((cs.take i).map cD).length + ((cs.drop (i + 1)).map cD).length ≤ SZ := by rw [List.length_map, List.length_map, List.length_take, List.length_drop]; unfold SZ; omega
        have e : (cs.take i).map cD ++ (cs.drop (i + 1)).map cD = rs.map cD := by rw [hrs, List.map_append]
        have ad : ∀ X, bopD .add (csD (cs.take i)) (csD (cs.drop (i + 1))) X = some (.ok (csD rs) X) := fun X => by
          unfold csD
          rw [add_tt, if_pos z2, e]
        rw [hσ6]
        simp only [sasg, ztup, zcons, znil, mb, zbin, ct, cd, cx, ok, andThen_ok, ad, List.length_cons, List.length_nil, Nat.zero_add, Nat.reduceAdd, if_pos z1, of_ok]
        rfl
      have u3 := ap_ok (σ := σ6) (A := A) (n := n) (p := p4) (p' := p4) (os := os) (o := (rs, W - 1, W)) (e := ztup (zcons (zvar 7) (zcons (zbin .sub (zvar 2) (zc (.int 1))) (zcons (zvar 2) znil)))) (by rw [hσ6]; rfl) (by omega) (by
        rw [hσ6]
        exact tri_ok rfl rfl rfl)
      have u4 := ap_ok (σ := σ6) (A := A) (n := n) (p := p4) (p' := p5) (os := os ++ [(rs, W - 1, W)]) (o := (d5, W - 1, W)) (e := ztup (zcons (ztupq (zst (zsortT (zbin .add (zvar 7) (ztup (zcons (ztup (zcons (zvar 8) (zcons (zbin .add (zvar 9) (zcall ⟨callN Pg (k + 1)⟩ i__law_take (zcons (zvar 0) (zcons (zc (.int 9)) znil)))) znil))) znil)))))) (zcons (zbin .sub (zvar 2) (zc (.int 1))) (zcons (zvar 2) znil)))) (by rw [hσ6]; rfl) (by rw [List.length_append, List.length_singleton]; omega) (by
        rw [hσ6]
        refine tri_ok (sr_ok (rs := rs) (c := (x, y + p4 % 9)) rfl ?_ e5 (by omega)) rfl rfl
        have z1 : (2 : Nat) ≤ SZ := by unfold SZ; omega
        simp only [ztup, zcons, znil, zbin, zcall, zvar, zc, mb, ok, andThen_ok, List.getElem?_cons_zero, List.getElem?_cons_succ, t5, add_ii, List.length_cons, List.length_nil, Nat.zero_add, Nat.reduceAdd, if_pos z1, cD])
      have u5 := ap_ok (σ := σ6) (A := A) (n := n) (p := p5) (p' := p6) (os := os ++ [(rs, W - 1, W)] ++ [(d5, W - 1, W)]) (o := (d6, W, W + 1)) (e := ztup (zcons (ztupq (zst (zsortT (zbin .add (zvar 7) (ztup (zcons (ztup (zcons (zvar 8) (zcons (zmx2 (zvar 8) (zbin .sub (zvar 9) (zcall ⟨callN Pg (k + 1)⟩ i__law_take (zcons (zvar 0) (zcons (zc (.int 4)) znil))))) znil))) znil)))))) (zcons (zvar 2) (zcons (zbin .add (zvar 2) (zc (.int 1))) znil)))) (by rw [hσ6]; rfl) (by rw [List.length_append, List.length_append, List.length_singleton, List.length_singleton]; omega) (by
        rw [hσ6]
        refine tri_ok (sr_ok (rs := rs) (c := (x, max x (y - p5 % 4))) rfl ?_ e6 (by omega)) rfl rfl
        have z1 : (2 : Nat) ≤ SZ := by unfold SZ; omega
        simp only [ztup, zcons, znil, zbin, zmx2, zcall, zvar, zc, mb, ok, andThen_ok, List.getElem?_cons_zero, List.getElem?_cons_succ, t6, sub_ii, List.length_cons, List.length_nil, Nat.zero_add, Nat.reduceAdd, if_pos z1, cD])
      rw [sstep (σ' := σ6) (A' := pl A n p6 [.lst ((os ++ [(rs, W - 1, W)] ++ [(d5, W - 1, W)] ++ [(d6, W, W + 1)]).map otD)]) (by
        unfold sif
        rw [cnd, of_ok, if_pos rfl, sstep u1, sstep u2, sstep u3, sstep u4, sstep u5]
        rfl)]
      exact fin σ6 p6 _ (by rw [hσ6]; rfl)
    · rcases List.mem_append.mp h with h | h
      · rcases List.mem_append.mp h with h | h
        · rcases List.mem_append.mp h with h | h
          · exact ho o h
          · rw [List.mem_singleton] at h; subst h; exact o4
        · rw [List.mem_singleton] at h; subst h; exact o5
      · rw [List.mem_singleton] at h; subst h; exact o6
end Zp

set_option maxHeartbeats 2000000
namespace Zp
open PySem Z Zq
theorem put_last (A : Hh) (o o' : O) : (A ++ [o]).set A.length o' = A ++ [o'] := by
  rw [List.set_append_right _ _ (Nat.le_refl _), Nat.sub_self]
  rfl
theorem at_last (A : Hh) (o : O) : (A ++ [o])[A.length]? = some o := by
  rw [List.getElem?_append_right (Nat.le_refl _), Nat.sub_self]
  rfl
theorem wOk_at {A : Hh} {m : Nat} {xs : List D} (h : A[m]? = some (.lst xs)) : wOk [(m, xs)] A = true := by
  unfold wOk
  simp only [List.all_cons, List.all_nil, Bool.and_true, h]
  exact (D.deqs_iff _ _).mpr rfl
theorem deq_int_non (i : Int) : D.deq (.int i) .non = false := rfl
theorem o_loop (k : Nat) (X : Hh) (m : Nat) (xs0 : List D) (hX : X[m]? = some (.lst xs0)) (s0 s1 s2 s3 s4 : Option D) : ∀ (os : List (Cs × Int × Int)) (s5 s6 s7 s8 : Option D), (∀ o ∈ os, OtOk o) →
    ∃ s5' s6' s7' s8', forL [(m, xs0)] (gtup 3 (gcons (gnm 5) (gcons (gnm 6) (gcons (gnm 7) gnil)))) (lb_law_0 ⟨callN Pg (k + 16)⟩) (os.map otD) [s0, s1, s2, s3, s4, s5, s6, s7, s8] X = some (.nx [s0, s1, s2, s3, s4, s5', s6', s7', s8'] X)
  | [], s5, s6, s7, s8, _ => ⟨s5, s6, s7, s8, by simp only [List.map_nil, forL, wOk_at hX, if_true]⟩
  | o :: os, s5, s6, s7, s8, ho => by
    have h0 := ho o (List.mem_cons_self ..)
    obtain ⟨wm, e1, e2, _⟩ := e_how k o.1 h0.ok
    have bd := h0.bd wm e2
    have g1 : gtup 3 (gcons (gnm 5) (gcons (gnm 6) (gcons (gnm 7) gnil))) (otD o) [s0, s1, s2, s3, s4, s5, s6, s7, s8] X = some (.ok [s0, s1, s2, s3, s4, some (csD o.1), some (.int o.2.1), some (.int o.2.2), s8] X) := rfl
    have b : lb_law_0 ⟨callN Pg (k + 16)⟩ [s0, s1, s2, s3, s4, some (csD o.1), some (.int o.2.1), some (.int o.2.2), s8] X = some (.nx [s0, s1, s2, s3, s4, some (csD o.1), some (.int o.2.1), some (.int o.2.2), some (.int wm)] X) := by
      unfold lb_law_0
      simp [Z.sseq, Z.snil, Z.sret, Z.sexp, Z.sasg, Z.spar, Z.sif, Z.spass, Z.sbrk, Z.scnt, Z.sthen_nx, Z.sthen_rt, Z.sthen_bk, Z.sthen_ct, Z.of_ok, Z.andThen_ok, Z.mb, Z.ok, Z.mo, Z.zvar, Z.zc, Z.zbin, Z.zneg, Z.zcmp, Z.zchn, Z.copM, Z.zbl, Z.ztru, Z.zand, Z.zor, Z.znot, Z.zandv, Z.zorv, Z.zite, Z.znil, Z.zcons, Z.ztup, Z.zix, Z.zlen, Z.zisi, Z.isiB, Z.zcall, Z.endD, Z.gnm, Z.gtup, Z.gcons, Z.gnil, Z.gc_self, Z.zallq, Z.zanyq, Z.zsumq, Z.zminq, Z.zmaxq, Z.zlenq, Z.ztupq, Z.zrow, Z.zst, Z.zof, Z.zofL, Z.zlst, Z.lstM, Z.zcomp, Z.zrng, Z.rngM, Z.zcat, Z.zrep, Z.zzip, Z.zsort, Z.zsortR, Z.zsortset, Z.zslT, Z.zslL, Z.znone, Z.zsome, Z.znew, Z.zfz, Z.alloc, Z.wipeD, Z.sfor, Z.zm1, Z.zm0, Z.bmD, Z.zdvm, Z.zabs, Z.zmx2, Z.zmn2, Z.zint, Z.zcnt, Z.gsub, Z.setD, Z.ztt, Z.seq_tup, Z.seq_lst, Z.lst_lst, Z.ty_non, Z.ty_bl, Z.ty_int, Z.ty_str, Z.ty_tup, Z.ty_lst, Z.tru_non, Z.tru_bl, Z.tru_int, Z.tru_tup, Z.tru_lst, Z.len_tup, Z.len_lst, Z.ix_int, Z.at_0, Z.at_1, Z.at_2, Z.at_3, Z.at_4, Z.add_ii, Z.sub_ii, Z.mul_ii, Z.fdiv_ii, Z.mod_ii, Z.pow_ii, Z.add_tt, Z.lt_ii, Z.le_ii, Z.gt_ii, Z.ge_ii, Z.eq_ii, Z.ne_ii, Z.eq_dd, Z.ne_dd, Z.isN_d, Z.notN_d, Z.wt_tup, Z.D.deq, e1, bd.1, bd.2, deq_int_non]
    obtain ⟨t5, t6, t7, t8, r⟩ := o_loop k X m xs0 hX s0 s1 s2 s3 s4 os (some (csD o.1)) (some (.int o.2.1)) (some (.int o.2.2)) (some (.int wm)) fun y hy => ho y (List.mem_cons_of_mem _ hy)
    refine ⟨t5, t6, t7, t8, ?_⟩
    rw [List.map_cons]
    simp only [forL, wOk_at hX, if_true, g1, b]
    exact r
theorem l_body (ns : List Int) (j : Int) (hj : 0 ≤ j) (hj2 : j ≤ 12) (X : Hh) (s2 s3 s4 s5 s6 s7 s8 : Option D) :
    ∃ s2' s3' s4' s5' s6' s7' s8' X', lb_law_1 ⟨callN Pg 44⟩ [some (.lst (ns.map .int)), some (.int j), s2, s3, s4, s5, s6, s7, s8] X = some (.nx [some (.lst (ns.map .int)), some (.int j), s2', s3', s4', s5', s6', s7', s8'] X') := by
  obtain ⟨p, p1, p2, p3⟩ := e_pool 43 ns j X hj hj2
  obtain ⟨cs, p', q1, q2, q3, q4⟩ := e_drawn 42 X.length p (X ++ [.lst [.int p]]) (at_last _ _) p2 p3
  rw [put_last] at q1
  obtain ⟨wm, w1, w2, w3⟩ := e_how 28 cs q2.ok
  have sm1 := fun A => e_some 37 cs q2.ok wm w2 A
  obtain ⟨os, p'', r1, r2⟩ := e_others 42 X.length p' cs wm (X ++ [.lst [.int p']]) q2 w2 w3 (at_last _ _) q3 q4 fun ds hd => by
    obtain ⟨m, _, h, _⟩ := e_how 0 ds hd
    exact ⟨m, h⟩
  obtain ⟨B, hB⟩ : ∃ B : Hh, B = X ++ [O.lst [.int p']] := ⟨_, rfl⟩
  rw [← hB] at q1 r1
  obtain ⟨t5, t6, t7, t8, o⟩ := o_loop 28 (pl B X.length p'' [.lst (os.map otD)]) B.length (os.map otD) pl_last (some (.lst (ns.map .int))) (some (.int j)) (some (.ref X.length)) (some (csD cs)) (some (.int wm)) os s5 s6 s7 s8 r2
  refine ⟨some (.ref X.length), some (csD cs), some (.int wm), t5, t6, t7, t8, pl B X.length p'' [.lst (os.map otD)], ?_⟩
  have sq := seq_ref (A := pl B X.length p'' [.lst (os.map otD)]) (n := B.length) (xs := os.map otD) pl_last
  obtain ⟨W, hW⟩ : ∃ W : Int, W = (wm : Int) := ⟨_, rfl⟩
  rw [← hW] at w1 sm1 r1 o ⊢
  unfold lb_law_1
  simp [Z.sseq, Z.snil, Z.sret, Z.sexp, Z.sasg, Z.spar, Z.sif, Z.spass, Z.sbrk, Z.scnt, Z.sthen_nx, Z.sthen_rt, Z.sthen_bk, Z.sthen_ct, Z.of_ok, Z.andThen_ok, Z.mb, Z.ok, Z.mo, Z.zvar, Z.zc, Z.zbin, Z.zneg, Z.zcmp, Z.zchn, Z.copM, Z.zbl, Z.ztru, Z.zand, Z.zor, Z.znot, Z.zandv, Z.zorv, Z.zite, Z.znil, Z.zcons, Z.ztup, Z.zix, Z.zlen, Z.zisi, Z.isiB, Z.zcall, Z.endD, Z.gnm, Z.gtup, Z.gcons, Z.gnil, Z.gc_self, Z.zallq, Z.zanyq, Z.zsumq, Z.zminq, Z.zmaxq, Z.zlenq, Z.ztupq, Z.zrow, Z.zst, Z.zof, Z.zofL, Z.zlst, Z.lstM, Z.zcomp, Z.zrng, Z.rngM, Z.zcat, Z.zrep, Z.zzip, Z.zsort, Z.zsortR, Z.zsortset, Z.zslT, Z.zslL, Z.znone, Z.zsome, Z.znew, Z.zfz, Z.alloc, Z.wipeD, Z.sfor, Z.zm1, Z.zm0, Z.bmD, Z.zdvm, Z.zabs, Z.zmx2, Z.zmn2, Z.zint, Z.zcnt, Z.gsub, Z.setD, Z.ztt, Z.seq_tup, Z.seq_lst, Z.lst_lst, Z.ty_non, Z.ty_bl, Z.ty_int, Z.ty_str, Z.ty_tup, Z.ty_lst, Z.tru_non, Z.tru_bl, Z.tru_int, Z.tru_tup, Z.tru_lst, Z.len_tup, Z.len_lst, Z.ix_int, Z.at_0, Z.at_1, Z.at_2, Z.at_3, Z.at_4, Z.add_ii, Z.sub_ii, Z.mul_ii, Z.fdiv_ii, Z.mod_ii, Z.pow_ii, Z.add_tt, Z.lt_ii, Z.le_ii, Z.gt_ii, Z.ge_ii, Z.eq_ii, Z.ne_ii, Z.eq_dd, Z.ne_dd, Z.isN_d, Z.notN_d, Z.wt_tup, Z.D.deq, p1, q1, w1, sm1, r1, sq, o, deq_int_non, -List.map_map]
theorem l_loop (ns : List Int) : ∀ (n : Nat) (a : Int) (X : Hh) (s1 s2 s3 s4 s5 s6 s7 s8 : Option D), 0 ≤ a → a + n ≤ 12 →
    ∃ X' s1' s2' s3' s4' s5' s6' s7' s8', forL [] (gnm 1) (lb_law_1 ⟨callN Pg 44⟩) ((List.range n).map fun (i : Nat) => D.int (a + i)) [some (.lst (ns.map .int)), s1, s2, s3, s4, s5, s6, s7, s8] X
      = some (.nx [some (.lst (ns.map .int)), s1', s2', s3', s4', s5', s6', s7', s8'] X')
  | 0, a, X, s1, s2, s3, s4, s5, s6, s7, s8, _, _ => ⟨X, s1, s2, s3, s4, s5, s6, s7, s8, rfl⟩
  | n + 1, a, X, s1, s2, s3, s4, s5, s6, s7, s8, ha, hn => by
    have e : (List.range (n + 1)).map (fun (i : Nat) => D.int (a + i)) = .int a :: (List.range n).map fun (i : Nat) => D.int ((a + 1) + i) := by
      rw [List.range_succ_eq_map, List.map_cons, List.map_map]
      congr 1
      · simp
      · refine List.map_congr_left fun i _ => ?_
        simp only [Function.comp, D.int.injEq]
        omega
    obtain ⟨t2, t3, t4, t5, t6, t7, t8, X1, b1⟩ := l_body ns a ha (by omega) X s2 s3 s4 s5 s6 s7 s8
    obtain ⟨X', u1, u2, u3, u4, u5, u6, u7, u8, q1⟩ := l_loop ns n (a + 1) X1 (some (.int a)) t2 t3 t4 t5 t6 t7 t8 (by omega) (by omega)
    refine ⟨X', u1, u2, u3, u4, u5, u6, u7, u8, ?_⟩
    have g1 : gnm 1 (.int a) [some (.lst (ns.map .int)), s1, s2, s3, s4, s5, s6, s7, s8] X = some (.ok [some (.lst (ns.map .int)), some (.int a), s2, s3, s4, s5, s6, s7, s8] X) := rfl
    rw [e]
    simp only [forL, wOk, List.all_nil, if_true, g1, b1]
    exact q1
theorem law_true (ns : List Int) (hn : ns.length ≤ 63) : ∃ A', callN Pg 45 i_law [.lst (ns.map .int)] [] = some (.ok (.bl true) A') := by
  obtain ⟨N, hN⟩ : ∃ N, N = max 2 (min ns.length 10) := ⟨_, rfl⟩
  obtain ⟨X, s1, s2, s3, s4, s5, s6, s7, s8, q1⟩ := l_loop ns N 0 [] none none none none none none none none (by omega) (by omega)
  have hr : rngI 0 (max 2 (min (ns.length : Int) 10)) = (List.range N).map fun (i : Nat) => D.int (0 + i) := by
    unfold rngI
    have : (max 2 (min (ns.length : Int) 10) - 0).toNat = N := by omega
    rw [this]
  have a1 : (-1152921504606846976 : Int) ≤ max 2 (min (ns.length : Int) 10) := by omega
  have a2 : max 2 (min (ns.length : Int) 10) ≤ 1152921504606846976 := by omega
  refine ⟨gc [] X (.bl true), ?_⟩
  rw [c_law, mb_law]
  rw [← hr] at q1
  simp [Z.sseq, Z.snil, Z.sret, Z.sexp, Z.sasg, Z.spar, Z.sif, Z.spass, Z.sbrk, Z.scnt, Z.sthen_nx, Z.sthen_rt, Z.sthen_bk, Z.sthen_ct, Z.of_ok, Z.andThen_ok, Z.mb, Z.ok, Z.mo, Z.zvar, Z.zc, Z.zbin, Z.zneg, Z.zcmp, Z.zchn, Z.copM, Z.zbl, Z.ztru, Z.zand, Z.zor, Z.znot, Z.zandv, Z.zorv, Z.zite, Z.znil, Z.zcons, Z.ztup, Z.zix, Z.zlen, Z.zisi, Z.isiB, Z.zcall, Z.endD, Z.gnm, Z.gtup, Z.gcons, Z.gnil, Z.gc_self, Z.zallq, Z.zanyq, Z.zsumq, Z.zminq, Z.zmaxq, Z.zlenq, Z.ztupq, Z.zrow, Z.zst, Z.zof, Z.zofL, Z.zlst, Z.lstM, Z.zcomp, Z.zrng, Z.rngM, Z.zcat, Z.zrep, Z.zzip, Z.zsort, Z.zsortR, Z.zsortset, Z.zslT, Z.zslL, Z.znone, Z.zsome, Z.znew, Z.zfz, Z.alloc, Z.wipeD, Z.sfor, Z.zm1, Z.zm0, Z.bmD, Z.zdvm, Z.zabs, Z.zmx2, Z.zmn2, Z.zint, Z.zcnt, Z.gsub, Z.setD, Z.ztt, Z.seq_tup, Z.seq_lst, Z.lst_lst, Z.ty_non, Z.ty_bl, Z.ty_int, Z.ty_str, Z.ty_tup, Z.ty_lst, Z.tru_non, Z.tru_bl, Z.tru_int, Z.tru_tup, Z.tru_lst, Z.len_tup, Z.len_lst, Z.ix_int, Z.at_0, Z.at_1, Z.at_2, Z.at_3, Z.at_4, Z.add_ii, Z.sub_ii, Z.mul_ii, Z.fdiv_ii, Z.mod_ii, Z.pow_ii, Z.add_tt, Z.lt_ii, Z.le_ii, Z.gt_ii, Z.ge_ii, Z.eq_ii, Z.ne_ii, Z.eq_dd, Z.ne_dd, Z.isN_d, Z.notN_d, Z.wt_tup, Z.D.deq, a1, a2, q1, -List.map_map]
end Zp

theorem PySem.Challenge.cw_doffyard_k40_whole_calls_grown_and_moved_holds : PySem.Challenge.rw_doffyard_k40_whole_calls_grown_and_moved.Holds :=
  Zp.holds_of Zp.law_true
