import PyProof.Rows.All
import Wide.All
import OpenK.AllK
import Wide.FinOn
import HandS.ForMost
import HandS.Wide
import HandS.WideBits
import HandS.TupAny
import HandS.TupLe
import HandS.TupMul
import HandS.TupSets
import HandS.Deep
import HandS.Flow
import HandS.IsInst
import HandS.Zip
import HandS.Words
import HandS.ForExc
import HandS.WordsExc
import HandS.Defaults
import HandS.ExcOwn
import HandS.SetFor
import HandS.Conv
import KE.KDictKeyed
import KE.KeyNested
import KE.KDictWalk
import HandS.SortInts
import HandS.SortKw
import KE.KSortTup
import HandS.ReCall
import HandS.Strs
import KE.KStateDown
import HandS.Ends
import HandS.Head0
import HandS.Head1
import HandS.Head2
import HandS.HeadEnd
import HandS.HeadHook1
import HandS.HeadHook2
import HandS.ExcIs
import KE.GoesMore
import HandS.Style
import KE.KDictSum
import KE.KDictCopyH
import KE.KRevSl
import HandS.Walk
import PyProof.ListRange
import PyProof.LongRange
import HandS.HotCalls
import KE.KTupSum
import PySem.Challenge.RW_doffyard_k34_what_small_yards_are
set_option Elab.async false
set_option linter.all false
set_option maxRecDepth 100000
noncomputable section
namespace Z
open PySem L2

/-- a value: tuples by value, objects that change by their number -/
inductive D where
  | non | bl (b : Bool) | int (i : Int) | str (x : Str) | tup (xs : List D) | lst (xs : List D) | ref (n : Nat) | exc (n : Nat) | emp
/-- an object that changes -/
inductive O where
  | lst (xs : List D) | ins (c : Nat) (fs : List (Str × D)) | dct (kvs : List (List Int × D)) | dck (kvs : List (Key × D))

abbrev Sl := List (Option D)
abbrev Hh := List O
structure Exn where
  c : Nat

inductive R (α : Type) where
  | ok (a : α) (A : Hh)
  | ex (x : Exn) (A : Hh)
abbrev M (α : Type) := Hh → Option (R α)
abbrev Ev (α : Type) := Sl → Hh → Option (R α)

/-- then: the state goes along, an exception ends it -/
def R.andThen {α β : Type} : Option (R α) → (α → Hh → Option (R β)) → Option (R β)
  | some (.ok a A), f => f a A
  | some (.ex x A), _ => some (.ex x A)
  | none, _ => none
def ok {α : Type} (a : α) : M α := fun A => some (.ok a A)
def mb {α β : Type} (m : M α) (f : α → M β) : M β := fun A => R.andThen (m A) f
def mo {α : Type} : Option α → M α
  | some a => ok a
  | none => fun _ => none

inductive RS where
  | nx (σ : Sl) (A : Hh)
  | bk (σ : Sl) (A : Hh)
  | ct (σ : Sl) (A : Hh)
  | rt (d : D) (A : Hh)
  | ex (x : Exn) (σ : Sl) (A : Hh)
abbrev Sv := Sl → Hh → Option RS
abbrev Gv := D → Sl → Hh → Option (R Sl)
abbrev Gsv := List D → Sl → Hh → Option (R Sl)

def SZ : Nat := 16000000
set_option exponentiation.threshold 4000 in
def BIGB : Nat := 2 ^ 3900
/-- kept shut: what it is tells small_def alone -/
theorem small_is : ∃ f : Int → Bool, ∀ i, f i = decide (i.natAbs < BIGB) := ⟨_, fun _ => rfl⟩
noncomputable def small : Int → Bool := Classical.choose small_is
theorem small_def (i : Int) : small i = decide (i.natAbs < BIGB) := Classical.choose_spec small_is i

mutual
def D.deq : D → D → Bool
  | .non, .non => true
  | .bl a, .bl b => a == b
  | .int a, .int b => decide (a = b)
  | .str a, .str b => decide (a = b)
  | .tup xs, .tup ys => D.deqs xs ys
  | .lst xs, .lst ys => D.deqs xs ys
  | .ref a, .ref b => decide (a = b)
  | .exc a, .exc b => decide (a = b)
  | .emp, .emp => true
  | _, _ => false
def D.deqs : List D → List D → Bool
  | [], [] => true
  | x :: xs, y :: ys => D.deq x y && D.deqs xs ys
  | _, _ => false
end
mutual
theorem D.deq_iff : ∀ (x y : D), D.deq x y = true ↔ x = y
  | .non, y => by cases y <;> simp [D.deq]
  | .bl a, y => by cases y <;> simp [D.deq]
  | .int a, y => by cases y <;> simp [D.deq]
  | .str a, y => by cases y <;> simp [D.deq]
  | .tup xs, y => by cases y <;> simp [D.deq, D.deqs_iff]
  | .lst xs, y => by cases y <;> simp [D.deq, D.deqs_iff]
  | .ref a, y => by cases y <;> simp [D.deq]
  | .exc a, y => by cases y <;> simp [D.deq]
  | .emp, y => by cases y <;> simp [D.deq]
theorem D.deqs_iff : ∀ (xs ys : List D), D.deqs xs ys = true ↔ xs = ys
  | [], ys => by cases ys <;> simp [D.deqs]
  | x :: xs, ys => by cases ys <;> simp [D.deqs, D.deq_iff, D.deqs_iff]
end
instance : DecidableEq D := fun x y => decidable_of_iff _ (D.deq_iff x y)

mutual
/-- all that it names stands below n -/
def D.lo (n : Nat) : D → Bool
  | .tup xs => D.los n xs
  | .lst xs => D.los n xs
  | .ref m => decide (m < n)
  | _ => true
def D.los (n : Nat) : List D → Bool
  | [] => true
  | x :: xs => D.lo n x && D.los n xs
end
instance : DecidableEq O := fun a b => match a, b with
  | .lst xs, .lst ys => if h : xs = ys then isTrue (by rw [h]) else isFalse fun e => h (by injection e)
  | .ins c fs, .ins d gs => if h : c = d ∧ fs = gs then isTrue (by rw [h.1, h.2]) else isFalse fun e => h (by injection e with e1 e2; exact ⟨e1, e2⟩)
  | .dct xs, .dct ys => if h : xs = ys then isTrue (by rw [h]) else isFalse fun e => h (by injection e)
  | .dck xs, .dck ys => if h : xs = ys then isTrue (by rw [h]) else isFalse fun e => h (by injection e)
  | .lst _, .ins _ _ => isFalse fun e => nomatch e
  | .ins _ _, .lst _ => isFalse fun e => nomatch e
  | .lst _, .dct _ => isFalse fun e => nomatch e
  | .dct _, .lst _ => isFalse fun e => nomatch e
  | .lst _, .dck _ => isFalse fun e => nomatch e
  | .dck _, .lst _ => isFalse fun e => nomatch e
  | .ins _ _, .dct _ => isFalse fun e => nomatch e
  | .dct _, .ins _ _ => isFalse fun e => nomatch e
  | .ins _ _, .dck _ => isFalse fun e => nomatch e
  | .dck _, .ins _ _ => isFalse fun e => nomatch e
  | .dct _, .dck _ => isFalse fun e => nomatch e
  | .dck _, .dct _ => isFalse fun e => nomatch e
def O.lo (n : Nat) : O → Bool
  | .lst xs => D.los n xs
  | .ins _ fs => D.los n (fs.map (·.2))
  | .dct kvs => D.los n (kvs.map fun p => .tup (p.1.map .int)) && D.los n (kvs.map (·.2))
  | .dck kvs => D.los n (kvs.map (·.2))

mutual
def D.py : D → Option PyData
  | .non => some .none
  | .bl b => some (.bool b)
  | .int i => some (.int i)
  | .str x => some (.str x)
  | .tup xs => (D.pys xs).map .tuple
  | .lst xs => (D.pys xs).map .list
  | .ref _ => none
  | .exc _ => none
  | .emp => none
def D.pys : List D → Option (List PyData)
  | [] => some []
  | x :: xs => match D.py x, D.pys xs with
    | some p, some ps => some (p :: ps)
    | _, _ => none
end
/-- data, a list that changes seen as it is -/
def pyA (A : Hh) : D → Option PyData
  | .ref n => match A[n]? with
    | some (.lst xs) => (D.pys xs).map .list
    | _ => none
  | d => d.py
def eqP (x y : Option PyData) : Option Bool := match x, y with
  | some p, some q => if SeqAt.shaped p && SeqAt.shaped q then some (PyData.eqv p q) else none
  | _, _ => none
def eqD (A : Hh) (x y : D) : Option Bool := match x, y with
  | .int i, .int j => some (decide (i = j))
  | .str a, .str b => some (decide (a = b))
  | .bl a, .bl b => some (decide (a = b))
  | x, y => eqP (pyA A x) (pyA A y)

/-- ints of a row -/
def intsOf : List D → Option (List Int)
  | [] => some []
  | .int i :: xs => (intsOf xs).map (i :: ·)
  | _ => none
/-- the order of tuples of ints -/
def ltI (x y : D) : Option Bool := match x, y with
  | .int i, .int j => some (decide (i < j))
  | .tup xs, .tup ys => match intsOf xs, intsOf ys with
    | some ns, some ms => some (HT.lexLt ns ms)
    | _, _ => none
  | _, _ => none
/-- what a list or a tuple has, and the lists that must stay while it is walked -/
abbrev Wt := List (Nat × List D)
def seqD (A : Hh) : D → Option (List D × Wt)
  | .tup xs => some (xs, [])
  | .lst xs => some (xs, [])
  | .ref n => match A[n]? with
    | some (.lst xs) => some (xs, [(n, xs)])
    | _ => none
  | _ => none
def wOk (w : Wt) (A : Hh) : Bool := w.all fun p => match A[p.1]? with
  | some (.lst xs) => D.deqs xs p.2
  | _ => false

inductive Bop where | add | sub | mul | fdiv | mod | pow
  deriving DecidableEq
def bopD : Bop → D → D → M D
  | .add, .int i, .int j => ok (.int (i + j))
  | .sub, .int i, .int j => ok (.int (i - j))
  | .mul, .int i, .int j => fun A => if small i && small j then some (.ok (.int (i * j)) A) else none
  | .fdiv, .int i, .int j => fun A => if decide (0 < j) && small j then some (.ok (.int (i / j)) A) else none
  | .mod, .int i, .int j => fun A => if decide (0 < j) then some (.ok (.int (i % j)) A) else none
  | .pow, .int i, .int j => fun A => if decide (0 ≤ j) && decide (j ≤ 1000000) && decide (i.natAbs < 2 ^ 64) then some (.ok (.int (i ^ j.toNat)) A) else none
  | .mul, .tup xs, .int k => fun A => if k = 1 then some (.ok (.tup xs) A) else if 2 ≤ k ∧ k ≤ 1000 ∧ xs.length ≤ 1000 ∧ xs ≠ [] then some (.ok (.tup (List.replicate k.toNat xs).flatten) A) else none
  | .add, .tup xs, .tup ys => fun A => if xs.length + ys.length ≤ SZ then some (.ok (.tup (xs ++ ys)) A) else none
  | _, _, _ => fun _ => none
inductive Cop where | lt | le | gt | ge | eq | ne | isN | notN | in_ | notIn | isB | notB | eqE
  deriving DecidableEq
def leI (x y : D) : Option Bool := match x, y with
  | .int i, .int j => some (decide (i ≤ j))
  | .tup xs, .tup ys => match intsOf xs, intsOf ys with
    | some ns, some ms => some (!HT.lexLt ms ns)
    | _, _ => none
  | _, _ => none
def inA (A : Hh) (x y : D) : Option Bool := match y with
  | .tup ys => match D.py x, D.pys ys with
    | some p, some ps => if SeqAt.shaped p && SeqAt.shaped (.tuple ps) then some (ps.any fun z => PyData.eqv z p) else none
    | _, _ => none
  | y => match pyA A y, D.py x with
    | some (.list ps), some p => if SeqAt.shaped p && SeqAt.shaped (.list ps) then some (ps.any fun z => PyData.eqv z p) else none
    | _, _ => none
def copD : Cop → D → D → Hh → Option Bool
  | .lt, x, y, _ => ltI x y
  | .gt, x, y, _ => match x, y with
    | .int i, .int j => some (decide (j < i))
    | _, _ => none
  | .le, x, y, _ => leI x y
  | .ge, x, y, _ => match x, y with
    | .int i, .int j => some (decide (j ≤ i))
    | _, _ => none
  | .eq, x, y, A => eqD A x y
  | .ne, x, y, A => (eqD A x y).map (!·)
  | .isN, x, .non, _ => some (D.deq x .non)
  | .notN, x, .non, _ => some (!D.deq x .non)
  | .isN, _, _, _ => none
  | .notN, _, _, _ => none
  | .in_, x, y, A => inA A x y
  | .notIn, x, y, A => (inA A x y).map (!·)
  | .isB, .bl a, .bl b, _ => some (decide (a = b))
  | .notB, .bl a, .bl b, _ => some (!decide (a = b))
  | .eqE, .tup xs, .tup [], _ => some xs.isEmpty
  | .isB, _, _, _ => none
  | .notB, _, _, _ => none
  | .eqE, _, _, _ => none

def truD (A : Hh) : D → Option Bool
  | .non => some false
  | .bl b => some b
  | .int i => some (decide (i ≠ 0))
  | .str x => if x.length ≤ SZ then some (decide (x.length ≠ 0)) else none
  | .tup xs => some (!xs.isEmpty)
  | .lst xs => some (!xs.isEmpty)
  | .ref n => match A[n]? with
    | some (.lst xs) => some (!xs.isEmpty)
    | _ => none
  | .exc _ => none
  | .emp => none

def zvar (i : Nat) : Ev D := fun σ A => match σ[i]? with
  | some (some d) => some (.ok d A)
  | _ => none
def zc (d : D) : Ev D := fun _ A => some (.ok d A)
def zbin (op : Bop) (a b : Ev D) : Ev D := fun σ => mb (a σ) fun x => mb (b σ) fun y => bopD op x y
def zneg (a : Ev D) : Ev D := fun σ => mb (a σ) fun x => match x with
  | .int i => ok (.int (-i))
  | _ => fun _ => none
def copM (op : Cop) (x y : D) : M Bool := fun A => (copD op x y A).map fun b => .ok b A
def zcmp (op : Cop) (a b : Ev D) : Ev Bool := fun σ => mb (a σ) fun x => mb (b σ) fun y => copM op x y
def zchn (o p : Cop) (a b c : Ev D) : Ev Bool := fun σ => mb (a σ) fun x => mb (b σ) fun y => mb (copM o x y) fun k => if k = true then mb (c σ) fun z => copM p y z else ok false
def zbl (t : Ev Bool) : Ev D := fun σ => mb (t σ) fun b => ok (.bl b)
def ztru (a : Ev D) : Ev Bool := fun σ => mb (a σ) fun x => fun A => (truD A x).map fun b => .ok b A
def zand (a b : Ev Bool) : Ev Bool := fun σ => mb (a σ) fun k => if k = true then b σ else ok false
def zor (a b : Ev Bool) : Ev Bool := fun σ => mb (a σ) fun k => if k = true then ok true else b σ
def znot (a : Ev Bool) : Ev Bool := fun σ => mb (a σ) fun k => ok (!k)
/-- and, or as values -/
def zandv (a b : Ev D) : Ev D := fun σ => mb (a σ) fun x => fun A => match truD A x with
  | some true => b σ A
  | some false => some (.ok x A)
  | none => none
def zorv (a b : Ev D) : Ev D := fun σ => mb (a σ) fun x => fun A => match truD A x with
  | some true => some (.ok x A)
  | some false => b σ A
  | none => none
def zite (c : Ev Bool) (a b : Ev D) : Ev D := fun σ => mb (c σ) fun k => if k = true then a σ else b σ
def znil : Ev (List D) := fun _ => ok []
def zcons (e : Ev D) (es : Ev (List D)) : Ev (List D) := fun σ => mb (e σ) fun x => mb (es σ) fun xs => ok (x :: xs)
def ztup (es : Ev (List D)) : Ev D := fun σ => mb (es σ) fun xs A => if xs.length ≤ SZ then some (.ok (.tup xs) A) else none
def alloc (o : O) : M D := fun A => some (.ok (.ref A.length) (A ++ [o]))
/-- a list that stays as it is -/
def zfz (q : Ev (List D)) : Ev D := fun σ => mb (q σ) fun xs => ok (.lst xs)
/-- a new list, an object from now on -/
def znew (q : Ev (List D)) : Ev D := fun σ => mb (q σ) fun xs => alloc (.lst xs)

def ixD (A : Hh) (x y : D) : Option D := match y with
  | .int i => match seqD A x with
    | some (xs, _) => atI xs i
    | none => none
  | _ => none
def zix (a b : Ev D) : Ev D := fun σ => mb (a σ) fun x => mb (b σ) fun y A => (ixD A x y).map fun d => .ok d A
def cutD (xs : List D) (lo hi : Option Int) : List D := (xs.drop (HT.sIx xs.length 0 lo)).take (HT.sIx xs.length xs.length hi - HT.sIx xs.length 0 lo)
def znone : Ev (Option Int) := fun _ => ok none
def zsome (a : Ev D) : Ev (Option Int) := fun σ => mb (a σ) fun x => match x with
  | .int i => ok (some i)
  | _ => fun _ => none
/-- a slice of a tuple -/
def zslT (a : Ev D) (lo hi : Ev (Option Int)) : Ev D := fun σ => mb (a σ) fun x => mb (lo σ) fun l => mb (hi σ) fun h => match x with
  | .tup xs => ok (.tup (cutD xs l h))
  | _ => fun _ => none
/-- a slice of a list -/
def zslL (a : Ev D) (lo hi : Ev (Option Int)) : Ev (List D) := fun σ => mb (a σ) fun x => mb (lo σ) fun l => mb (hi σ) fun h A => match x with
  | .tup _ => none
  | x => match seqD A x with
    | some (xs, _) => some (.ok (cutD xs l h) A)
    | none => none

/-- what a list or tuple has, for a moment -/
def zof (a : Ev D) : Ev (List D × Wt) := fun σ => mb (a σ) fun x A => (seqD A x).map fun p => .ok p A
def lstD (A : Hh) : D → Option (List D)
  | .lst xs => some xs
  | .ref n => match A[n]? with
    | some (.lst xs) => some xs
    | _ => none
  | _ => none
/-- what a list has -/
def zofL (a : Ev D) : Ev (List D) := fun σ => mb (a σ) fun x A => (lstD A x).map fun p => .ok p A
def zst (q : Ev (List D)) : Ev (List D × Wt) := fun σ => mb (q σ) fun xs => ok (xs, [])
def zrow (q : Ev (List D × Wt)) : Ev (List D) := fun σ => mb (q σ) fun p => ok p.1
def lstM (xs : List D) : M (List D) := fun A => if xs.length ≤ SZ then some (.ok xs A) else none
def zlst (es : Ev (List D)) : Ev (List D) := fun σ => mb (es σ) lstM
def zcat (a b : Ev (List D)) : Ev (List D) := fun σ => mb (a σ) fun xs => mb (b σ) fun ys => lstM (xs ++ ys)
def zrep (a : Ev (List D)) (n : Ev D) : Ev (List D) := fun σ => mb (a σ) fun xs => mb (n σ) fun k => match k with
  | .int k => fun A => if decide (-(2 ^ 62) ≤ k) && decide (k ≤ 2 ^ 62) && decide (xs.length * k.toNat ≤ SZ) then some (.ok (List.replicate k.toNat xs).flatten A) else none
  | _ => fun _ => none
def rngI (i j : Int) : List D := (List.range (j - i).toNat).map fun (k : Nat) => D.int (i + (k : Int))
def rngM (x y : D) : M (List D) := match x, y with
  | .int i, .int j => fun A => if decide (-(2 ^ 60) ≤ i) && decide (i ≤ 2 ^ 60) && decide (-(2 ^ 60) ≤ j) && decide (j ≤ 2 ^ 60) then some (.ok (rngI i j) A) else none
  | _, _ => fun _ => none
def zrng (a b : Ev D) : Ev (List D) := fun σ => mb (a σ) fun x => mb (b σ) fun y => rngM x y
def wtD : D → List D → Wt
  | .ref n, xs => [(n, xs)]
  | _, _ => []
def zipD (xs ys : List D) : List D := (xs.zip ys).map fun z => D.tup [z.1, z.2]
/-- two tuples or two lists, side by side -/
def zzip (a b : Ev D) : Ev (List D × Wt) := fun σ => mb (a σ) fun x => mb (b σ) fun y => match x, y with
  | .tup xs, .tup ys => ok (zipD xs ys, [])
  | x, y => fun A => match lstD A x, lstD A y with
    | some xs, some ys => some (.ok (zipD xs ys, wtD x xs ++ wtD y ys) A)
    | _, _ => none
def enumD (xs : List D) : List D := xs.zipIdx.map fun z => D.tup [.int (z.2 : Nat), z.1]
def zenum (a : Ev (List D × Wt)) : Ev (List D × Wt) := fun σ => mb (a σ) fun p => ok (enumD p.1, p.2)
def tupsOf : List D → Option (List (List Int))
  | [] => some []
  | .tup ys :: xs => match intsOf ys, tupsOf xs with
    | some n, some ns => some (n :: ns)
    | _, _ => none
  | _ => none
def leL (a b : List Int) : Bool := !HT.lexLt b a
def leZ (a b : Int) : Bool := decide (a ≤ b)
def tupD (t : List Int) : D := .tup (t.map .int)
def strsOf : List D → Option (List Str)
  | [] => some []
  | .str x :: xs => (strsOf xs).map (x :: ·)
  | _ => none
def leS (a b : Str) : Bool := !decide (b.cps.toList < a.cps.toList)
def sortD (xs : List D) : Option (List D) := match intsOf xs with
  | some ns => some ((ns.mergeSort leZ).map .int)
  | none => match tupsOf xs with
    | some ts => if ts.all (fun t => !t.isEmpty) then some ((ts.mergeSort leL).map tupD) else none
    | none => match strsOf xs with
      | some ss => some ((ss.mergeSort leS).map .str)
      | none => none
/-- sorted(.., reverse=True) of texts -/
def sortRD (xs : List D) : Option (List D) := match strsOf xs with
  | some ss => some ((ss.reverse.mergeSort leS).reverse.map .str)
  | none => none
def zsort (q : Ev (List D)) : Ev (List D) := fun σ => mb (q σ) fun xs => mo (sortD xs)
def zsortR (q : Ev (List D)) : Ev (List D) := fun σ => mb (q σ) fun xs => mo (sortRD xs)
/-- each once -/
def dd : List Int → List Int
  | [] => []
  | n :: ns => if n ∈ ns then dd ns else n :: dd ns
theorem mem_dd {k : Int} : ∀ ns : List Int, k ∈ dd ns ↔ k ∈ ns
  | [] => Iff.rfl
  | n :: ns => by
    unfold dd
    split
    · rename_i h
      rw [mem_dd ns, List.mem_cons]
      exact ⟨.inr, fun h2 => h2.elim (fun e => e ▸ h) id⟩
    · rw [List.mem_cons, List.mem_cons, mem_dd ns]
theorem nodup_dd : ∀ ns : List Int, (dd ns).Nodup
  | [] => .nil
  | n :: ns => by
    unfold dd
    split
    · exact nodup_dd ns
    · rename_i h
      exact List.nodup_cons.mpr ⟨fun m => h ((mem_dd ns).mp m), nodup_dd ns⟩
/-- sorted(set(..)) of ints -/
def zsortset (q : Ev (List D)) : Ev (List D) := fun σ => mb (q σ) fun xs A => match intsOf xs with
  | some ns => if ns.length < 64 then some (.ok (((dd ns).mergeSort leZ).map .int) A) else none
  | none => none
def ztupq (q : Ev (List D × Wt)) : Ev D := fun σ => mb (q σ) fun p => ok (.tup p.1)
def blsOf : List D → Option (List Bool)
  | [] => some []
  | .bl b :: xs => (blsOf xs).map (b :: ·)
  | _ => none
def zallq (q : Ev (List D)) : Ev D := fun σ => mb (q σ) fun xs => mo ((blsOf xs).map fun bs => .bl (bs.all id))
def zanyq (q : Ev (List D)) : Ev D := fun σ => mb (q σ) fun xs => mo ((blsOf xs).map fun bs => .bl (bs.any id))
def zsumq (q : Ev (List D)) : Ev D := fun σ => mb (q σ) fun xs => mo ((intsOf xs).map fun ns => .int ns.sum)
def minI : List Int → Option Int
  | [] => none
  | n :: ns => some (ns.foldl min n)
def maxI : List Int → Option Int
  | [] => none
  | n :: ns => some (ns.foldl max n)
def zminq (q : Ev (List D)) : Ev D := fun σ => mb (q σ) fun xs => mo (((intsOf xs).bind minI).map .int)
def zmaxq (q : Ev (List D)) : Ev D := fun σ => mb (q σ) fun xs => mo (((intsOf xs).bind maxI).map .int)
def zlenq (q : Ev (List D × Wt)) : Ev D := fun σ => mb (q σ) fun p => ok (.int p.1.length)

inductive B where | len | isInt | isBool | isTuple | isStr | isList | abs | divmod | max2 | min2 | int
  deriving DecidableEq
def biD : B → List D → Hh → Option D
  | .len, [.str x], _ => if x.length ≤ SZ then some (.int x.length) else none
  | .len, [x], A => (seqD A x).map fun p => .int p.1.length
  | .isInt, [.int _], _ => some (.bl true)
  | .isInt, [.bl _], _ => some (.bl true)
  | .isInt, [.ref _], _ => none
  | .isInt, [_], _ => some (.bl false)
  | .isBool, [.bl _], _ => some (.bl true)
  | .isBool, [.ref _], _ => none
  | .isBool, [_], _ => some (.bl false)
  | .isTuple, [.tup _], _ => some (.bl true)
  | .isTuple, [.ref n], A => match A[n]? with
    | some (.lst _) => some (.bl false)
    | _ => none
  | .isTuple, [_], _ => some (.bl false)
  | .isStr, [.str _], _ => some (.bl true)
  | .isStr, [.ref _], _ => none
  | .isStr, [_], _ => some (.bl false)
  | .isList, _, _ => none
  | .abs, [.int i], _ => some (.int (if i < 0 then -i else i))
  | .divmod, [.int i, .int j], _ => if decide (0 < j) && small i then some (.tup [.int (i / j), .int (i % j)]) else none
  | .max2, [.int i, .int j], _ => some (.int (if j > i then j else i))
  | .min2, [.int i, .int j], _ => some (.int (if j < i then j else i))
  | .int, [.int i], _ => some (.int i)
  | .int, [.bl b], _ => some (.int (if b then 1 else 0))
  | _, _, _ => none
def zbi (b : B) (es : Ev (List D)) : Ev D := fun σ => mb (es σ) fun xs A => (biD b xs A).map fun d => .ok d A

inductive Bm where | append | remove | pop | count
  deriving DecidableEq
def bmD : Bm → D → List D → Hh → Option (R D)
  | .append, .ref n, [y], A => match A[n]? with
    | some (.lst xs) => if xs.length < SZ then some (.ok .non (A.set n (.lst (xs ++ [y])))) else none
    | _ => none
  | .remove, .ref n, [.int k], A => match A[n]? with
    | some (.lst xs) => match intsOf xs with
      | some ns => match ns.findIdx? (fun m => decide (m = k)) with
        | some j => some (.ok .non (A.set n (.lst (xs.eraseIdx j))))
        | none => none
      | none => none
    | _ => none
  | .pop, .ref n, [], A => match A[n]? with
    | some (.lst xs) => match xs[xs.length - 1]? with
      | some y => some (.ok y (A.set n (.lst xs.dropLast)))
      | none => none
    | _ => none
  | .count, .tup xs, [.int k], A => match intsOf xs with
    | some ns => some (.ok (.int (ns.count k : Nat)) A)
    | none => none
  | _, _, _, _ => none
def zbm (m : Bm) (o : Ev D) (es : Ev (List D)) : Ev D := fun σ => mb (o σ) fun x => mb (es σ) fun xs => bmD m x xs

def wipeD (σ : Sl) : List Nat → Sl
  | [] => σ
  | v :: vs => (wipeD σ vs).set v none
def ztt : Ev Bool := fun _ => ok true
def compL (σ : Sl) (w : Wt) (g : Gv) (c : Ev Bool) (e : Ev D) : List D → List D → Hh → Option (R (List D))
  | [], acc, A => if wOk w A then some (.ok acc A) else none
  | x :: xs, acc, A => if wOk w A then
      match g x σ A with
      | some (.ok σ2 A2) => match c σ2 A2 with
        | some (.ok true A3) => match e σ2 A3 with
          | some (.ok y A4) => if acc.length < SZ then compL σ w g c e xs (acc ++ [y]) A4 else none
          | _ => none
        | some (.ok false A3) => compL σ w g c e xs acc A3
        | _ => none
      | _ => none
    else none
def zcomp (vs : List Nat) (g : Gv) (it : Ev (List D × Wt)) (c : Ev Bool) (e : Ev D) : Ev (List D) := fun σ => mb (it σ) fun p => compL (wipeD σ vs) p.2 g c e p.1 []

def gnm (i : Nat) : Gv := fun d σ A => some (.ok (σ.set i (some d)) A)
def gnil : Gsv := fun ds σ A => match ds with
  | [] => some (.ok σ A)
  | _ => none
def gcons (g : Gv) (gs : Gsv) : Gsv := fun ds σ A => match ds with
  | d :: r => R.andThen (g d σ A) fun σ' A' => gs r σ' A'
  | [] => none
def gtup (n : Nat) (gs : Gsv) : Gv := fun d σ A => match d with
  | .tup xs => if xs.length = n then gs xs σ A else none
  | _ => none
def setD (A : Hh) (o i v : D) : Option Hh := match o, i with
  | .ref n, .int k => match A[n]? with
    | some (.lst xs) => match ixN xs.length k with
      | some j => some (A.set n (.lst (xs.set j v)))
      | none => none
    | _ => none
  | _, _ => none
def gsub (o i : Ev D) : Gv := fun d σ => mb (o σ) fun x => mb (i σ) fun y A => (setD A x y d).map fun A' => .ok σ A'

def RS.andThen : Option RS → Sv → Option RS
  | some (.nx σ A), t => t σ A
  | r, _ => r
def RS.of {α : Type} (σ : Sl) : Option (R α) → (α → Hh → Option RS) → Option RS
  | some (.ok a A), f => f a A
  | some (.ex x A), _ => some (.ex x σ A)
  | none, _ => none
def snil : Sv := fun σ A => some (.nx σ A)
def sseq (s t : Sv) : Sv := fun σ A => RS.andThen (s σ A) t
def sexp (e : Ev D) : Sv := fun σ A => RS.of σ (e σ A) fun _ A' => some (.nx σ A')
def sasg (g : Gv) (e : Ev D) : Sv := fun σ A => RS.of σ (e σ A) fun d A1 => match g d σ A1 with
  | some (.ok σ' A2) => some (.nx σ' A2)
  | _ => none
def spar (i j : Nat) (es : Ev (List D)) : Sv := fun σ A => RS.of σ (es σ A) fun ds A1 => match ds with
  | [d, e] => some (.nx ((σ.set i (some d)).set j (some e)) A1)
  | _ => none
def sret (e : Ev D) : Sv := fun σ A => RS.of σ (e σ A) fun d A1 => some (.rt d A1)
def sif (c : Ev Bool) (a b : Sv) : Sv := fun σ A => RS.of σ (c σ A) fun k A1 => if k = true then a σ A1 else b σ A1
def spass : Sv := fun σ A => some (.nx σ A)
def sbrk : Sv := fun σ A => some (.bk σ A)
def scnt : Sv := fun σ A => some (.ct σ A)
def sbad : Sv := fun _ _ => none
def forL (w : Wt) (g : Gv) (b : Sv) : List D → Sl → Hh → Option RS
  | [], σ, A => if wOk w A then some (.nx σ A) else none
  | x :: xs, σ, A => if wOk w A then match g x σ A with
      | some (.ok σ2 A2) => match b σ2 A2 with
        | some (.nx σ3 A3) => forL w g b xs σ3 A3
        | some (.ct σ3 A3) => forL w g b xs σ3 A3
        | some (.bk σ3 A3) => some (.nx σ3 A3)
        | r => r
      | _ => none
    else none
def sfor (g : Gv) (it : Ev (List D × Wt)) (b : Sv) : Sv := fun σ A => RS.of σ (it σ A) fun p A1 => forL p.2 g b p.1 σ A1
/-- a loop, some turns of it -/
def whileN (c : Ev Bool) (b : Sv) : Nat → Sv
  | 0, _, _ => none
  | n + 1, σ, A => RS.of σ (c σ A) fun k A1 => if k = true then
      match b σ A1 with
      | some (.nx σ2 A2) => whileN c b n σ2 A2
      | some (.ct σ2 A2) => whileN c b n σ2 A2
      | some (.bk σ2 A2) => some (.nx σ2 A2)
      | r => r
    else some (.nx σ A1)
open Classical in
noncomputable def swhile (c : Ev Bool) (b : Sv) : Sv := fun σ A => if h : ∃ n, (whileN c b n σ A).isSome = true then whileN c b h.choose σ A else none

structure Orc where
  call : Nat → List D → M D
structure Fn where
  np : Nat
  n : Nat
  body : Orc → Sv
def zcall (o : Orc) (f : Nat) (es : Ev (List D)) : Ev D := fun σ => mb (es σ) fun xs => o.call f xs
def startD (n : Nat) (ds : List D) : Sl := ds.map some ++ List.replicate (n - ds.length) none
/-- what was made in a call and is named by nothing is dropped -/
def gcOk (A A' : Hh) (d : D) : Bool := D.lo A.length d && decide (A.length ≤ A'.length) &&
  (List.range A.length).all fun i => match A[i]?, A'[i]? with
    | some o, some o' => decide (o = o') || O.lo A.length o'
    | _, _ => false
def gc (A A' : Hh) (d : D) : Hh := if gcOk A A' d then A'.take A.length else A'
def endD (A : Hh) : Option RS → Option (R D)
  | some (.nx _ A') => some (.ok .non (gc A A' .non))
  | some (.rt d A') => some (.ok d (gc A A' d))
  | some (.ex x _ A') => some (.ex x (gc A A' .non))
  | _ => none
def callN (P : List Fn) : Nat → Nat → List D → M D
  | 0, _, _ => fun _ => none
  | k + 1, f, ds => fun A => match P[f]? with
    | some F => if ds.length = F.np then endD A (F.body ⟨callN P k⟩ (startD F.n ds) A) else none
    | none => none
end Z

noncomputable section
set_option maxHeartbeats 2000000
namespace Z
open PySem PySem.Spec PyProof.Rows L2

/-- the object of a new tuple -/
def tpO (us : List Value) : Obj := { cls := .type "tuple", data := .seq us.toArray }
/-- a known tuple without a dict of its own -/
def TpN (o : Obj) : Prop := o.dict = none ∧ o.cls = .type "tuple"
def FzT (K : PySem.W.Frag) (H : Hp) (a : Addr) (vs : List V) : Prop :=
  (∃ o, H a = some (.frz o (.tup vs)) ∧ o.dict = none) ∨
    ∃ (o : Obj) (its : Array Value) (n : Nat), K.lookup a = some o ∧ o.cls = .type "tuple" ∧ o.dict = none ∧ o.data = .seq its n ∧ its.size ≤ sizeLine ∧ Vals vs its.toList
theorem FzT.sq {K : PySem.W.Frag} {H : Hp} {a : Addr} {vs : List V} (h : FzT K H a vs) : SqT K H a vs := by
  rcases h with ⟨o, h, _⟩ | ⟨o, its, n, h1, h2, _, h3⟩
  · exact .inl (.inr ⟨o, h⟩)
  · exact .inr ⟨o, its, n, h1, h2, h3⟩

section
variable {X : Cx} {pins : List (Addr × Obj)} {σ : L2.St} {H : Hp} {s : Shared}
theorem tp_at {h1 : Heap} (us : List Value) : (h1.push (tpO us)).get? h1.objs.size = some (tpO us) := Heap.get?_push_size _ rfl
/-- a tuple was pushed -/
theorem tp_laid {h1 : Heap} {tk : Nat} {xs : List V} {us : List Value} (I : Inv X pins σ H { s with heap := h1, toks := tk }) (r : Vals xs us) (hz : xs.length ≤ sizeLine) :
    Inv X pins σ (upd H h1.objs.size (.frz (tpO us) (.tup xs))) { s with heap := h1.push (tpO us), toks := tk } := by
  have new : ObjOk X.prog X.w (upd H h1.objs.size (.frz (tpO us) (.tup xs))) (h1.push (tpO us)) h1.objs.size (.frz (tpO us) (.tup xs)) :=
    ⟨tp_at us, hz, us, r, _, tp_at us, rfl, _, rfl⟩
  exact Inv.laid (s := { s with heap := h1, toks := tk }) I (fun _ _ e => Heap.get?_push_of_some _ e) (Nat.le_refl _) new
theorem tp_fin {h1 : Heap} {tk : Nat} {xs : List V} {us : List Value} {Q : VK} (I : Inv X pins σ H { s with heap := h1, toks := tk }) (r : Vals xs us) (hz : xs.length ≤ sizeLine)
    (q : ∀ p o, H p = none → o.dict = none → Q (.ref p) (upd H p (.frz o (.tup xs)))) : EP X pins σ Q (.ref h1.objs.size) { s with heap := h1.push (tpO us), toks := tk } :=
  ⟨.ref h1.objs.size, _, tp_laid I r hz, rfl, q _ _ (HOk.fresh (h := h1) I.hok (Nat.le_refl _)) rfl⟩
end

section
variable {X : Cx} {es : List Expr} {t : TA} {pos p : Pos} {e : Expr}
def tTupF (t : TA) : TE := fun σ H Q => t σ H fun xs H1 => xs.length ≤ sizeLine ∧ ∀ p o, H1 p = none → o.dict = none → Q (.ref p) (upd H1 p (.frz o (.tup xs)))
theorem pe_tupF {k : Nat} (h : PA X es t) : PE X (.Tuple es k pos) (tTupF t) := by
  refine ⟨fun pins s σ H Q I hq => wpAny_Tuple_spliced (thn (h.run pos pins s σ H _ I hq) fun us s1 g => ?_)⟩
  obtain ⟨xs, H1, I1, r, z, q⟩ := g
  exact ⟨r.length ▸ z, tp_fin (s := s1) (h1 := s1.heap) (tk := s1.toks) I1 r z q⟩
/-- t + u -/
def rCatF (K : PySem.W.Frag) : R2 := fun x y H Q => ∃ a b xs ys, x = .ref a ∧ y = .ref b ∧ SqT K H a xs ∧ SqT K H b ys ∧ xs.length + ys.length ≤ sizeLine ∧
  (xs = [] → Q (.ref b) H) ∧ (xs ≠ [] → ys = [] → Q (.ref a) H) ∧ (xs ≠ [] → ys ≠ [] → ∀ p o, H p = none → o.dict = none → Q (.ref p) (upd H p (.frz o (.tup (xs ++ ys)))))
theorem op_catF : OpR X (binaryOp .Add) (rCatF X.K) := by
  intro pins s σ H x y v u Q I rx ry ⟨a, b, xs, ys, e1, e2, ha, hb, hz, q0, q1, q2⟩
  subst e1 e2
  cases rx; cases ry
  obtain ⟨its, r1, p1, _⟩ := I.tuple ha
  obtain ⟨jts, r2, p2, _⟩ := I.tuple hb
  by_cases hx : xs = []
  · subst hx
    cases r1
    exact cat_tup0 p1 p2 ⟨.ref _, H, I, rfl, q0 rfl⟩
  · refine HT.cat_tup p1 p2 (fun z => hx (r1.nil_iff.mp z)) (fun z => ⟨.ref _, H, I, rfl, q1 hx (r2.nil_iff.mp z)⟩) (fun z => ?_) (by rw [← r1.length, ← r2.length]; exact hz)
    exact tp_fin (s := s) (h1 := s.heap) (tk := s.toks) I (r1.append r2) (by rw [List.length_append]; exact hz) (q2 hx fun w => z (r2.nil_iff.mpr w))
/-- t[i:j] -/
def rSlF (K : PySem.W.Frag) : V → Option Int → Option Int → Hp → VK → Prop := fun x lo hi H Q => ∃ a xs, x = .ref a ∧ SqT K H a xs ∧
  (HT.sIx xs.length 0 lo = 0 ∧ HT.sIx xs.length xs.length hi = xs.length → Q (.ref a) H) ∧
  (¬ (HT.sIx xs.length 0 lo = 0 ∧ HT.sIx xs.length xs.length hi = xs.length) → ∀ p o, H p = none → o.dict = none → Q (.ref p) (upd H p (.frz o (.tup (cutV xs lo hi)))))
theorem sl_tupF : SlR X (rSlF X.K) := by
  intro pins s σ H x v vl vu lo hi sl Q I rx hs pl pu ⟨a, xs, e1, hx, q1, q2⟩
  subst e1
  cases rx
  obtain ⟨its, r, ht, hz⟩ := I.tuple hx
  have hlen : its.toArray.size = xs.length := by rw [List.size_toArray, r.length]
  refine ⟨"tuple", _, PyProof.Rows.slot_tuple_getitem.lookup, ht.typeIs, ?_⟩
  by_cases hw : HT.sIx xs.length 0 lo = 0 ∧ HT.sIx xs.length xs.length hi = xs.length
  · exact getItem_tuple_whole ht hs pl pu (by rw [hlen]; exact hw) ⟨.ref _, H, I, rfl, q1 hw⟩
  · refine HT.getItem_tuple_cut ht hs pl pu (by rw [hlen]; exact hw) ?_ (by rw [hlen]; exact hz)
    rw [hlen]
    exact tp_fin (s := s) (h1 := s.heap) (tk := s.toks) I ((r.drop _).take _) (Nat.le_trans (cutV_length xs lo hi) hz) (q2 hw)
/-- tuple(x) -/
def rTupF (K : PySem.W.Frag) : List V → Hp → VK → Prop := fun xs H Q => ∃ a ys, xs = [.ref a] ∧ ((SqL K H a ys ∧ ∀ p o, H p = none → o.dict = none → Q (.ref p) (upd H p (.frz o (.tup ys)))) ∨ (SqT K H a ys ∧ Q (.ref a) H))
theorem call_tupF : CallR X (.type "tuple") (rTupF X.K) := by
  intro pins s σ H xs us Q I r ⟨a, ys, e1, h⟩
  subst e1
  obtain ⟨u, rfl, rx⟩ := vals1 r
  cases rx
  rcases h with ⟨hq, q⟩ | ⟨hq, q⟩
  · obtain ⟨its, r', pl, hz⟩ := I.list hq
    have hl := r'.length
    refine call_tuple_list pl.isList (fun h' kp => ?_) (by rw [List.size_toArray]; omega)
    exact tp_fin (s := s) (h1 := h') (tk := s.toks) (I.kept (t' := s.toks) kp) r' hz q
  · obtain ⟨its, r', pl, _⟩ := I.tuple hq
    exact call_tuple_same pl ⟨.ref _, H, I, rfl, q⟩
/-- tuple(range(..)) -/
def tTupRgF (te : L2.St → Hp → (Int → Int → Hp → Prop) → Prop) : TE := fun σ H Q => te σ H fun a b H1 => RgOk a b ∧ ∀ p o, H1 p = none → o.dict = none → Q (.ref p) (upd H1 p (.frz o (.tup (rgV a b))))
theorem pe_tupRgF {te : L2.St → Hp → (Int → Int → Hp → Prop) → Prop} (hc : X.calm = true) (hg : Gl X "tuple") (hm : X.mg "tuple" = none) (he : PRg X e te)
    (na : starEach [e] X.env = (false, eval e X.env) :: starEach [] X.env := by rfl) : PE X (.Call (.Name "tuple" p) [e] [] pos) (tTupRgF te) := by
  refine ⟨fun pins s σ H Q I h => Call_ (ld_blt I hg hm PyProof.Rows.boot_tuple (PyProof.Rows.callWith_type1 (args_cons (thn (he pins s σ H _ I h) fun x s1 g => args_nil ?_) na) na))⟩
  obtain ⟨r, a, b, t, u, v, H1, ex, hr, I1, ⟨b1, b2, b3, b4, b5⟩, q⟩ := g
  subst ex
  refine call_tuple_range (n := (b - a).toNat) (I1.ok.hd hc) hr (small_one b1 b2 b3 b4) (rangeSize_nat a b) b5 fun h' tk acc hk hi => ?_
  have hv := vals_rg hi
  have e1 : acc = acc.toList.toArray := by simp
  have fin := tp_fin (s := s1) (h1 := h') (tk := tk) (Q := Q) (I1.kept hk) hv (by rw [rgV_length, sizeLine_eq]; omega) q
  unfold tpO at fin
  rw [← e1] at fin
  exact fin
/-- divmod(x, y) -/
def rDivF : List V → Hp → VK → Prop := fun xs H Q => ∃ i j : Int, xs = [.int i, .int j] ∧ CDivP i j ∧ ∀ p o, H p = none → o.dict = none → Q (.ref p) (upd H p (.frz o (.tup [.int (i / j), .int (i % j)])))
theorem call_divF : CallR X (.builtin "divmod") rDivF := by
  intro pins s σ H xs us Q I r ⟨i, j, e1, ⟨h1, h2⟩, q⟩
  subst e1
  obtain ⟨u, w', rfl, ⟨t, rfl⟩, ⟨t', rfl⟩⟩ := vals2 r
  refine divmod_int (by omega) ?_ (.inl h2)
  rw [Int.fdiv_eq_ediv_of_nonneg i (by omega), Int.fmod_eq_emod_of_nonneg i (by omega)]
  exact tp_fin (s := s) (h1 := s.heap) (xs := [.int (i / j), .int (i % j)]) (us := [.int (i / j) s.toks, .int (i % j) (s.toks + 1)]) (I.tok _) (.cons ⟨_, rfl⟩ (.cons ⟨_, rfl⟩ .nil)) (by rw [sizeLine_eq, List.length_cons, List.length_cons, List.length_nil]; decide) q
/-- a tuple's method -/
def tyT (K : PySem.W.Frag) (x : V) (H : Hp) : Prop := ∃ a vs, x = .ref a ∧ FzT K H a vs
theorem tyT_ok : ∀ {pins : List (Addr × Obj)} {σ : L2.St} {H : Hp} {s : Shared} {x : V} {v : Value}, Inv X pins σ H s → RelV x v → tyT X.K x H → s.TypeIs v "tuple" ∧ ∀ a, v = .ref a → ∃ ob, s.heap.get? a = some ob ∧ ob.dict = none := by
  intro pins σ H s x v I r ⟨a, vs, e1, h⟩
  subst e1
  cases r
  rcases h with ⟨o, h, hd⟩ | ⟨o, its, n, h1, h2, h3, _⟩
  · obtain ⟨e, _, its, rv, o2, e2, c2, _⟩ := I.hok a _ h
    rw [e] at e2; cases e2
    exact ⟨⟨_, e, c2⟩, fun b z => by cases z; exact ⟨_, e, hd⟩⟩
  · exact ⟨⟨o, I.kIn a o h1, h2⟩, fun b z => by cases z; exact ⟨o, I.kIn _ o h1, h3⟩⟩
/-- t * k -/
theorem tuple_mul1 (l : Addr) (items : Array Value) (n : Nat) (dd : Option Addr) (sl : Array (Option Value)) (u : Tok) :
    Meets (Builtin.«tuple.__mul__» ⟨[.ref l, .int 1 u], []⟩) (fun _ R s => s.heap.get? l = some { cls := .type "tuple", dict := dd, data := .seq items n, slots := sl } ∧ R (.ok (.ret (Value.ref l))) s) :=
  .of_wp fun prog w A R s h => by
    obtain ⟨hp, g, d, tk, os⟩ := s
    obtain ⟨hl, h⟩ := h
    have f1 := AutoSeq1.idx_int
    have c0 : (decide ((1 : Int) < -(2 ^ 63)) || decide ((1 : Int) ≥ 2 ^ 63)) = false := by decide
    have c1 : (items.isEmpty || (1 : Int) == 1) = true := by simp
    wp_walk using AutoSeq1.wpAny_loadPart' hl
    repeat (first
      | (refine wpAny_ite_false (decide_eq_false (by rw [c0]; exact Bool.false_ne_true)) ?_; wp_walk using AutoSeq1.wpAny_loadPart' hl)
      | (refine wpAny_ite_true (decide_eq_true c1) ?_; wp_walk using AutoSeq1.wpAny_loadPart' hl))
    exact ⟨_, rfl, h⟩
def rRepF (K : PySem.W.Frag) : R2 := fun x y H Q => ∃ l k xs, x = .ref l ∧ y = .int k ∧ SqT K H l xs ∧ ((k = 1 ∧ Q (.ref l) H) ∨ (xs ≠ [] ∧ 2 ≤ k ∧ k ≤ 1000 ∧ xs.length ≤ 1000 ∧ ∀ p o, H p = none → o.dict = none → Q (.ref p) (upd H p (.frz o (.tup (List.replicate k.toNat xs).flatten)))))
theorem op_repF : OpR X (binaryOp .Mult) (rRepF X.K) := by
  intro pins s σ H x y v u Q I rx ry h
  obtain ⟨l, k, xs, rfl, rfl, hT, h⟩ := h
  cases rx
  obtain ⟨t, rfl⟩ := ry
  obtain ⟨its, r, ⟨⟨cls, dd, data, sl⟩, ho, hc, n, hd⟩, hs⟩ := I.tuple hT
  simp only at hc hd
  subst hc hd
  rcases h with ⟨rfl, q⟩ | ⟨hne, h1, h2, hz, q⟩
  · exact wpAny_binaryOp_repeat_ref (T := "tuple") (U := "int") (by decide) ⟨_, ho, rfl⟩ (fun s' => typeIs_int s' 1 t) noFill_tuple_mul F.fills_int_mul F.slot_int_rmul repeat_tuple F.slot_int_index.lookup
      (call_meets F.slot_int_rmul (typeIs_int s 1 t) F.entry_int_rmul (F.args_int_rmul_2 _ _) (int_rmul_tuple 1 t l its.toArray n dd sl)
        ⟨ho, rfl, ⟨_, ho, rfl⟩, call_meets F.slot_tuple_mul ⟨_, ho, rfl⟩ F.entry_tuple_mul (F.args_tuple_mul_2 _ _) (tuple_mul1 l its.toArray n dd sl t) ⟨ho, ⟨.ref l, H, I, rfl, q⟩⟩⟩)
  have hle : its.length = xs.length := r.length.symm
  have hn : its ≠ [] := fun e => hne (by
    rw [e] at hle
    exact List.eq_nil_of_length_eq_zero hle.symm)
  have hi : its.toArray.isEmpty = false := by
    cases its with
    | nil => exact absurd rfl hn
    | cons a b => rfl
  have hsz0 : its.toArray.size = xs.length := by rw [List.size_toArray, hle]
  have hm : ((its.toArray.size : Nat) : Int) * k ≤ 1000000 := by
    rw [hsz0]
    have a1 : ((xs.length : Nat) : Int) * k ≤ 1000 * k := Int.mul_le_mul_of_nonneg_right (by omega) (by omega)
    omega
  have flen : (List.replicate k.toNat its).flatten.length ≤ sizeLine := by
    rw [PyProof.Rows.lm_len_rep_flat, hle, sizeLine_eq]
    have a1 : k.toNat * xs.length ≤ 1000 * 1000 := Nat.mul_le_mul (by omega) hz
    omega
  have c0 : (decide (k < -(2 ^ 63)) || decide (k ≥ 2 ^ 63)) = false := by
    rw [decide_eq_false (by omega), decide_eq_false (by omega)] <;> rfl
  have c1 : (its.toArray.isEmpty || k == 1) = false := by
    rw [hi, Bool.false_or]
    exact beq_eq_false_iff_ne.mpr (by omega)
  have c2 : (decide (k ≤ 0) || its.toArray.isEmpty) = false := by
    rw [hi, Bool.or_false]
    exact decide_eq_false (by omega)
  have c4 : Builtin.Tuple.tupleTooMany (((its.toArray.size : Nat) : Int) * k) = false := by
    unfold Builtin.Tuple.tupleTooMany
    rw [sizeLine_eq]
    exact decide_eq_false (by omega)
  refine wpAny_binaryOp_repeat_ref (T := "tuple") (U := "int") (by decide) ⟨_, ho, rfl⟩ (fun s' => typeIs_int s' k t) noFill_tuple_mul F.fills_int_mul F.slot_int_rmul repeat_tuple F.slot_int_index.lookup
    (call_meets F.slot_int_rmul (typeIs_int s k t) F.entry_int_rmul (F.args_int_rmul_2 _ _) (int_rmul_tuple k t l its.toArray n dd sl)
      ⟨ho, rfl, ⟨_, ho, rfl⟩, call_meets F.slot_tuple_mul ⟨_, ho, rfl⟩ F.entry_tuple_mul (F.args_tuple_mul_2 _ _) (tuple_mulW l its.toArray n dd sl k t c0 c1 c2 (by omega) c4 (by rw [size_rep, List.size_toArray]; exact flen)) ⟨ho, ?_⟩⟩)
  rw [size_rep]
  exact tp_fin (s := s) (h1 := s.heap) (tk := s.toks) I (r.rep k.toNat) (by rw [PyProof.Rows.lm_len_rep_flat, sizeLine_eq]; have a1 : k.toNat * xs.length ≤ 1000 * 1000 := Nat.mul_le_mul (by omega) hz; omega) q
end
end Z

noncomputable section
namespace Z
open PySem PySem.Spec PyProof.Rows L2

/-- what is fixed: the written part, the own classes, the exceptions -/
structure Cn where
  K : PySem.W.Frag
  cA : Nat → Addr
  eA : Nat → Addr
  P : Program
  w : World

/-- a list that never changes -/
def FzL (K : PySem.W.Frag) (H : Hp) (a : Addr) (vs : List V) : Prop :=
  (∃ o, H a = some (.frz o (.lst vs))) ∨
    ∃ (o : Obj) (its : Array Value) (n : Nat), K.lookup a = some o ∧ o.cls = .type "list" ∧ o.dict = none ∧ o.data = .seq its n ∧ its.size ≤ sizeLine ∧ Vals vs its.toList
theorem FzL.sq {K : PySem.W.Frag} {H : Hp} {a : Addr} {vs : List V} (h : FzL K H a vs) : SqL K H a vs := by
  rcases h with ⟨o, h⟩ | h
  · exact .inl (.inr ⟨o, h⟩)
  · exact .inr h

mutual
inductive Rv (c : Cn) (ρ : List Addr) (H : Hp) : D → V → Prop where
  | non : Rv c ρ H .non .non
  | bl (b : Bool) : Rv c ρ H (.bl b) (.bl b)
  | int (i : Int) : Rv c ρ H (.int i) (.int i)
  | str (x : Str) : Rv c ρ H (.str x) (.str x)
  | tup {a : Addr} {xs : List D} {vs : List V} : FzT c.K H a vs → Rvs c ρ H xs vs → Rv c ρ H (.tup xs) (.ref a)
  | lst {a : Addr} {xs : List D} {vs : List V} : FzL c.K H a vs → Rvs c ρ H xs vs → Rv c ρ H (.lst xs) (.ref a)
  | ref {n : Nat} {a : Addr} : ρ[n]? = some a → Rv c ρ H (.ref n) (.ref a)
  | exc {n : Nat} {a : Addr} {o : Obj} {u : HO} : H a = some (.frz o u) → (o.cls = .ref (c.eA n) ∧ o.dict = none ∧ ∃ vs, o.data = .fields vs) → Rv c ρ H (.exc n) (.ref a)
  | emp {a : Addr} {o : Obj} : H a = some (.frz o (.dK [])) → o.dict = none → Rv c ρ H .emp (.ref a)
inductive Rvs (c : Cn) (ρ : List Addr) (H : Hp) : List D → List V → Prop where
  | nil : Rvs c ρ H [] []
  | cons {d : D} {ds : List D} {v : V} {vs : List V} : Rv c ρ H d v → Rvs c ρ H ds vs → Rvs c ρ H (d :: ds) (v :: vs)
end

section
variable {c : Cn} {ρ ρ' : List Addr} {H H' : Hp}
theorem Rvs.length : ∀ {ds : List D} {vs : List V}, Rvs c ρ H ds vs → ds.length = vs.length
  | _, _, .nil => rfl
  | _, _, .cons _ t => by rw [List.length_cons, List.length_cons, Rvs.length t]
theorem Rvs.get : ∀ {ds : List D} {vs : List V} {i : Nat} {d : D}, Rvs c ρ H ds vs → ds[i]? = some d → ∃ v, vs[i]? = some v ∧ Rv c ρ H d v
  | _, _, i, _, .nil, e => by simp at e
  | _, _, 0, d, .cons r _, e => by simp at e; subst e; exact ⟨_, rfl, r⟩
  | _, _, i + 1, d, .cons _ t, e => by
    obtain ⟨v, h1, h2⟩ := Rvs.get (i := i) (d := d) t (by simpa using e)
    exact ⟨v, by simpa using h1, h2⟩
theorem Rvs.at' {ds : List D} {vs : List V} {i : Nat} {v : V} (r : Rvs c ρ H ds vs) (e : vs[i]? = some v) : ∃ d, ds[i]? = some d ∧ Rv c ρ H d v := by
  have hl := r.length
  have hi : i < ds.length := by
    have := (List.getElem?_eq_some_iff.mp e).1
    omega
  obtain ⟨u, h1, h2⟩ := r.get (List.getElem?_eq_getElem hi)
  rw [e] at h1; cases h1
  exact ⟨_, List.getElem?_eq_getElem hi, h2⟩
theorem Rvs.append : ∀ {ds es : List D} {vs ws : List V}, Rvs c ρ H ds vs → Rvs c ρ H es ws → Rvs c ρ H (ds ++ es) (vs ++ ws)
  | _, _, _, _, .nil, s => s
  | _, _, _, _, .cons r t, s => .cons r (Rvs.append t s)
theorem Rvs.take : ∀ {ds : List D} {vs : List V} (n : Nat), Rvs c ρ H ds vs → Rvs c ρ H (ds.take n) (vs.take n)
  | _, _, 0, _ => by rw [List.take_zero, List.take_zero]; exact .nil
  | _, _, _ + 1, .nil => by rw [List.take_nil, List.take_nil]; exact .nil
  | _, _, n + 1, .cons r t => by rw [List.take_succ_cons, List.take_succ_cons]; exact .cons r (Rvs.take n t)
theorem Rvs.drop : ∀ {ds : List D} {vs : List V} (n : Nat), Rvs c ρ H ds vs → Rvs c ρ H (ds.drop n) (vs.drop n)
  | _, _, 0, r => r
  | _, _, _ + 1, .nil => .nil
  | _, _, n + 1, .cons _ t => Rvs.drop n t
theorem Rvs.set {d : D} {v : V} (r : Rv c ρ H d v) : ∀ {ds : List D} {vs : List V} (i : Nat), Rvs c ρ H ds vs → Rvs c ρ H (ds.set i d) (vs.set i v)
  | _, _, _, .nil => .nil
  | _, _, 0, .cons _ t => .cons r t
  | _, _, i + 1, .cons q t => .cons q (Rvs.set r i t)
theorem Rvs.eraseIdx : ∀ {ds : List D} {vs : List V} (i : Nat), Rvs c ρ H ds vs → Rvs c ρ H (ds.eraseIdx i) (vs.eraseIdx i)
  | _, _, _, .nil => .nil
  | _, _, 0, .cons _ t => t
  | _, _, i + 1, .cons q t => .cons q (Rvs.eraseIdx i t)
theorem Rvs.dropLast {ds : List D} {vs : List V} (r : Rvs c ρ H ds vs) : Rvs c ρ H ds.dropLast vs.dropLast := by
  rw [List.dropLast_eq_take, List.dropLast_eq_take, r.length]
  exact r.take _
theorem Rvs.rep {ds : List D} {vs : List V} (r : Rvs c ρ H ds vs) : ∀ k : Nat, Rvs c ρ H (List.replicate k ds).flatten (List.replicate k vs).flatten
  | 0 => .nil
  | k + 1 => by
    rw [List.replicate_succ, List.replicate_succ, List.flatten_cons, List.flatten_cons]
    exact r.append (Rvs.rep r k)
theorem Rvs.bls : ∀ {ds : List D} {vs : List V} {bs : List Bool}, Rvs c ρ H ds vs → blsOf ds = some bs → vs = bs.map V.bl
  | [], _, bs, .nil, e => by simp [blsOf] at e; subst e; rfl
  | d :: ds, _, bs, .cons r t, e => by
    cases d with
    | bl b =>
      cases h : blsOf ds with
      | none => simp [blsOf, h] at e
      | some cs =>
        simp [blsOf, h] at e
        subst e
        cases r
        rw [List.map_cons, Rvs.bls t h]
    | _ => simp [blsOf] at e
theorem Rvs.ints : ∀ {ds : List D} {vs : List V} {ns : List Int}, Rvs c ρ H ds vs → intsOf ds = some ns → vs = ns.map V.int
  | [], _, ns, .nil, e => by simp [intsOf] at e; subst e; rfl
  | d :: ds, _, ns, .cons r t, e => by
    cases d with
    | int b =>
      cases h : intsOf ds with
      | none => simp [intsOf, h] at e
      | some cs =>
        simp [intsOf, h] at e
        subst e
        cases r
        rw [List.map_cons, Rvs.ints t h]
    | _ => simp [intsOf] at e
theorem intsOf_map : ∀ {ds : List D} {ns : List Int}, intsOf ds = some ns → ds = ns.map D.int
  | [], ns, e => by simp [intsOf] at e; subst e; rfl
  | d :: ds, ns, e => by
    cases d with
    | int b =>
      cases h : intsOf ds with
      | none => simp [intsOf, h] at e
      | some cs =>
        simp [intsOf, h] at e
        subst e
        rw [List.map_cons, intsOf_map h]
    | _ => simp [intsOf] at e
theorem intsOf_ints : ∀ ns : List Int, intsOf (ns.map D.int) = some ns
  | [] => rfl
  | n :: ns => by simp [intsOf, intsOf_ints ns]
theorem Rvs.of_ints : ∀ ns : List Int, Rvs c ρ H (ns.map D.int) (ns.map V.int)
  | [] => .nil
  | n :: ns => .cons (.int n) (Rvs.of_ints ns)

theorem FzT.mono (hf : ∀ a o u, H a = some (.frz o u) → H' a = some (.frz o u)) {a : Addr} {xs : List V} (h : FzT c.K H a xs) : FzT c.K H' a xs := by
  rcases h with ⟨o, h, hd⟩ | h
  · exact .inl ⟨o, hf _ _ _ h, hd⟩
  · exact .inr h
theorem FzL.mono (hf : ∀ a o u, H a = some (.frz o u) → H' a = some (.frz o u)) {a : Addr} {xs : List V} (h : FzL c.K H a xs) : FzL c.K H' a xs := by
  rcases h with ⟨o, h⟩ | h
  · exact .inl ⟨o, hf _ _ _ h⟩
  · exact .inr h
mutual
theorem Rv.mono (hr : ρ <+: ρ') (hf : ∀ a o u, H a = some (.frz o u) → H' a = some (.frz o u)) : ∀ {d : D} {v : V}, Rv c ρ H d v → Rv c ρ' H' d v
  | _, _, .non => .non
  | _, _, .bl b => .bl b
  | _, _, .int i => .int i
  | _, _, .str x => .str x
  | _, _, .tup h t => .tup (h.mono hf) (Rvs.mono hr hf t)
  | _, _, .lst h t => .lst (h.mono hf) (Rvs.mono hr hf t)
  | _, _, .ref h => .ref (by
    obtain ⟨t, rfl⟩ := hr
    rw [List.getElem?_append_left (List.getElem?_eq_some_iff.mp h).1]
    exact h)
  | _, _, .exc h e => .exc (hf _ _ _ h) e
  | _, _, .emp h e => .emp (hf _ _ _ h) e
theorem Rvs.mono (hr : ρ <+: ρ') (hf : ∀ a o u, H a = some (.frz o u) → H' a = some (.frz o u)) : ∀ {ds : List D} {vs : List V}, Rvs c ρ H ds vs → Rvs c ρ' H' ds vs
  | _, _, .nil => .nil
  | _, _, .cons r t => .cons (Rv.mono hr hf r) (Rvs.mono hr hf t)
end
end

inductive Rfs (c : Cn) (ρ : List Addr) (H : Hp) : List (Str × D) → List (Str × V) → Prop where
  | nil : Rfs c ρ H [] []
  | cons {x : Str} {d : D} {v : V} {fs : List (Str × D)} {gs : List (Str × V)} : Rv c ρ H d v → Rfs c ρ H fs gs → Rfs c ρ H ((x, d) :: fs) ((x, v) :: gs)
/-- a dict's entries: keys are tuples -/
inductive Rkv (c : Cn) (ρ : List Addr) (H : Hp) : List (List Int × D) → List (List Int × Addr × V) → Prop where
  | nil : Rkv c ρ H [] []
  | cons {k : List Int} {d : D} {ka : Addr} {v : V} {kvs : List (List Int × D)} {ks : List (List Int × Addr × V)} : Rv c ρ H (.tup (k.map .int)) (.ref ka) → Rv c ρ H d v → Rkv c ρ H kvs ks → Rkv c ρ H ((k, d) :: kvs) ((k, ka, v) :: ks)
/-- .. ints or texts -/
inductive Rck (c : Cn) (ρ : List Addr) (H : Hp) : List (Key × D) → List (Key × V) → Prop where
  | nil : Rck c ρ H [] []
  | cons {k : Key} {d : D} {v : V} {kvs : List (Key × D)} {ks : List (Key × V)} : Rv c ρ H d v → Rck c ρ H kvs ks → Rck c ρ H ((k, d) :: kvs) ((k, v) :: ks)
def DctX (P : Program) (w : World) (a : Addr) (xs : List (List Int × Addr × Value)) (h : Heap) : Prop :=
  (xs.map (·.1)).Nodup ∧ (a == sysModules) = false ∧ ∃ o es ep, h.get? a = some o ∧ o.ExactDict ∧ o.data = .dict es ep ∧ es.toList = xs.map (entryOfKey (tupleKind (intKind P w)))
def KvX (ks : List (List Int × Addr × V)) (xs : List (List Int × Addr × Value)) : Prop := Paired (fun (p : List Int × Addr × V) (q : List Int × Addr × Value) => p.1 = q.1 ∧ p.2.1 = q.2.1 ∧ RelV p.2.2 q.2.2) ks xs
/-- a dict whose keys are tuples, as it lies -/
def DctO (P : Program) (w : World) (a : Addr) (ks : List (List Int × Addr × V)) : HO := .ext fun h => ∃ xs, KvX ks xs ∧ DctX P w a xs h
def Ro (c : Cn) (ρ : List Addr) (H : Hp) (a : Addr) : O → HO → Prop
  | .lst xs, o => ∃ vs, o = .lst vs ∧ Rvs c ρ H xs vs
  | .ins k fs, o => ∃ dx gs, o = .ins (c.cA k) dx gs ∧ Rfs c ρ H fs gs
  | .dct kvs, o => ∃ ks, o = DctO c.P c.w a ks ∧ Rkv c ρ H kvs ks
  | .dck kvs, o => ∃ gs, o = .dK gs ∧ Rck c ρ H kvs gs

/-- the heap of objects, seen -/
structure Rel (c : Cn) (ρ : List Addr) (A : Hh) (H : Hp) : Prop where
  len : ρ.length = A.length
  nd : ρ.Nodup
  obj : ∀ (n : Nat) (o : O) (a : Addr), A[n]? = some o → ρ[n]? = some a → ∃ ho, H a = some ho ∧ Ro c ρ H a o ho
/-- what stays -/
structure St' (ρ : List Addr) (H : Hp) (ρ' : List Addr) (H' : Hp) : Prop where
  pre : ρ <+: ρ'
  new : ∀ b ∈ ρ', b ∉ ρ → H b = none
  fr : ∀ b o, H b = some o → b ∉ ρ → H' b = some o

section
variable {c : Cn} {ρ ρ' ρ1 ρ2 : List Addr} {A A' : Hh} {H H' H1 H2 : Hp}
theorem Rfs.mono (hr : ρ <+: ρ') (hf : ∀ a o u, H a = some (.frz o u) → H' a = some (.frz o u)) : ∀ {fs : List (Str × D)} {gs : List (Str × V)}, Rfs c ρ H fs gs → Rfs c ρ' H' fs gs
  | _, _, .nil => .nil
  | _, _, .cons r t => .cons (r.mono hr hf) (Rfs.mono hr hf t)
theorem Rkv.mono (hr : ρ <+: ρ') (hf : ∀ a o u, H a = some (.frz o u) → H' a = some (.frz o u)) : ∀ {fs : List (List Int × D)} {gs : List (List Int × Addr × V)}, Rkv c ρ H fs gs → Rkv c ρ' H' fs gs
  | _, _, .nil => .nil
  | _, _, .cons r1 r2 t => .cons (r1.mono hr hf) (r2.mono hr hf) (Rkv.mono hr hf t)
theorem Rck.mono (hr : ρ <+: ρ') (hf : ∀ a o u, H a = some (.frz o u) → H' a = some (.frz o u)) : ∀ {fs : List (Key × D)} {gs : List (Key × V)}, Rck c ρ H fs gs → Rck c ρ' H' fs gs
  | _, _, .nil => .nil
  | _, _, .cons r t => .cons (r.mono hr hf) (Rck.mono hr hf t)
theorem Ro.mono (hr : ρ <+: ρ') (hf : ∀ a o u, H a = some (.frz o u) → H' a = some (.frz o u)) {a : Addr} : ∀ {o : O} {ho : HO}, Ro c ρ H a o ho → Ro c ρ' H' a o ho
  | .lst _, _, ⟨vs, e, r⟩ => ⟨vs, e, r.mono hr hf⟩
  | .ins _ _, _, ⟨dx, gs, e, r⟩ => ⟨dx, gs, e, r.mono hr hf⟩
  | .dct _, _, ⟨ks, e, r⟩ => ⟨ks, e, r.mono hr hf⟩
  | .dck _, _, ⟨ks, e, r⟩ => ⟨ks, e, r.mono hr hf⟩
/-- an object that changes is no tuple, no frozen thing -/
def Chg : HO → Prop
  | .lst _ => True
  | .ins _ _ _ => True
  | .ext _ => True
  | .dK _ => True
  | _ => False
theorem Ro.chg {a : Addr} : ∀ {o : O} {ho : HO}, Ro c ρ H a o ho → Chg ho
  | .lst _, _, ⟨_, e, _⟩ => by subst e; trivial
  | .ins _ _, _, ⟨_, _, e, _⟩ => by subst e; trivial
  | .dct _, _, ⟨_, e, _⟩ => by subst e; trivial
  | .dck _, _, ⟨_, e, _⟩ => by subst e; trivial
theorem Rel.at (R : Rel c ρ A H) {a : Addr} (h : a ∈ ρ) : ∃ ho, H a = some ho ∧ Chg ho := by
  obtain ⟨n, hn, e⟩ := List.mem_iff_getElem.mp h
  have hA : n < A.length := by rw [← R.len]; exact hn
  obtain ⟨ho, h1, h2⟩ := R.obj n _ a (List.getElem?_eq_getElem hA) (by rw [List.getElem?_eq_getElem hn, e])
  exact ⟨ho, h1, h2.chg⟩
theorem Rel.notTup (R : Rel c ρ A H) {a : Addr} {xs : List V} (h : Rd H a (.tup xs)) : a ∉ ρ := fun m => by
  obtain ⟨ho, h1, h2⟩ := R.at m
  rcases h with h | ⟨o, h⟩
  · rw [h1] at h; cases h; exact h2
  · rw [h1] at h; cases h; exact h2
theorem Rel.tups (R : Rel c ρ A H) (fr : ∀ b o, H b = some o → b ∉ ρ → H' b = some o) : ∀ a xs, SqT c.K H a xs → SqT c.K H' a xs := fun a xs h => by
  rcases h with h | h
  · have hn := R.notTup h
    rcases h with h | ⟨o, h⟩
    · exact .inl (.inl (fr a _ h hn))
    · exact .inl (.inr ⟨o, fr a _ h hn⟩)
  · exact .inr h
theorem Rel.frz (R : Rel c ρ A H) (fr : ∀ b o, H b = some o → b ∉ ρ → H' b = some o) : ∀ a o u, H a = some (.frz o u) → H' a = some (.frz o u) := fun a o u h => fr a _ h fun m => by
  obtain ⟨ho, h1, h2⟩ := R.at m
  rw [h1] at h; cases h; exact h2
theorem Rel.fzt (R : Rel c ρ A H) (fr : ∀ b o, H b = some o → b ∉ ρ → H' b = some o) : ∀ a xs, FzT c.K H a xs → FzT c.K H' a xs := fun a xs h => h.mono (R.frz fr)
theorem Rel.fzs (R : Rel c ρ A H) (fr : ∀ b o, H b = some o → b ∉ ρ → H' b = some o) : ∀ a xs, FzL c.K H a xs → FzL c.K H' a xs := fun a xs h => h.mono (R.frz fr)
theorem St'.refl : St' ρ H ρ H := ⟨List.prefix_refl _, fun b h n => absurd h n, fun _ _ h _ => h⟩
theorem St'.trans (a : St' ρ H ρ1 H1) (b : St' ρ1 H1 ρ2 H2) : St' ρ H ρ2 H2 := by
  have key : ∀ x o, H x = some o → x ∉ ρ → x ∉ ρ1 := fun x o h n m => by
    have := a.new x m n
    rw [h] at this; cases this
  refine ⟨a.pre.trans b.pre, fun x h n => ?_, fun x o h n => b.fr x o (a.fr x o h n) (key x o h n)⟩
  by_cases m : x ∈ ρ1
  · exact a.new x m n
  · cases e : H x with
    | none => rfl
    | some o =>
      have h1 := a.fr x o e n
      have h2 := b.new x h m
      rw [h1] at h2; cases h2
theorem Rv.to (R : Rel c ρ A H) (s : St' ρ H ρ' H') {d : D} {v : V} (r : Rv c ρ H d v) : Rv c ρ' H' d v := r.mono s.pre (R.frz s.fr)
theorem Rvs.to (R : Rel c ρ A H) (s : St' ρ H ρ' H') {d : List D} {v : List V} (r : Rvs c ρ H d v) : Rvs c ρ' H' d v := r.mono s.pre (R.frz s.fr)

/-- a thing is laid that is none of the objects -/
theorem Rel.laid (R : Rel c ρ A H) {p : Addr} {ho : HO} (n : H p = none) : Rel c ρ A (upd H p ho) ∧ St' ρ H ρ (upd H p ho) ∧ p ∉ ρ := by
  have hp : p ∉ ρ := fun m => by
    obtain ⟨ho, h1, _⟩ := R.at m
    rw [n] at h1; cases h1
  have fr : ∀ b o, H b = some o → upd H p ho b = some o := fun b o h => by rw [upd_ne (ne_of_none h n)]; exact h
  have s : St' ρ H ρ (upd H p ho) := ⟨List.prefix_refl _, fun b h n => absurd h n, fun b o h _ => fr b o h⟩
  refine ⟨⟨R.len, R.nd, fun k o a h1 h2 => ?_⟩, s, hp⟩
  obtain ⟨hh, h3, h4⟩ := R.obj k o a h1 h2
  exact ⟨hh, fr a _ h3, h4.mono s.pre (R.frz s.fr)⟩
/-- a new object -/
theorem Rel.made (R : Rel c ρ A H) {p : Addr} {ho : HO} {o : O} (n : H p = none) (r : Ro c ρ H p o ho) :
    Rel c (ρ ++ [p]) (A ++ [o]) (upd H p ho) ∧ St' ρ H (ρ ++ [p]) (upd H p ho) := by
  obtain ⟨R1, s, hp⟩ := R.laid (ho := ho) n
  have pre : ρ <+: ρ ++ [p] := List.prefix_append _ _
  have mono : ∀ {a : Addr} {o : O} {ho' : HO}, Ro c ρ H a o ho' → Ro c (ρ ++ [p]) (upd H p ho) a o ho' := fun h => h.mono pre (R.frz s.fr)
  refine ⟨⟨by rw [List.length_append, List.length_append, R.len]; rfl, ?_, fun k u a h1 h2 => ?_⟩, pre, fun b h m => ?_, s.fr⟩
  · refine List.nodup_append.mpr ⟨R.nd, by simp, fun a ha b hb e => ?_⟩
    simp at hb
    subst hb e
    exact hp ha
  · by_cases hk : k < A.length
    · rw [List.getElem?_append_left hk] at h1
      rw [List.getElem?_append_left (by rw [R.len]; exact hk)] at h2
      obtain ⟨hh, h3, h4⟩ := R.obj k u a h1 h2
      exact ⟨hh, by rw [upd_ne (ne_of_none h3 n)]; exact h3, mono h4⟩
    · have e : k = A.length := by
        have := (List.getElem?_eq_some_iff.mp h1).1
        rw [List.length_append, List.length_singleton] at this
        omega
      subst e
      rw [List.getElem?_append_right (Nat.le_refl _), Nat.sub_self] at h1
      rw [List.getElem?_append_right (by rw [R.len]; exact Nat.le_refl _), R.len, Nat.sub_self] at h2
      simp at h1 h2
      subst h1 h2
      exact ⟨ho, upd_same, mono r⟩
  · rcases List.mem_append.mp h with h | h
    · exact absurd h m
    · simp at h
      rw [h]; exact n
/-- an object changes -/
theorem Rel.wrote (R : Rel c ρ A H) {n : Nat} {a : Addr} {ho : HO} {o : O} (ha : ρ[n]? = some a) (r : Ro c ρ H a o ho) :
    Rel c ρ (A.set n o) (upd H a ho) ∧ St' ρ H ρ (upd H a ho) := by
  have am : a ∈ ρ := List.mem_of_getElem? ha
  have fr : ∀ b o, H b = some o → b ∉ ρ → upd H a ho b = some o := fun b o h m => by
    rw [upd_ne (fun e => m (by rw [e]; exact am))]
    exact h
  have s : St' ρ H ρ (upd H a ho) := ⟨List.prefix_refl _, fun b h n => absurd h n, fr⟩
  refine ⟨⟨by rw [List.length_set, R.len], R.nd, fun k u b h1 h2 => ?_⟩, s⟩
  by_cases hk : n = k
  · subst hk
    rw [ha] at h2; cases h2
    have hl : n < A.length := by rw [← R.len]; exact (List.getElem?_eq_some_iff.mp ha).1
    rw [List.getElem?_set_self hl] at h1; cases h1
    exact ⟨ho, upd_same, r.mono s.pre (R.frz s.fr)⟩
  · rw [List.getElem?_set_ne hk] at h1
    obtain ⟨hh, h3, h4⟩ := R.obj k u b h1 h2
    have hb : b ≠ a := fun e => by
      subst e
      exact hk ((List.getElem?_inj (List.getElem?_eq_some_iff.mp ha).1 R.nd).mp (ha.trans h2.symm))
    exact ⟨hh, by rw [upd_ne hb]; exact h3, h4.mono s.pre (R.frz s.fr)⟩
theorem Rel.ref (R : Rel c ρ A H) {n : Nat} {a : Addr} {o : O} (hA : A[n]? = some o) (r : Rv c ρ H (.ref n) (.ref a)) : ρ[n]? = some a ∧ ∃ ho, H a = some ho ∧ Ro c ρ H a o ho := by
  cases r with
  | ref h => exact ⟨h, R.obj n o a hA h⟩
theorem Rel.lst (R : Rel c ρ A H) {n : Nat} {v : V} {xs : List D} (hA : A[n]? = some (.lst xs)) (r : Rv c ρ H (.ref n) v) : ∃ a vs, v = .ref a ∧ ρ[n]? = some a ∧ H a = some (.lst vs) ∧ Rvs c ρ H xs vs := by
  cases r with
  | ref h =>
    obtain ⟨ho, h1, vs, rfl, h3⟩ := R.obj n _ _ hA h
    exact ⟨_, vs, rfl, h, h1, h3⟩
end

structure Rsl (c : Cn) (ρ : List Addr) (H : Hp) (σd : Sl) (σ : L2.St) : Prop where
  len : σd.length = σ.length
  get : ∀ (i : Nat) (d : D), σd[i]? = some (some d) → ∃ v, σ[i]? = some (some v) ∧ Rv c ρ H d v
section
variable {c : Cn} {ρ ρ' : List Addr} {A : Hh} {H H' : Hp} {σd : Sl} {σ : L2.St}
theorem Rsl.to (S : Rsl c ρ H σd σ) (R : Rel c ρ A H) (s : St' ρ H ρ' H') : Rsl c ρ' H' σd σ := ⟨S.len, fun i d h => by
  obtain ⟨v, h1, h2⟩ := S.get i d h
  exact ⟨v, h1, h2.to R s⟩⟩
theorem Rsl.set (S : Rsl c ρ H σd σ) {d : D} {v : V} (r : Rv c ρ H d v) (i : Nat) : Rsl c ρ H (σd.set i (some d)) (σ.set i (some v)) := by
  refine ⟨by rw [List.length_set, List.length_set, S.len], fun j e h => ?_⟩
  by_cases hij : i = j
  · subst hij
    by_cases hl : i < σd.length
    · rw [List.getElem?_set_self hl] at h
      cases h
      exact ⟨v, by rw [List.getElem?_set_self (by rw [← S.len]; exact hl)], r⟩
    · rw [List.getElem?_eq_none (by rw [List.length_set]; omega)] at h
      cases h
  · rw [List.getElem?_set_ne hij] at h
    rw [List.getElem?_set_ne hij]
    exact S.get j e h
theorem Rsl.setNone (S : Rsl c ρ H σd σ) (i : Nat) : Rsl c ρ H (σd.set i none) (σ.set i none) := by
  refine ⟨by rw [List.length_set, List.length_set, S.len], fun j e h => ?_⟩
  by_cases hij : i = j
  · subst hij
    by_cases hl : i < σd.length
    · rw [List.getElem?_set_self hl] at h
      cases h
    · rw [List.getElem?_eq_none (by rw [List.length_set]; omega)] at h
      cases h
  · rw [List.getElem?_set_ne hij] at h
    rw [List.getElem?_set_ne hij]
    exact S.get j e h
theorem Rsl.wipe (S : Rsl c ρ H σd σ) : ∀ vs : List Nat, Rsl c ρ H (wipeD σd vs) (L2.wipe σ vs)
  | [] => S
  | v :: vs => (Rsl.wipe S vs).setNone v
end

/-- how an exception lies -/
def IsX (c : Cn) (x : Exn) (cls : Value) (d : Option Addr) : Prop := cls = .ref (c.eA x.c) ∧ d = none
/-- a result leads on -/
def Ld (c : Cn) (ρ : List Addr) (H : Hp) (σ : L2.St) (W : WX) {α : Type} (r : Option (R α)) (P : α → List Addr → Hh → Hp → Prop) : Prop :=
  match r with
  | none => False
  | some (.ok a A') => ∀ ρ' H', Rel c ρ' A' H' → St' ρ H ρ' H' → P a ρ' A' H'
  | some (.ex x A') => ∀ ρ' H', Rel c ρ' A' H' → St' ρ H ρ' H' → ∀ cls d, IsX c x cls d → W cls d σ H'
section
variable {c : Cn} {ρ ρ' : List Addr} {A : Hh} {H H' : Hp} {σ : L2.St} {W : WX}
theorem Ld.bind {α β : Type} {m : Option (R α)} {f : α → Hh → Option (R β)} {P : β → List Addr → Hh → Hp → Prop} (h : Ld c ρ H σ W (R.andThen m f) P) :
    Ld c ρ H σ W m fun a ρ1 A1 H1 => Ld c ρ1 H1 σ W (f a A1) P := by
  match m, h with
  | none, h => exact h
  | some (.ex x A'), h => exact h
  | some (.ok a A1), h =>
    intro ρ1 H1 R1 s1
    have h2 : Ld c ρ H σ W (f a A1) P := h
    revert h2
    cases f a A1 with
    | none => exact fun h2 => h2
    | some r =>
      cases r with
      | ok b A2 => exact fun h2 ρ2 H2 R2 s2 => h2 ρ2 H2 R2 (s1.trans s2)
      | ex x A2 => exact fun h2 ρ2 H2 R2 s2 => h2 ρ2 H2 R2 (s1.trans s2)
theorem Ld.imp {α : Type} {m : Option (R α)} {P P' : α → List Addr → Hh → Hp → Prop} (h : Ld c ρ H σ W m P) (i : ∀ a ρ' A' H', Rel c ρ' A' H' → St' ρ H ρ' H' → P a ρ' A' H' → P' a ρ' A' H') : Ld c ρ H σ W m P' := by
  match m, h with
  | none, h => exact h
  | some (.ex x A'), h => exact h
  | some (.ok a A'), h => exact fun ρ' H' R' s' => i a ρ' A' H' R' s' (h ρ' H' R' s')
theorem Ld.no {α : Type} {P : α → List Addr → Hh → Hp → Prop} (h : Ld c ρ H σ W (none : Option (R α)) P) : False := h
theorem Ld.ok {α : Type} {a : α} {P : α → List Addr → Hh → Hp → Prop} (R1 : Rel c ρ A H) (h : Ld c ρ H σ W (some (.ok a A)) P) : P a ρ A H := h ρ H R1 .refl
end

/-- a value, or a tuple that is only looked into -/
def Rw (c : Cn) (ρ : List Addr) (H : Hp) (d : D) (v : V) : Prop := Rv c ρ H d v ∨ ∃ a xs vs, d = .tup xs ∧ v = .ref a ∧ SqT c.K H a vs ∧ Rvs c ρ H xs vs
theorem Rw.tup {c : Cn} {ρ : List Addr} {H : Hp} {xs : List D} {v : V} (r : Rw c ρ H (.tup xs) v) : ∃ a vs, v = .ref a ∧ SqT c.K H a vs ∧ Rvs c ρ H xs vs := by
  rcases r with r | ⟨a, ys, vs, e1, e2, h, t⟩
  · cases r with
    | tup h t => exact ⟨_, _, rfl, h.sq, t⟩
  · cases e1
    exact ⟨a, vs, e2, h, t⟩
/-- an expression's reading by its meaning -/
def tE (c : Cn) (W : WX) (f : Ev D) : TE := fun σ H Q => ∃ ρ A σd, Rel c ρ A H ∧ Rsl c ρ H σd σ ∧ Ld c ρ H σ W (f σd A) fun d ρ' _ H' => ∀ v, Rv c ρ' H' d v → Q v H'
def tT (c : Cn) (W : WX) (f : Ev Bool) : TT := fun σ H Q => ∃ ρ A σd, Rel c ρ A H ∧ Rsl c ρ H σd σ ∧ Ld c ρ H σ W (f σd A) fun b _ _ H' => Q b H'
def tA (c : Cn) (W : WX) (f : Ev (List D)) : TA := fun σ H Q => ∃ ρ A σd, Rel c ρ A H ∧ Rsl c ρ H σd σ ∧ Ld c ρ H σ W (f σd A) fun ds ρ' _ H' => ∀ vs, Rvs c ρ' H' ds vs → Q vs H'
def tP (c : Cn) (W : WX) (f : Ev (Option Int)) : TO := fun σ H Q => ∃ ρ A σd, Rel c ρ A H ∧ Rsl c ρ H σd σ ∧ Ld c ρ H σ W (f σd A) fun o _ _ H' => Q o H'
/-- a row of things stands at a: a tuple; a list that never changes; one that none of the objects is -/
def Stb (c : Cn) (ρ : List Addr) (H : Hp) (a : Addr) (vs : List V) : Prop := FzT c.K H a vs ∨ FzL c.K H a vs ∨ (H a = some (.lst vs) ∧ a ∉ ρ)
/-- .. or an object's, watched -/
def Stw (c : Cn) (ρ : List Addr) (H : Hp) (a : Addr) (vs : List V) (xs : List D) (w : Wt) : Prop := (Stb c ρ H a vs ∧ w = []) ∨ ∃ n, ρ[n]? = some a ∧ H a = some (.lst vs) ∧ w = [(n, xs)]
def tQ (c : Cn) (W : WX) (f : Ev (List D)) : TE := fun σ H Q => ∃ ρ A σd, Rel c ρ A H ∧ Rsl c ρ H σd σ ∧ Ld c ρ H σ W (f σd A) fun ds ρ' _ H' => ∀ a vs, Stb c ρ' H' a vs → Rvs c ρ' H' ds vs → Q (.ref a) H'
/-- a new list alone -/
def tN (c : Cn) (W : WX) (f : Ev (List D)) : TE := fun σ H Q => ∃ ρ A σd, Rel c ρ A H ∧ Rsl c ρ H σd σ ∧ Ld c ρ H σ W (f σd A) fun ds ρ' _ H' => ∀ a vs, H' a = none → Rvs c ρ' H' ds vs → Q (.ref a) (upd H' a (.lst vs))
def tU (c : Cn) (W : WX) (f : Ev (List D × Wt)) : TE := fun σ H Q => ∃ ρ A σd, Rel c ρ A H ∧ Rsl c ρ H σd σ ∧ Ld c ρ H σ W (f σd A) fun p ρ' _ H' => ∀ a vs, Stw c ρ' H' a vs p.1 p.2 → Rvs c ρ' H' p.1 vs → Q (.ref a) H'
end Z

noncomputable section
namespace Z
open PySem PySem.Spec PyProof.Rows L2

theorem _root_.L2.PE.zsel {X : Cx} {e : Expr} {t : TE} (h : ∀ σ H Q, t σ H Q → ∃ t', PE X e t' ∧ t' σ H Q) : PE X e t :=
  ⟨fun pins s σ H Q I w => let ⟨_, p, q⟩ := h σ H Q w; p.run pins s σ H Q I q⟩
theorem _root_.L2.PE.zm {X : Cx} {e : Expr} {t t' : TE} (p : PE X e t') (h : ∀ σ H Q, t σ H Q → t' σ H Q) : PE X e t := ⟨fun pins s σ H Q I w => p.run pins s σ H Q I (h σ H Q w)⟩
theorem _root_.L2.PT.zm {X : Cx} {e : Expr} {t t' : TT} (p : PT X e t') (h : ∀ σ H Q, t σ H Q → t' σ H Q) : PT X e t := ⟨fun pins s σ H Q I w => p.run pins s σ H Q I (h σ H Q w)⟩
theorem _root_.L2.PW.zm {X : Cx} {e : Expr} {t t' : TT} (p : PW X e t') (h : ∀ σ H Q, t σ H Q → t' σ H Q) : PW X e t := ⟨fun wh pins s σ H Q I w => p.run wh pins s σ H Q I (h σ H Q w)⟩
theorem _root_.L2.PA.zm {X : Cx} {e : List Expr} {t t' : TA} (p : PA X e t') (h : ∀ σ H Q, t σ H Q → t' σ H Q) : PA X e t := ⟨fun pos pins s σ H Q I w => p.run pos pins s σ H Q I (h σ H Q w)⟩
theorem _root_.L2.PO.zm {X : Cx} {e : Option Expr} {t t' : TO} (p : PO X e t') (h : ∀ σ H Q, t σ H Q → t' σ H Q) : PO X e t := ⟨fun pins s σ H Q I w => p.run pins s σ H Q I (h σ H Q w)⟩

section
variable {c : Cn} {ρ ρ' : List Addr} {A : Hh} {H H' : Hp} {σd : Sl} {σ : L2.St} {W : WX}
/-- one operand, then more -/
theorem one {β : Type} {fa : Ev D} {k : D → M β} {P : β → List Addr → Hh → Hp → Prop} {Q1 : V → Hp → Prop} (R : Rel c ρ A H) (S : Rsl c ρ H σd σ) (h : Ld c ρ H σ W (mb (fa σd) k A) P)
    (i : ∀ x v ρ1 A1 H1, Rel c ρ1 A1 H1 → St' ρ H ρ1 H1 → Rsl c ρ1 H1 σd σ → Rv c ρ1 H1 x v → Ld c ρ1 H1 σ W (k x A1) P → Q1 v H1) : tE c W fa σ H Q1 :=
  ⟨ρ, A, σd, R, S, (Ld.bind h).imp fun x ρ1 A1 H1 R1 s1 h1 v rv => i x v ρ1 A1 H1 R1 s1 (S.to R s1) rv h1⟩
theorem two {β : Type} {fa fb : Ev D} {k : D → D → M β} {P : β → List Addr → Hh → Hp → Prop} {Q2 : V → V → Hp → Prop} (R : Rel c ρ A H) (S : Rsl c ρ H σd σ) (h : Ld c ρ H σ W (mb (fa σd) (fun x => mb (fb σd) fun y => k x y) A) P)
    (i : ∀ x y v u ρ2 A2 H2, Rel c ρ2 A2 H2 → St' ρ H ρ2 H2 → Rsl c ρ2 H2 σd σ → Rv c ρ2 H2 x v → Rv c ρ2 H2 y u → Ld c ρ2 H2 σ W (k x y A2) P → Q2 v u H2) :
    tE c W fa σ H fun v H1 => tE c W fb σ H1 fun u H2 => Q2 v u H2 :=
  one R S h fun x v ρ1 A1 H1 R1 s1 S1 rv h1 => one R1 S1 h1 fun y u ρ2 A2 H2 R2 s2 S2 ru h2 => i x y v u ρ2 A2 H2 R2 (s1.trans s2) S2 (rv.to R1 s2) ru h2
theorem oneT {β : Type} {fa : Ev Bool} {k : Bool → M β} {P : β → List Addr → Hh → Hp → Prop} {Q1 : Bool → Hp → Prop} (R : Rel c ρ A H) (S : Rsl c ρ H σd σ) (h : Ld c ρ H σ W (mb (fa σd) k A) P)
    (i : ∀ x ρ1 A1 H1, Rel c ρ1 A1 H1 → St' ρ H ρ1 H1 → Rsl c ρ1 H1 σd σ → Ld c ρ1 H1 σ W (k x A1) P → Q1 x H1) : tT c W fa σ H Q1 :=
  ⟨ρ, A, σd, R, S, (Ld.bind h).imp fun x ρ1 A1 H1 R1 s1 h1 => i x ρ1 A1 H1 R1 s1 (S.to R s1) h1⟩
theorem oneA {β : Type} {fa : Ev (List D)} {k : List D → M β} {P : β → List Addr → Hh → Hp → Prop} {Q1 : List V → Hp → Prop} (R : Rel c ρ A H) (S : Rsl c ρ H σd σ) (h : Ld c ρ H σ W (mb (fa σd) k A) P)
    (i : ∀ x v ρ1 A1 H1, Rel c ρ1 A1 H1 → St' ρ H ρ1 H1 → Rsl c ρ1 H1 σd σ → Rvs c ρ1 H1 x v → Ld c ρ1 H1 σ W (k x A1) P → Q1 v H1) : tA c W fa σ H Q1 :=
  ⟨ρ, A, σd, R, S, (Ld.bind h).imp fun x ρ1 A1 H1 R1 s1 h1 v rv => i x v ρ1 A1 H1 R1 s1 (S.to R s1) rv h1⟩
theorem oneQ {β : Type} {fa : Ev (List D)} {k : List D → M β} {P : β → List Addr → Hh → Hp → Prop} {Q1 : V → Hp → Prop} (R : Rel c ρ A H) (S : Rsl c ρ H σd σ) (h : Ld c ρ H σ W (mb (fa σd) k A) P)
    (i : ∀ xs a vs ρ1 A1 H1, Rel c ρ1 A1 H1 → St' ρ H ρ1 H1 → Rsl c ρ1 H1 σd σ → Stb c ρ1 H1 a vs → Rvs c ρ1 H1 xs vs → Ld c ρ1 H1 σ W (k xs A1) P → Q1 (.ref a) H1) : tQ c W fa σ H Q1 :=
  ⟨ρ, A, σd, R, S, (Ld.bind h).imp fun x ρ1 A1 H1 R1 s1 h1 a vs hs rv => i x a vs ρ1 A1 H1 R1 s1 (S.to R s1) hs rv h1⟩
theorem oneU {β : Type} {fa : Ev (List D × Wt)} {k : List D × Wt → M β} {P : β → List Addr → Hh → Hp → Prop} {Q1 : V → Hp → Prop} (R : Rel c ρ A H) (S : Rsl c ρ H σd σ) (h : Ld c ρ H σ W (mb (fa σd) k A) P)
    (i : ∀ p a vs ρ1 A1 H1, Rel c ρ1 A1 H1 → St' ρ H ρ1 H1 → Rsl c ρ1 H1 σd σ → Stw c ρ1 H1 a vs p.1 p.2 → Rvs c ρ1 H1 p.1 vs → Ld c ρ1 H1 σ W (k p A1) P → Q1 (.ref a) H1) : tU c W fa σ H Q1 :=
  ⟨ρ, A, σd, R, S, (Ld.bind h).imp fun x ρ1 A1 H1 R1 s1 h1 a vs hs rv => i x a vs ρ1 A1 H1 R1 s1 (S.to R s1) hs rv h1⟩
theorem oneP {β : Type} {fa : Ev (Option Int)} {k : Option Int → M β} {P : β → List Addr → Hh → Hp → Prop} {Q1 : Option Int → Hp → Prop} (R : Rel c ρ A H) (S : Rsl c ρ H σd σ) (h : Ld c ρ H σ W (mb (fa σd) k A) P)
    (i : ∀ x ρ1 A1 H1, Rel c ρ1 A1 H1 → St' ρ H ρ1 H1 → Rsl c ρ1 H1 σd σ → Ld c ρ1 H1 σ W (k x A1) P → Q1 x H1) : tP c W fa σ H Q1 :=
  ⟨ρ, A, σd, R, S, (Ld.bind h).imp fun x ρ1 A1 H1 R1 s1 h1 => i x ρ1 A1 H1 R1 s1 (S.to R s1) h1⟩
theorem SZ_le : SZ ≤ sizeLine := by rw [sizeLine_eq]; decide
theorem SZ_63 : SZ < 2 ^ 62 := by decide
theorem Stb.sq {a : Addr} {vs : List V} (h : Stb c ρ H a vs) : SqL c.K H a vs ∨ SqT c.K H a vs := by
  rcases h with h | h | ⟨h, _⟩
  · exact .inr h.sq
  · exact .inl h.sq
  · exact .inl (.of h)
theorem Stw.sq {a : Addr} {vs : List V} {xs : List D} {w : Wt} (h : Stw c ρ H a vs xs w) : SqL c.K H a vs ∨ SqT c.K H a vs := by
  rcases h with ⟨h, _⟩ | ⟨n, _, h, _⟩
  · exact h.sq
  · exact .inl (.of h)
/-- a tuple is laid -/
theorem newTup {Q : VK} {xs : List D} {vs : List V} (R : Rel c ρ A H) (r : Rvs c ρ H xs vs) (h : Ld c ρ H σ W (some (.ok (.tup xs) A)) fun d ρ' _ H' => ∀ v, Rv c ρ' H' d v → Q v H') :
    ∀ p o, H p = none → o.dict = none → Q (.ref p) (upd H p (.frz o (.tup vs))) := fun p o n hd => by
  obtain ⟨R1, s1, _⟩ := R.laid (ho := .frz o (.tup vs)) n
  exact h ρ _ R1 s1 _ (.tup (.inl ⟨o, upd_same, hd⟩) (r.to R s1))
/-- a value that stood ahead -/
theorem Ld.old {Q : VK} {d : D} {v : V} (R : Rel c ρ A H) (h : Ld c ρ H σ W (some (.ok d A)) fun d ρ' _ H' => ∀ v, Rv c ρ' H' d v → Q v H') (r : Rv c ρ H d v) : Q v H := h ρ H R .refl v r
theorem Ld.oldB {Q : Bool → Hp → Prop} {b : Bool} (R : Rel c ρ A H) (h : Ld c ρ H σ W (some (.ok b A)) fun b _ _ H' => Q b H') : Q b H := h ρ H R .refl
end

section
variable {X : Cx} {c : Cn} {W : WX} {a b d : Expr} {fa fb fd : Ev D} {pos p : Pos} {x : Str} {es : List Expr} {fs : Ev (List D)}

theorem z_var (i : Nat) {x : Str} {pos : Pos} (hN : X.N[i]? = some x := by rfl) (hv : Vis X.env.scope x := by first | exact Or.inl rfl | exact Or.inr (Or.inl rfl) | exact Or.inr (Or.inr rfl)) (hd : (x == ("__debug__" : Str)) = false := by decide)
    (hcd : (x == ("__classdict__" : Str)) = false := by decide) : PE X (.Name x pos) (tE c W (zvar i)) :=
  (pv i hN hv hd hcd).zm fun σ H Q ⟨ρ, A, σd, R, S, h⟩ => by
    unfold zvar at h
    split at h
    · rename_i e
      obtain ⟨v, h1, h2⟩ := S.get i _ e
      exact ⟨v, h1, h.old R h2⟩
    · exact h.elim
theorem z_int {i : Int} {j : Nat} : PE X (.Constant (.int i) j pos) (tE c W (zc (.int i))) := pe_int.zm fun σ H Q ⟨ρ, A, σd, R, S, h⟩ => h.old R (.int i)
theorem z_bl {k : Bool} {j : Nat} : PE X (.Constant (.bool k) j pos) (tE c W (zc (.bl k))) := pe_bl.zm fun σ H Q ⟨ρ, A, σd, R, S, h⟩ => h.old R (.bl k)
theorem z_non {j : Nat} : PE X (.Constant .none j pos) (tE c W (zc .non)) := pe_non.zm fun σ H Q ⟨ρ, A, σd, R, S, h⟩ => h.old R .non
theorem z_str {y : Str} {j : Nat} : PE X (.Constant (.str y) j pos) (tE c W (zc (.str y))) := pe_str.zm fun σ H Q ⟨ρ, A, σd, R, S, h⟩ => h.old R (.str y)
/-- an int of the module -/
theorem z_gint {i : Int} (hg : Gl X x) (hm : ∃ t, X.mg x = some (.int i t)) (hd : (x == ("__debug__" : Str)) = false := by decide) : PE X (.Name x pos) (tE c W (zc (.int i))) := by
  obtain ⟨t, hm⟩ := hm
  exact (pe_glob (v := .int i) hg hm ⟨t, rfl⟩ hd).zm fun σ H Q ⟨ρ, A, σd, R, S, h⟩ => h.old R (.int i)

theorem z_add (ha : PE X a (tE c W fa)) (hb : PE X b (tE c W fb)) (hK : c.K = X.K) : PE X (.BinOp a .Add b pos) (tE c W (zbin .add fa fb)) := by
  refine (pe_op (op_add.or op_catF) ha hb).zm fun σ H Q ⟨ρ, A, σd, R, S, h⟩ => two R S h fun x y v u ρ2 A2 H2 R2 s2 S2 rv ru h2 => ?_
  cases rv <;> cases ru <;> first | exact False.elim h2 | skip
  · rename_i i j
    exact .inl ⟨i, j, rfl, rfl, Ld.old R2 h2 (.int _)⟩
  · rename_i xs vs1 t1 r1 a2 ys vs2 t2 r2
    have h3 : Ld c ρ2 H2 σ W (if xs.length + ys.length ≤ SZ then some (Z.R.ok (D.tup (xs ++ ys)) A2) else none) _ := h2
    split at h3
    · rename_i hz
      have l1 := r1.length
      have l2 := r2.length
      have hzl := SZ_le
      refine .inr ⟨_, _, _, _, rfl, rfl, by rw [← hK]; exact t1.sq, by rw [← hK]; exact t2.sq, by omega, fun e => ?_, fun e e2 => ?_, fun _ _ => newTup R2 (r1.append r2) h3⟩
      · subst e
        have : xs = [] := List.length_eq_zero_iff.mp (by simpa using l1)
        subst this
        exact Ld.old R2 h3 (Rv.tup t2 r2)
      · subst e2
        have : ys = [] := List.length_eq_zero_iff.mp (by simpa using l2)
        subst this
        rw [List.append_nil] at h3
        exact Ld.old R2 h3 (Rv.tup t1 r1)
    · exact h3.elim
theorem z_sub (ha : PE X a (tE c W fa)) (hb : PE X b (tE c W fb)) : PE X (.BinOp a .Sub b pos) (tE c W (zbin .sub fa fb)) := by
  refine (pe_op op_sub ha hb).zm fun σ H Q ⟨ρ, A, σd, R, S, h⟩ => two R S h fun x y v u ρ2 A2 H2 R2 s2 S2 rv ru h2 => ?_
  cases rv <;> cases ru <;> first | exact False.elim h2 | skip
  exact ⟨_, _, rfl, rfl, Ld.old R2 h2 (.int _)⟩
set_option exponentiation.threshold 4000 in
theorem small_lt {i : Int} (h : small i = true) : i.natAbs < 2 ^ 3900 := by
  rw [small_def] at h
  exact of_decide_eq_true h
theorem ite_none {α : Type} {c0 : Bool} {r : R α} {P : α → List Addr → Hh → Hp → Prop} {c : Cn} {ρ : List Addr} {H : Hp} {σ : L2.St} {W : WX} (h : Ld c ρ H σ W (if c0 = true then some r else none) P) : c0 = true ∧ Ld c ρ H σ W (some r) P := by
  cases c0 with
  | true => exact ⟨rfl, h⟩
  | false => exact False.elim h
theorem z_mul (hK : c.K = X.K) (ha : PE X a (tE c W fa)) (hb : PE X b (tE c W fb)) : PE X (.BinOp a .Mult b pos) (tE c W (zbin .mul fa fb)) := by
  refine (pe_op (op_mulX.or op_repF) ha hb).zm fun σ H Q ⟨ρ, A, σd, R, S, h⟩ => two R S h fun x y v u ρ2 A2 H2 R2 s2 S2 rv ru h2 => ?_
  cases rv <;> cases ru <;> first | exact False.elim h2 | skip
  · obtain ⟨e, h3⟩ := ite_none h2
    rw [Bool.and_eq_true] at e
    exact .inl ⟨_, _, rfl, rfl, mulx_ok (small_lt e.1) (small_lt e.2) (by decide), Ld.old R2 h3 (.int _)⟩
  · rename_i a1 xs vs t r k
    refine .inr ⟨_, k, _, rfl, rfl, by rw [← hK]; exact t.sq, ?_⟩
    have h3 : Ld c ρ2 H2 σ W (if k = 1 then some (Z.R.ok (D.tup xs) A2) else if 2 ≤ k ∧ k ≤ 1000 ∧ xs.length ≤ 1000 ∧ xs ≠ [] then some (Z.R.ok (D.tup (List.replicate k.toNat xs).flatten) A2) else none) _ := h2
    by_cases hk : k = 1
    · rw [if_pos hk] at h3
      exact .inl ⟨hk, Ld.old R2 h3 (.tup t r)⟩
    · rw [if_neg hk] at h3
      by_cases hk2 : 2 ≤ k ∧ k ≤ 1000 ∧ xs.length ≤ 1000 ∧ xs ≠ []
      · rw [if_pos hk2] at h3
        refine .inr ⟨fun e => ?_, hk2.1, hk2.2.1, by rw [← r.length]; exact hk2.2.2.1, newTup R2 (r.rep _) h3⟩
        subst e
        have := r.length
        exact hk2.2.2.2 (List.eq_nil_of_length_eq_zero this)
      · rw [if_neg hk2] at h3
        exact h3.elim
theorem z_fdiv (ha : PE X a (tE c W fa)) (hb : PE X b (tE c W fb)) : PE X (.BinOp a .FloorDiv b pos) (tE c W (zbin .fdiv fa fb)) := by
  refine (pe_op op_fdivW ha hb).zm fun σ H Q ⟨ρ, A, σd, R, S, h⟩ => two R S h fun x y v u ρ2 A2 H2 R2 s2 S2 rv ru h2 => ?_
  cases rv <;> cases ru <;> first | exact False.elim h2 | skip
  obtain ⟨e, h3⟩ := ite_none h2
  rw [Bool.and_eq_true] at e
  exact ⟨_, _, rfl, rfl, wide_div (of_decide_eq_true e.1) (small_lt e.2) (by decide) (by decide), Ld.old R2 h3 (.int _)⟩
theorem z_mod (ha : PE X a (tE c W fa)) (hb : PE X b (tE c W fb)) : PE X (.BinOp a .Mod b pos) (tE c W (zbin .mod fa fb)) := by
  refine (pe_op op_mod ha hb).zm fun σ H Q ⟨ρ, A, σd, R, S, h⟩ => two R S h fun x y v u ρ2 A2 H2 R2 s2 S2 rv ru h2 => ?_
  cases rv <;> cases ru <;> first | exact False.elim h2 | skip
  obtain ⟨e, h3⟩ := ite_none h2
  exact ⟨_, _, rfl, rfl, of_decide_eq_true e, Ld.old R2 h3 (.int _)⟩
theorem z_pow (ha : PE X a (tE c W fa)) (hb : PE X b (tE c W fb)) : PE X (.BinOp a .Pow b pos) (tE c W (zbin .pow fa fb)) := by
  refine (pe_op op_pow ha hb).zm fun σ H Q ⟨ρ, A, σd, R, S, h⟩ => two R S h fun x y v u ρ2 A2 H2 R2 s2 S2 rv ru h2 => ?_
  cases rv <;> cases ru <;> first | exact False.elim h2 | skip
  obtain ⟨e, h3⟩ := ite_none h2
  rw [Bool.and_eq_true, Bool.and_eq_true] at e
  exact ⟨_, _, rfl, rfl, ⟨of_decide_eq_true e.1.1, of_decide_eq_true e.1.2, of_decide_eq_true e.2⟩, Ld.old R2 h3 (.int _)⟩
theorem z_neg (ha : PE X a (tE c W fa)) : PE X (.UnaryOp .USub a pos) (tE c W (zneg fa)) := by
  refine (pe_un un_neg ha).zm fun σ H Q ⟨ρ, A, σd, R, S, h⟩ => one R S h fun x v ρ2 A2 H2 R2 s2 S2 rv h2 => ?_
  cases rv <;> first | exact False.elim h2 | skip
  exact ⟨_, rfl, Ld.old R2 h2 (.int _)⟩
end
end Z

noncomputable section
set_option maxHeartbeats 2000000
namespace Z
open PySem PySem.Spec PyProof.Rows L2

mutual
theorem Rv.dp {c : Cn} {ρ : List Addr} {H : Hp} : ∀ {d : D} {v : V} {p : PyData}, Rv c ρ H d v → D.py d = some p → Dp c.K H v p
  | _, _, p, .non, e => by simp only [D.py, Option.some.injEq] at e; subst e; exact .non
  | _, _, p, .bl b, e => by simp only [D.py, Option.some.injEq] at e; subst e; exact .bl b
  | _, _, p, .int i, e => by simp only [D.py, Option.some.injEq] at e; subst e; exact .int i
  | _, _, p, .str x, e => by simp only [D.py, Option.some.injEq] at e; subst e; exact .str x
  | .tup xs, _, p, .tup h r, e => by
    cases q : D.pys xs with
    | none => simp [D.py, q] at e
    | some ps =>
      simp only [D.py, q, Option.map_some, Option.some.injEq] at e
      subst e
      exact .tup h.sq (Rvs.dp r q)
  | .lst xs, _, p, .lst h r, e => by
    cases q : D.pys xs with
    | none => simp [D.py, q] at e
    | some ps =>
      simp only [D.py, q, Option.map_some, Option.some.injEq] at e
      subst e
      exact .lst h.sq (Rvs.dp r q)
  | .ref n, _, p, .ref h, e => by simp [D.py] at e
  | .exc n, _, p, .exc h h2, e => by simp [D.py] at e
  | .emp, _, p, .emp h h2, e => by simp [D.py] at e
theorem Rvs.dp {c : Cn} {ρ : List Addr} {H : Hp} : ∀ {ds : List D} {vs : List V} {ps : List PyData}, Rvs c ρ H ds vs → D.pys ds = some ps → DpAll c.K H vs ps
  | [], _, ps, .nil, e => by simp only [D.pys, Option.some.injEq] at e; subst e; exact .nil
  | d :: ds, _, ps, .cons r t, e => by
    cases q : D.py d with
    | none => simp [D.pys, q] at e
    | some p1 =>
      cases q2 : D.pys ds with
      | none => simp [D.pys, q, q2] at e
      | some p2 =>
        simp only [D.pys, q, q2, Option.some.injEq] at e
        subst e
        exact .cons (Rv.dp r q) (Rvs.dp t q2)
end
theorem Rv.dpA {c : Cn} {ρ : List Addr} {A : Hh} {H : Hp} (R : Rel c ρ A H) {d : D} {v : V} {p : PyData} (r : Rv c ρ H d v) (e : pyA A d = some p) : Dp c.K H v p := by
  cases r with
  | ref h =>
    rename_i n a
    simp only [pyA] at e
    split at e
    · rename_i xs hA
      cases q : D.pys xs with
      | none => simp [q] at e
      | some ps =>
        simp only [q, Option.map_some, Option.some.injEq] at e
        subst e
        obtain ⟨ho, h1, vs, rfl, h3⟩ := R.obj _ _ _ hA h
        exact .lst (.of h1) (h3.dp q)
    · cases e
  | non => exact Rv.dp (ρ := ρ) .non e
  | bl b => exact Rv.dp (ρ := ρ) (.bl b) e
  | int i => exact Rv.dp (ρ := ρ) (.int i) e
  | str x => exact Rv.dp (ρ := ρ) (.str x) e
  | tup h t => exact Rv.dp (.tup h t) e
  | lst h t => exact Rv.dp (.lst h t) e
  | exc h t => exact Rv.dp (ρ := ρ) (.exc h t) e
  | emp h t => exact Rv.dp (ρ := ρ) (.emp h t) e

/-- the order of tuples: not the other one ahead -/
theorem lexAt_le : ∀ (ns ms : List Int) (k : Nat) (a b : List Int), (∀ j, ns[j]? = a[k + j]?) → (∀ j, ms[j]? = b[k + j]?) → a.length = k + ns.length → b.length = k + ms.length →
    Ob.lexAt (fun j => decide (a.getD j 0 = b.getD j 0)) (fun j => decide (a.getD j 0 ≤ b.getD j 0)) (decide (a.length ≤ b.length)) k (min ns.length ms.length) = !HT.lexLt ms ns
  | [], [], k, a, b, h1, h2, l1, l2 => by
    simp only [List.length_nil, Nat.min_self, Ob.lexAt_zero, HT.lexLt]
    simp at l1 l2
    simp [l1, l2]
  | [], m :: ms, k, a, b, h1, h2, l1, l2 => by
    simp only [List.length_nil, Nat.zero_min, Ob.lexAt_zero, HT.lexLt]
    simp at l1 l2
    simp; omega
  | n :: ns, [], k, a, b, h1, h2, l1, l2 => by
    simp only [List.length_nil, Nat.min_zero, Ob.lexAt_zero, HT.lexLt]
    simp at l1 l2
    simp; omega
  | n :: ns, m :: ms, k, a, b, h1, h2, l1, l2 => by
    have e : min (n :: ns).length (m :: ms).length = min ns.length ms.length + 1 := by simp only [List.length_cons]; omega
    rw [e, Ob.lexAt_succ]
    have a0 : a.getD k 0 = n := by
      have := h1 0
      simp at this
      rw [List.getD_eq_getElem?_getD, ← this]; rfl
    have b0 : b.getD k 0 = m := by
      have := h2 0
      simp at this
      rw [List.getD_eq_getElem?_getD, ← this]; rfl
    rw [a0, b0, HT.lexLt_cons]
    have ih := lexAt_le ns ms (k + 1) a b (fun j => by have := h1 (j + 1); simp at this; rw [this]; congr 1; omega) (fun j => by have := h2 (j + 1); simp at this; rw [this]; congr 1; omega)
      (by simp at l1; omega) (by simp at l2; omega)
    by_cases q : n = m
    · rw [if_pos (decide_eq_true q), if_pos q.symm, ih]
    · rw [if_neg (by simpa using q), if_neg (fun z => q z.symm)]
      by_cases q2 : n ≤ m
      · have : ¬ m < n := by omega
        simp [q2, this]
      · have : m < n := by omega
        simp [q2, this]
theorem lexAt_le0 (ns ms : List Int) : Ob.lexAt (fun j => decide (ns.getD j 0 = ms.getD j 0)) (fun j => decide (ns.getD j 0 ≤ ms.getD j 0)) (decide (ns.length ≤ ms.length)) 0 (min ns.length ms.length) = !HT.lexLt ms ns :=
  lexAt_le ns ms 0 ns ms (fun j => by simp) (fun j => by simp) (by simp) (by simp)

/-- what a comparison needs -/
def COk (X : Cx) (c : Cn) (op : Cop) (cop : CmpOp) : Prop := ∃ r : R2, OpR X (compareOp cop) r ∧ ∀ ρ A H x y v u (Q : VK) k, Rel c ρ A H → Rv c ρ H x v → Rv c ρ H y u → copD op x y A = some k → Q (.bl k) H → r v u H Q

section
variable {X : Cx} {c : Cn}
theorem cok_lt (hu : X.A.units + 65 < cLine) (hK : c.K = X.K) : COk X c .lt .Lt := by
  refine ⟨_, op_lt.or (op_ltT (by omega)), fun ρ A H x y v u Q k R rv ru e q => ?_⟩
  cases rv <;> cases ru <;> first | (simp [copD, ltI] at e; done) | skip
  · simp only [copD, ltI, Option.some.injEq] at e
    subst e
    exact .inl ⟨_, _, rfl, rfl, q⟩
  · rename_i xs vs t1 r1 a2 ys us t2 r2
    simp only [copD, ltI] at e
    cases e1 : intsOf xs with
    | none => simp [e1] at e
    | some ns =>
      cases e2 : intsOf ys with
      | none => simp [e1, e2] at e
      | some ms =>
        simp only [e1, e2, Option.some.injEq] at e
        subst e
        rw [hK] at t1 t2
        exact .inr ⟨_, _, ns, ms, rfl, rfl, by rw [← r1.ints e1]; exact t1.sq, by rw [← r2.ints e2]; exact t2.sq, q⟩
theorem cok_le (hu : X.A.units + 65 < cLine) (hK : c.K = X.K) : COk X c .le .LtE := by
  refine ⟨_, op_le.or (op_leT (by omega)), fun ρ A H x y v u Q k R rv ru e q => ?_⟩
  cases rv <;> cases ru <;> first | (simp [copD, leI] at e; done) | skip
  · simp only [copD, leI, Option.some.injEq] at e
    subst e
    exact .inl ⟨_, _, rfl, rfl, q⟩
  · rename_i xs vs t1 r1 a2 ys us t2 r2
    simp only [copD, leI] at e
    cases e1 : intsOf xs with
    | none => simp [e1] at e
    | some ns =>
      cases e2 : intsOf ys with
      | none => simp [e1, e2] at e
      | some ms =>
        simp only [e1, e2, Option.some.injEq] at e
        subst e
        rw [hK] at t1 t2
        exact .inr ⟨_, _, ns, ms, rfl, rfl, by rw [← r1.ints e1]; exact t1.sq, by rw [← r2.ints e2]; exact t2.sq, by rw [lexAt_le0]; exact q⟩
theorem cok_gt : COk X c .gt .Gt := by
  refine ⟨_, op_gt, fun ρ A H x y v u Q k R rv ru e q => ?_⟩
  cases rv <;> cases ru <;> first | (simp [copD] at e; done) | skip
  simp only [copD, Option.some.injEq] at e
  subst e
  exact ⟨_, _, rfl, rfl, q⟩
theorem cok_ge : COk X c .ge .GtE := by
  refine ⟨_, op_ge, fun ρ A H x y v u Q k R rv ru e q => ?_⟩
  cases rv <;> cases ru <;> first | (simp [copD] at e; done) | skip
  simp only [copD, Option.some.injEq] at e
  subst e
  exact ⟨_, _, rfl, rfl, q⟩
theorem eqP_ok {p q : Option PyData} {k : Bool} (e : eqP p q = some k) : ∃ a b, p = some a ∧ q = some b ∧ SeqAt.shaped a = true ∧ SeqAt.shaped b = true ∧ k = PyData.eqv a b := by
  unfold eqP at e
  split at e
  · rename_i a b
    split at e
    · rename_i h
      rw [Bool.and_eq_true] at h
      cases e
      exact ⟨a, b, rfl, rfl, h.1, h.2, rfl⟩
    · cases e
  · cases e
theorem eqD_ok {ρ : List Addr} {A : Hh} {H : Hp} {x y : D} {v u : V} {k : Bool} (R : Rel c ρ A H) (rv : Rv c ρ H x v) (ru : Rv c ρ H y u) (e : eqD A x y = some k) :
    (scal v u = true ∧ k = decide (v = u)) ∨ ∃ a b, Dp c.K H v a ∧ Dp c.K H u b ∧ SeqAt.shaped a = true ∧ SeqAt.shaped b = true ∧ k = PyData.eqv a b := by
  have gen : eqP (pyA A x) (pyA A y) = some k → ∃ a b, Dp c.K H v a ∧ Dp c.K H u b ∧ SeqAt.shaped a = true ∧ SeqAt.shaped b = true ∧ k = PyData.eqv a b := fun e => by
    obtain ⟨a, b, h1, h2, h3, h4, h5⟩ := eqP_ok e
    exact ⟨a, b, rv.dpA R h1, ru.dpA R h2, h3, h4, h5⟩
  unfold eqD at e
  split at e
  · cases rv; cases ru; cases e
    exact .inl ⟨rfl, by simp⟩
  · cases rv; cases ru; cases e
    exact .inl ⟨rfl, by simp⟩
  · cases rv; cases ru; cases e
    exact .inl ⟨rfl, by simp⟩
  · exact .inr (gen e)
theorem cok_eq (hu : X.A.units + 65 < cLine) (hK : c.K = X.K) : COk X c .eq .Eq := by
  refine ⟨_, op_eq.or (op_eqD (by omega)), fun ρ A H x y v u Q k R rv ru e q => ?_⟩
  rcases eqD_ok R rv ru e with ⟨h1, rfl⟩ | ⟨a, b, h1, h2, h3, h4, rfl⟩
  · exact .inl ⟨h1, q⟩
  · rw [hK] at h1 h2
    exact .inr ⟨a, b, h1, h2, h3, h4, q⟩
theorem cok_ne (hu : X.A.units + 65 < cLine) (hK : c.K = X.K) : COk X c .ne .NotEq := by
  refine ⟨_, op_ne.or (op_neD (by omega)), fun ρ A H x y v u Q k R rv ru e q => ?_⟩
  cases e2 : eqD A x y with
  | none => simp [copD, e2] at e
  | some j =>
    simp only [copD, e2, Option.map_some, Option.some.injEq] at e
    subst e
    rcases eqD_ok R rv ru e2 with ⟨h1, rfl⟩ | ⟨a, b, h1, h2, h3, h4, rfl⟩
    · exact .inl ⟨h1, q⟩
    · rw [hK] at h1 h2
      exact .inr ⟨a, b, h1, h2, h3, h4, q⟩
theorem Rv.is_non {ρ : List Addr} {H : Hp} {x : D} {v : V} (r : Rv c ρ H x v) : D.deq x .non = decide (v = .non) := by
  cases r <;> simp [D.deq]
theorem cok_isN : COk X c .isN .Is := by
  refine ⟨_, op_isN, fun ρ A H x y v u Q k R rv ru e q => ?_⟩
  cases ru <;> first | (simp [copD] at e; done) | skip
  simp only [copD, Option.some.injEq] at e
  subst e
  exact ⟨rfl, by rw [← rv.is_non]; exact q⟩
theorem cok_notN : COk X c .notN .IsNot := by
  refine ⟨_, op_notN, fun ρ A H x y v u Q k R rv ru e q => ?_⟩
  cases ru <;> first | (simp [copD] at e; done) | skip
  simp only [copD, Option.some.injEq] at e
  subst e
  exact ⟨rfl, by rw [← rv.is_non]; exact q⟩
/-- in, over a tuple -/
def rInT (K : PySem.W.Frag) : R2 := fun x y H Q => ∃ d ds, Dp K H x d ∧ Dp K H y (.tuple ds) ∧ SeqAt.shaped d = true ∧ SeqAt.shaped (.tuple ds) = true ∧ Q (.bl (ds.any fun z => PyData.eqv z d)) H
def rNotInT (K : PySem.W.Frag) : R2 := fun x y H Q => ∃ d ds, Dp K H x d ∧ Dp K H y (.tuple ds) ∧ SeqAt.shaped d = true ∧ SeqAt.shaped (.tuple ds) = true ∧ Q (.bl (!ds.any fun z => PyData.eqv z d)) H
theorem op_inT (hu : X.A.units + 65 < cLine) : OpR X (compareOp .In) (rInT X.K) := by
  intro pins s σ H x y v u Q I rx ry h
  obtain ⟨d, ds, hd, he, sd, se, q⟩ := h
  obtain ⟨as, r1⟩ := Dp.reads I d x v hd rx
  obtain ⟨bs, r2⟩ := Dp.reads I (.tuple ds) y u he ry
  exact SeqAt.in_tuple_reads r2 r1 (SeqAt.canLay_of_shaped se) (SeqAt.canLay_of_shaped sd) (room_in_shaped sd hu) ⟨.bl _, H, I, rfl, q⟩
theorem op_notInT (hu : X.A.units + 65 < cLine) : OpR X (compareOp .NotIn) (rNotInT X.K) := by
  intro pins s σ H x y v u Q I rx ry h
  obtain ⟨d, ds, hd, he, sd, se, q⟩ := h
  obtain ⟨as, r1⟩ := Dp.reads I d x v hd rx
  obtain ⟨bs, r2⟩ := Dp.reads I (.tuple ds) y u he ry
  exact SeqAt.notIn_tuple_reads r2 r1 (SeqAt.canLay_of_shaped se) (SeqAt.canLay_of_shaped sd) (room_in_shaped sd hu) ⟨.bl _, H, I, rfl, q⟩
theorem inA_ok {ρ : List Addr} {A : Hh} {H : Hp} {x y : D} {v u : V} {k : Bool} (R : Rel c ρ A H) (rv : Rv c ρ H x v) (ru : Rv c ρ H y u) (e : inA A x y = some k) :
    ∃ p ps, Dp c.K H v p ∧ SeqAt.shaped p = true ∧ k = (ps.any fun z => PyData.eqv z p) ∧ ((Dp c.K H u (.tuple ps) ∧ SeqAt.shaped (.tuple ps) = true) ∨ (Dp c.K H u (.list ps) ∧ SeqAt.shaped (.list ps) = true)) := by
  unfold inA at e
  split at e
  · rename_i ys
    split at e
    · rename_i p ps e1 e2
      split at e
      · rename_i h
        rw [Bool.and_eq_true] at h
        cases e
        refine ⟨p, ps, rv.dp e1, h.1, rfl, .inl ⟨ru.dp ?_, h.2⟩⟩
        simp only [D.py, e2, Option.map_some]
      · cases e
    · cases e
  · split at e
    · rename_i ps p e1 e2
      split at e
      · rename_i h
        rw [Bool.and_eq_true] at h
        cases e
        exact ⟨p, ps, rv.dp e2, h.1, rfl, .inr ⟨ru.dpA R e1, h.2⟩⟩
      · cases e
    · cases e
theorem cok_in (hu : X.A.units + 65 < cLine) (hK : c.K = X.K) : COk X c .in_ .In := by
  refine ⟨_, (op_inT hu).or (op_inD hu), fun ρ A H x y v u Q k R rv ru e q => ?_⟩
  obtain ⟨p, ps, h1, h2, rfl, h⟩ := inA_ok R rv ru e
  rw [hK] at h1 h
  rcases h with ⟨h3, h4⟩ | ⟨h3, h4⟩
  · exact .inl ⟨p, ps, h1, h3, h2, h4, q⟩
  · exact .inr ⟨p, ps, h1, h3, h2, h4, q⟩
theorem cok_notIn (hu : X.A.units + 65 < cLine) (hK : c.K = X.K) : COk X c .notIn .NotIn := by
  refine ⟨_, (op_notInT hu).or (op_notInD hu), fun ρ A H x y v u Q k R rv ru e q => ?_⟩
  cases e2 : inA A x y with
  | none => simp [copD, e2] at e
  | some j =>
    simp only [copD, e2, Option.map_some, Option.some.injEq] at e
    subst e
    obtain ⟨p, ps, h1, h2, rfl, h⟩ := inA_ok R rv ru e2
    rw [hK] at h1 h
    rcases h with ⟨h3, h4⟩ | ⟨h3, h4⟩
    · exact .inl ⟨p, ps, h1, h3, h2, h4, q⟩
    · exact .inr ⟨p, ps, h1, h3, h2, h4, q⟩
end

section
variable {X : Cx} {c : Cn} {W : WX} {a b d : Expr} {fa fb fd : Ev D} {ga gb : Ev Bool} {pos p : Pos} {x : Str} {es : List Expr} {fs : Ev (List D)} {op op' : Cop} {cop cop' : CmpOp}
theorem copM_ld {ρ : List Addr} {A : Hh} {H : Hp} {σ : L2.St} {x y : D} {P : Bool → List Addr → Hh → Hp → Prop} (R : Rel c ρ A H) (h : Ld c ρ H σ W (copM op x y A) P) : ∃ k, copD op x y A = some k ∧ P k ρ A H := by
  unfold copM at h
  cases e : copD op x y A with
  | none => rw [e] at h; exact h.elim
  | some k => rw [e] at h; exact ⟨k, rfl, h ρ H R .refl⟩
/-- a op b, as a value -/
theorem z_cmp (ok : COk X c op cop) (ha : PE X a (tE c W fa)) (hb : PE X b (tE c W fb)) (hm : behindInMarks cop b = false := by first | exact nomark _ | rfl) : PE X (.Compare a [cop] [b] pos) (tE c W (zbl (zcmp op fa fb))) := by
  obtain ⟨r, ho, hr⟩ := ok
  refine (pe_cmpR ho ha hb hm).zm fun σ H Q ⟨ρ, A, σd, R, S, h⟩ => ?_
  have h' : Ld c ρ H σ W (mb (fa σd) (fun x => mb (fb σd) fun y A => Z.R.andThen (copM op x y A) fun k => Z.ok (D.bl k)) A) fun d ρ' _ H' => ∀ v, Rv c ρ' H' d v → Q v H' := by
    unfold zbl zcmp mb at h
    unfold mb
    revert h
    cases fa σd A with
    | none => exact fun h => h
    | some r =>
      cases r with
      | ex _ _ => exact fun h => h
      | ok x A1 =>
        show Ld c ρ H σ W (Z.R.andThen (Z.R.andThen (fb σd A1) _) _) _ → Ld c ρ H σ W (Z.R.andThen (fb σd A1) _) _
        cases fb σd A1 with
        | none => exact fun h => h
        | some r => cases r <;> exact fun h => h
  refine two R S h' fun x y v u ρ2 A2 H2 R2 s2 S2 rv ru h2 => ?_
  obtain ⟨k, e, h3⟩ := copM_ld R2 h2.bind
  exact hr ρ2 A2 H2 x y v u Q k R2 rv ru e (Ld.old R2 h3 (.bl k))
/-- .. as a test -/
theorem z_cmpT (ok : COk X c op cop) (ha : PE X a (tE c W fa)) (hb : PE X b (tE c W fb)) (hm : behindInMarks cop b = false := by first | exact nomark _ | rfl) : PT X (.Compare a [cop] [b] pos) (tT c W (zcmp op fa fb)) := by
  obtain ⟨r, ho, hr⟩ := ok
  refine (pt_cmpR ho ha hb hm).zm fun σ H Q ⟨ρ, A, σd, R, S, h⟩ => ?_
  refine two R S h fun x y v u ρ2 A2 H2 R2 s2 S2 rv ru h2 => ?_
  obtain ⟨k, e, h3⟩ := copM_ld R2 h2
  exact hr ρ2 A2 H2 x y v u _ k R2 rv ru e ⟨k, rfl, h3⟩
/-- a op b op' d -/
theorem z_chnT (ok : COk X c op cop) (ok' : COk X c op' cop') (ha : PE X a (tE c W fa)) (hb : PE X b (tE c W fb)) (hd : PE X d (tE c W fd)) (hm : lastMarks [cop, cop'] [b, d] = false := by with_unfolding_all rfl) :
    PT X (.Compare a [cop, cop'] [b, d] pos) (tT c W (zchn op op' fa fb fd)) := by
  obtain ⟨r, ho, hr⟩ := ok
  obtain ⟨r', ho', hr'⟩ := ok'
  refine (pt_chain ho ho' ha hb hd hm).zm fun σ H Q ⟨ρ, A, σd, R, S, h⟩ => ?_
  refine two R S h fun x y v u ρ2 A2 H2 R2 s2 S2 rv ru h2 => ?_
  obtain ⟨k, e, h3⟩ := copM_ld R2 h2.bind
  refine hr ρ2 A2 H2 x y v u _ k R2 rv ru e ⟨k, rfl, ?_⟩
  cases k with
  | false => exact iteF ⟨false, rfl, Ld.oldB R2 h3⟩
  | true =>
    refine iteT (one R2 S2 h3 fun z w ρ3 A3 H3 R3 s3 S3 rw' h4 => ?_)
    obtain ⟨k', e', h5⟩ := copM_ld R3 h4
    exact hr' ρ3 A3 H3 y z u w _ k' R3 (ru.to R2 s3) rw' e' ⟨k', rfl, h5⟩
theorem z_chn (ok : COk X c op cop) (ok' : COk X c op' cop') (ha : PE X a (tE c W fa)) (hb : PE X b (tE c W fb)) (hd : PE X d (tE c W fd)) (hm : lastMarks [cop, cop'] [b, d] = false := by with_unfolding_all rfl) :
    PE X (.Compare a [cop, cop'] [b, d] pos) (tE c W (zbl (zchn op op' fa fb fd))) := by
  obtain ⟨r, ho, hr⟩ := ok
  obtain ⟨r', ho', hr'⟩ := ok'
  refine (pe_chain ho ho' ha hb hd hm).zm fun σ H Q ⟨ρ, A, σd, R, S, h⟩ => ?_
  have h0 : Ld c ρ H σ W (zchn op op' fa fb fd σd A) fun k ρ' _ H' => Q (.bl k) H' := by
    have h1 : Ld c ρ H σ W (Z.R.andThen (zchn op op' fa fb fd σd A) fun k A' => Z.ok (D.bl k) A') (fun d ρ' _ H' => ∀ v, Rv c ρ' H' d v → Q v H') := h
    exact h1.bind.imp fun k ρ' A' H' R' s' h2 => Ld.old R' h2 (.bl k)
  refine two R S h0 fun x y v u ρ2 A2 H2 R2 s2 S2 rv ru h2 => ?_
  obtain ⟨k, e, h3⟩ := copM_ld R2 h2.bind
  refine hr ρ2 A2 H2 x y v u _ k R2 rv ru e ⟨k, rfl, ?_⟩
  cases k with
  | false => exact iteF (Ld.oldB (Q := fun k H' => Q (.bl k) H') R2 h3)
  | true =>
    refine iteT (one R2 S2 h3 fun z w ρ3 A3 H3 R3 s3 S3 rw' h4 => ?_)
    obtain ⟨k', e', h5⟩ := copM_ld R3 h4
    exact hr' ρ3 A3 H3 y z u w _ k' R3 (ru.to R2 s3) rw' e' h5

theorem truD_ok {ρ : List Addr} {A : Hh} {H : Hp} {x : D} {v : V} {k : Bool} (R : Rel c ρ A H) (rv : Rv c ρ H x v) (e : truD A x = some k) : TruV c.K v H k := by
  have hz := SZ_le
  cases rv with
  | non => simp only [truD, Option.some.injEq] at e; subst e; rfl
  | bl b => simp only [truD, Option.some.injEq] at e; subst e; rfl
  | int i =>
    simp only [truD, Option.some.injEq] at e; subst e
    show decide (i ≠ 0) = (i != 0)
    by_cases h : i = 0 <;> simp [h]
  | str y =>
    simp only [truD] at e
    split at e
    · cases e
      refine ⟨by omega, ?_⟩
      by_cases h : y.length = 0
      · simp [h]
      · have : ¬ ((y.length : Int) = 0) := by omega
        simp [h, this]
    · cases e
  | tup h t =>
    simp only [truD, Option.some.injEq] at e; subst e
    refine .inr (.inl ⟨_, h.sq, ?_⟩)
    cases t <;> rfl
  | lst h t =>
    simp only [truD, Option.some.injEq] at e; subst e
    refine .inl ⟨_, h.sq, ?_⟩
    cases t <;> rfl
  | ref h =>
    simp only [truD] at e
    split at e
    · rename_i xs hA
      cases e
      obtain ⟨ho, h1, vs, rfl, h3⟩ := R.obj _ _ _ hA h
      refine .inl ⟨_, .of h1, ?_⟩
      cases h3 <;> rfl
    · cases e
  | exc h t => cases e
  | emp h t => cases e
theorem z_tru (hK : c.K = X.K) (ha : PE X a (tE c W fa)) (he : ∀ whole, isTrue a X.env whole = (do let v ← whole; standAt a.pos; holding [v] (truthy v)) := by intro _; rfl) : PT X a (tT c W (ztru fa)) := by
  refine (pt_truth ha he).zm fun σ H Q ⟨ρ, A, σd, R, S, h⟩ => one R S h fun x v ρ2 A2 H2 R2 s2 S2 rv h2 => ?_
  cases e : truD A2 x with
  | none => rw [e] at h2; exact False.elim h2
  | some k =>
    rw [e] at h2
    exact ⟨k, by rw [← hK]; exact truD_ok R2 rv e, Ld.oldB R2 h2⟩
theorem z_not (ha : PT X a (tT c W ga)) : PT X (.UnaryOp .Not a pos) (tT c W (znot ga)) :=
  (pt_not ha).zm fun σ H Q ⟨ρ, A, σd, R, S, h⟩ => oneT R S h fun k ρ1 A1 H1 R1 s1 S1 h1 => Ld.oldB R1 h1
theorem z_and1 (ha : PT X a (tT c W ga)) : PW X (.BoolOp .And [a] pos) (tT c W ga) := pw_and1 ha
theorem z_or1 (ha : PT X a (tT c W ga)) : PW X (.BoolOp .Or [a] pos) (tT c W ga) := pw_or1 ha
theorem z_and (ha : PT X a (tT c W ga)) (hb : PW X (.BoolOp .And (b :: es) pos) (tT c W gb)) : PW X (.BoolOp .And (a :: b :: es) pos) (tT c W (zand ga gb)) :=
  (pw_and ha hb).zm fun σ H Q ⟨ρ, A, σd, R, S, h⟩ => oneT R S h fun k ρ1 A1 H1 R1 s1 S1 h1 => by
    cases k with
    | true => exact iteT ⟨ρ1, A1, σd, R1, S1, h1⟩
    | false => exact iteF (Ld.oldB R1 h1)
theorem z_or (ha : PT X a (tT c W ga)) (hb : PW X (.BoolOp .Or (b :: es) pos) (tT c W gb)) : PW X (.BoolOp .Or (a :: b :: es) pos) (tT c W (zor ga gb)) :=
  (pw_or ha hb).zm fun σ H Q ⟨ρ, A, σd, R, S, h⟩ => oneT R S h fun k ρ1 A1 H1 R1 s1 S1 h1 => by
    cases k with
    | true => exact iteT (Ld.oldB R1 h1)
    | false => exact iteF ⟨ρ1, A1, σd, R1, S1, h1⟩
/-- .. as values -/
theorem z_notv (hK : c.K = X.K) (ha : PE X a (tE c W fa)) : PE X (.UnaryOp .Not a pos) (tE c W (zbl (znot (ztru fa)))) := by
  refine (pe_notT ha).zm fun σ H Q ⟨ρ, A, σd, R, S, h⟩ => ?_
  have h0 : Ld c ρ H σ W (ztru fa σd A) fun k ρ' _ H' => Q (.bl (!k)) H' := by
    have h1 : Ld c ρ H σ W (Z.R.andThen (Z.R.andThen (ztru fa σd A) fun k A' => Z.ok (!k) A') fun k A' => Z.ok (D.bl k) A') (fun d ρ' _ H' => ∀ v, Rv c ρ' H' d v → Q v H') := h
    exact h1.bind.bind.imp fun k ρ' A' H' R' s' h2 => Ld.old R' (h2 ρ' H' R' .refl) (.bl _)
  refine one R S h0 fun x v ρ2 A2 H2 R2 s2 S2 rv h2 => ?_
  cases e : truD A2 x with
  | none => rw [e] at h2; exact False.elim h2
  | some k =>
    rw [e] at h2
    exact ⟨k, by rw [← hK]; exact truD_ok R2 rv e, Ld.oldB (Q := fun k H' => Q (.bl (!k)) H') R2 h2⟩
theorem z_onev {o : BoolOp} (ha : PE X a (tE c W fa)) : PE X (.BoolOp o [a] pos) (tE c W fa) := pe_one ha
theorem z_andv (hK : c.K = X.K) (ha : PE X a (tE c W fa)) (hb : PE X (.BoolOp .And (b :: es) pos) (tE c W fb)) : PE X (.BoolOp .And (a :: b :: es) pos) (tE c W (zandv fa fb)) := by
  refine (pe_andT ha hb).zm fun σ H Q ⟨ρ, A, σd, R, S, h⟩ => one R S h fun x v ρ2 A2 H2 R2 s2 S2 rv h2 => ?_
  cases e : truD A2 x with
  | none => rw [e] at h2; exact False.elim h2
  | some k =>
    rw [e] at h2
    refine ⟨k, by rw [← hK]; exact truD_ok R2 rv e, ?_⟩
    cases k with
    | true => exact iteT ⟨ρ2, A2, σd, R2, S2, h2⟩
    | false => exact iteF (Ld.old R2 h2 rv)
theorem z_orv (hK : c.K = X.K) (ha : PE X a (tE c W fa)) (hb : PE X (.BoolOp .Or (b :: es) pos) (tE c W fb)) : PE X (.BoolOp .Or (a :: b :: es) pos) (tE c W (zorv fa fb)) := by
  refine (pe_orT ha hb).zm fun σ H Q ⟨ρ, A, σd, R, S, h⟩ => one R S h fun x v ρ2 A2 H2 R2 s2 S2 rv h2 => ?_
  cases e : truD A2 x with
  | none => rw [e] at h2; exact False.elim h2
  | some k =>
    rw [e] at h2
    refine ⟨k, by rw [← hK]; exact truD_ok R2 rv e, ?_⟩
    cases k with
    | true => exact iteT (Ld.old R2 h2 rv)
    | false => exact iteF ⟨ρ2, A2, σd, R2, S2, h2⟩
theorem z_ite (hc : PT X d (tT c W ga)) (ha : PE X a (tE c W fa)) (hb : PE X b (tE c W fb)) : PE X (.IfExp d a b pos) (tE c W (zite ga fa fb)) :=
  (pe_ifExp hc ha hb).zm fun σ H Q ⟨ρ, A, σd, R, S, h⟩ => oneT R S h fun k ρ1 A1 H1 R1 s1 S1 h1 => by
    cases k with
    | true => exact iteT ⟨ρ1, A1, σd, R1, S1, h1⟩
    | false => exact iteF ⟨ρ1, A1, σd, R1, S1, h1⟩
end
end Z

noncomputable section
namespace Z
open PySem PySem.Spec PyProof.Rows L2

/-- a list alone -/
def tL (c : Cn) (W : WX) (f : Ev (List D)) : TE := fun σ H Q => ∃ ρ A σd, Rel c ρ A H ∧ Rsl c ρ H σd σ ∧ Ld c ρ H σ W (f σd A) fun ds ρ' _ H' => ∀ a vs, SqL c.K H' a vs → Rvs c ρ' H' ds vs → Q (.ref a) H'

section
variable {c : Cn} {ρ ρ' : List Addr} {A : Hh} {H H' : Hp} {σd : Sl} {σ : L2.St} {W : WX}
theorem oneL {β : Type} {fa : Ev (List D)} {k : List D → M β} {P : β → List Addr → Hh → Hp → Prop} {Q1 : V → Hp → Prop} (R : Rel c ρ A H) (S : Rsl c ρ H σd σ) (h : Ld c ρ H σ W (mb (fa σd) k A) P)
    (i : ∀ xs a vs ρ1 A1 H1, Rel c ρ1 A1 H1 → St' ρ H ρ1 H1 → Rsl c ρ1 H1 σd σ → SqL c.K H1 a vs → Rvs c ρ1 H1 xs vs → Ld c ρ1 H1 σ W (k xs A1) P → Q1 (.ref a) H1) : tL c W fa σ H Q1 :=
  ⟨ρ, A, σd, R, S, (Ld.bind h).imp fun x ρ1 A1 H1 R1 s1 h1 a vs hs rv => i x a vs ρ1 A1 H1 R1 s1 (S.to R s1) hs rv h1⟩
theorem Ld.later {α : Type} {r : Option (R α)} {P : α → List Addr → Hh → Hp → Prop} (h : Ld c ρ H σ W r P) : Ld c ρ H σ W r fun a ρ1 A1 H1 => ∀ ρ2 H2, Rel c ρ2 A1 H2 → St' ρ1 H1 ρ2 H2 → P a ρ2 A1 H2 := by
  revert h
  cases r with
  | none => exact fun h => h
  | some r =>
    cases r with
    | ex _ _ => exact fun h => h
    | ok a A1 => exact fun h ρ1 H1 R1 s1 ρ2 H2 R2 s2 => h ρ2 H2 R2 (s1.trans s2)
theorem moL {α : Type} {o : Option α} {P : α → List Addr → Hh → Hp → Prop} (R : Rel c ρ A H) (h : Ld c ρ H σ W (mo o A) P) : ∃ d, o = some d ∧ P d ρ A H := by
  cases o with
  | none => exact h.elim
  | some d => exact ⟨d, rfl, h ρ H R .refl⟩
theorem mapL {α β : Type} {o : Option α} {g : α → β} {P : β → List Addr → Hh → Hp → Prop} (R : Rel c ρ A H) (h : Ld c ρ H σ W (o.map fun d => Z.R.ok (g d) A) P) : ∃ d, o = some d ∧ P (g d) ρ A H := by
  cases o with
  | none => exact h.elim
  | some d => exact ⟨d, rfl, h ρ H R .refl⟩
theorem iteL {α : Type} {b : Bool} {d : α} {P : α → List Addr → Hh → Hp → Prop} (R : Rel c ρ A H) (h : Ld c ρ H σ W (if b = true then some (Z.R.ok d A) else none) P) : b = true ∧ P d ρ A H := by
  obtain ⟨e, h2⟩ := ite_none h
  exact ⟨e, h2 ρ H R .refl⟩
theorem iteP {α : Type} {p : Prop} [Decidable p] {d : α} {P : α → List Addr → Hh → Hp → Prop} (R : Rel c ρ A H) (h : Ld c ρ H σ W (if p then some (Z.R.ok d A) else none) P) : p ∧ P d ρ A H := by
  by_cases e : p
  · rw [if_pos e] at h
    exact ⟨e, h ρ H R .refl⟩
  · rw [if_neg e] at h
    exact h.elim
theorem lenSZ {xs : List D} {vs : List V} (r : Rvs c ρ H xs vs) (h : xs.length ≤ SZ) : vs.length ≤ sizeLine := by
  have h1 := r.length
  have h2 := SZ_le
  omega
/-- what stood ahead, and a new thing at p -/
theorem laidQ {Q : VK} {xs : List D} {vs : List V} {p : Addr} (R : Rel c ρ A H) (n : H p = none) (r : Rvs c ρ H xs vs) : Rel c ρ A (upd H p (.lst vs)) ∧ St' ρ H ρ (upd H p (.lst vs)) ∧ Stb c ρ (upd H p (.lst vs)) p vs ∧ Rvs c ρ (upd H p (.lst vs)) xs vs := by
  obtain ⟨R1, s1, hp⟩ := R.laid (ho := .lst vs) n
  exact ⟨R1, s1, .inr (.inr ⟨upd_same, hp⟩), r.to R s1⟩
end

section
variable {X : Cx} {c : Cn} {W : WX} {a b d e : Expr} {fa fb fd : Ev D} {qa qb : Ev (List D)} {ua ub : Ev (List D × Wt)} {pos p p2 apos : Pos} {x : Str} {es : List Expr} {fs : Ev (List D)} {ol oh : Ev (Option Int)} {lo hi : Option Expr}

theorem z_nil : PA X [] (tA c W znil) := pa_nil.zm fun σ H Q ⟨ρ, A, σd, R, S, h⟩ => h ρ H R .refl [] .nil
theorem z_cons (ha : PE X a (tE c W fa)) (hr : PA X es (tA c W fs)) (hs : starEach (a :: es) X.env = (false, eval a X.env) :: starEach es X.env := by rfl) : PA X (a :: es) (tA c W (zcons fa fs)) :=
  (pa_cons ha hr hs).zm fun σ H Q ⟨ρ, A, σd, R, S, h⟩ => one R S h fun x v ρ1 A1 H1 R1 s1 S1 rv h1 => oneA R1 S1 h1 fun xs vs ρ2 A2 H2 R2 s2 S2 rvs h2 => h2 ρ2 H2 R2 .refl _ (.cons (rv.to R1 s2) rvs)
theorem z_tup {k : Nat} (h : PA X es (tA c W fs)) : PE X (.Tuple es k pos) (tE c W (ztup fs)) := by
  refine (pe_tupF h).zm fun σ H Q ⟨ρ, A, σd, R, S, h⟩ => oneA R S h fun xs vs ρ1 A1 H1 R1 s1 S1 rvs h1 => ?_
  by_cases hz : xs.length ≤ SZ
  · rw [if_pos hz] at h1
    exact ⟨lenSZ rvs hz, newTup R1 rvs h1⟩
  · rw [if_neg hz] at h1
    exact h1.elim
theorem lstM_ok {ρ : List Addr} {A : Hh} {H : Hp} {σ : L2.St} {xs : List D} {P : List D → List Addr → Hh → Hp → Prop} (R : Rel c ρ A H) (h : Ld c ρ H σ W (lstM xs A) P) : xs.length ≤ SZ ∧ P xs ρ A H := iteP R h
theorem z_lst (h : PA X es (tA c W fs)) : PE X (.List es pos) (tN c W (zlst fs)) :=
  (pe_lst h).zm fun σ H Q ⟨ρ, A, σd, R, S, h⟩ => oneA R S h fun xs vs ρ1 A1 H1 R1 s1 S1 rvs h1 => by
    obtain ⟨hz, h2⟩ := lstM_ok R1 h1
    exact ⟨lenSZ rvs hz, fun p n => h2 p vs n rvs⟩

theorem z_new (h : PE X e (tN c W qa)) : PE X e (tE c W (znew qa)) := h.zm fun σ H Q ⟨ρ, A, σd, R, S, h⟩ => ⟨ρ, A, σd, R, S, (Ld.bind h).imp fun xs ρ1 A1 H1 R1 s1 h1 a vs n rvs => by
    obtain ⟨R2, s2⟩ := R1.made (o := .lst xs) n ⟨vs, rfl, rvs⟩
    refine h1 _ _ R2 s2 _ (.ref ?_)
    rw [← R1.len, List.getElem?_append_right (Nat.le_refl _), Nat.sub_self]
    rfl⟩
theorem z_nq (h : PE X e (tN c W qa)) : PE X e (tQ c W qa) := h.zm fun σ H Q ⟨ρ, A, σd, R, S, h⟩ => ⟨ρ, A, σd, R, S, h.later.imp fun xs ρ1 A1 H1 R1 s1 h1 a vs n rvs => by
    obtain ⟨R2, s2, hb, r2⟩ := laidQ (Q := Q) R1 n rvs
    exact h1 ρ1 _ R2 s2 a vs hb r2⟩
theorem z_nl (h : PE X e (tN c W qa)) : PE X e (tL c W qa) := h.zm fun σ H Q ⟨ρ, A, σd, R, S, h⟩ => ⟨ρ, A, σd, R, S, h.later.imp fun xs ρ1 A1 H1 R1 s1 h1 a vs n rvs => by
    obtain ⟨R2, s2, hb, r2⟩ := laidQ (Q := Q) R1 n rvs
    exact h1 ρ1 _ R2 s2 a vs (.of upd_same) r2⟩
theorem seqD_ok {ρ : List Addr} {A : Hh} {H : Hp} {x : D} {v : V} {q : List D × Wt} (R : Rel c ρ A H) (r : Rv c ρ H x v) (e : seqD A x = some q) : ∃ a vs, v = .ref a ∧ Stw c ρ H a vs q.1 q.2 ∧ Rvs c ρ H q.1 vs := by
  cases r with
  | non => cases e
  | bl b => cases e
  | int i => cases e
  | str y => cases e
  | tup h t => cases e; exact ⟨_, _, rfl, .inl ⟨.inl h, rfl⟩, t⟩
  | lst h t => cases e; exact ⟨_, _, rfl, .inl ⟨.inr (.inl h), rfl⟩, t⟩
  | ref h =>
    simp only [seqD] at e
    split at e
    · rename_i xs hA
      cases e
      obtain ⟨ho, h1, vs, rfl, h3⟩ := R.obj _ _ _ hA h
      exact ⟨_, vs, rfl, .inr ⟨_, h, h1, rfl⟩, h3⟩
    · cases e
  | exc h t => cases e
  | emp h t => cases e
theorem lstD_ok {ρ : List Addr} {A : Hh} {H : Hp} {x : D} {v : V} {q : List D} (R : Rel c ρ A H) (r : Rv c ρ H x v) (e : lstD A x = some q) : ∃ a vs, v = .ref a ∧ SqL c.K H a vs ∧ Rvs c ρ H q vs := by
  cases r with
  | non => cases e
  | bl b => cases e
  | int i => cases e
  | str y => cases e
  | tup h t => cases e
  | lst h t => cases e; exact ⟨_, _, rfl, h.sq, t⟩
  | ref h =>
    simp only [lstD] at e
    split at e
    · rename_i xs hA
      cases e
      obtain ⟨ho, h1, vs, rfl, h3⟩ := R.obj _ _ _ hA h
      exact ⟨_, vs, rfl, .of h1, h3⟩
    · cases e
  | exc h t => cases e
  | emp h t => cases e
theorem z_of (h : PE X e (tE c W fa)) : PE X e (tU c W (zof fa)) := h.zm fun σ H Q ⟨ρ, A, σd, R, S, h⟩ => one R S h fun x v ρ1 A1 H1 R1 s1 S1 rv h1 => by
    obtain ⟨q, e, h2⟩ := mapL (g := fun q => q) R1 h1
    obtain ⟨a, vs, rfl, hs, rvs⟩ := seqD_ok R1 rv e
    exact h2 a vs hs rvs
theorem z_ofL (h : PE X e (tE c W fa)) : PE X e (tL c W (zofL fa)) := h.zm fun σ H Q ⟨ρ, A, σd, R, S, h⟩ => one R S h fun x v ρ1 A1 H1 R1 s1 S1 rv h1 => by
    obtain ⟨q, e, h2⟩ := mapL (g := fun q => q) R1 h1
    obtain ⟨a, vs, rfl, hs, rvs⟩ := lstD_ok R1 rv e
    exact h2 a vs hs rvs
theorem z_st (h : PE X e (tQ c W qa)) : PE X e (tU c W (zst qa)) := h.zm fun σ H Q ⟨ρ, A, σd, R, S, h⟩ => oneQ R S h fun xs a vs ρ1 A1 H1 R1 s1 S1 hs rvs h1 => h1 ρ1 H1 R1 .refl a vs (.inl ⟨hs, rfl⟩) rvs

theorem ixD_ok {ρ : List Addr} {A : Hh} {H : Hp} {x y : D} {v u : V} {r : D} {Q : VK} (R : Rel c ρ A H) (rv : Rv c ρ H x v) (ru : Rv c ρ H y u) (e : ixD A x y = some r) (hq : ∀ w, Rv c ρ H r w → Q w H) : rIx c.K v u H Q := by
  unfold ixD at e
  split at e
  · rename_i i
    cases ru
    split at e
    · rename_i xs w0 e2
      obtain ⟨a, vs, rfl, hs, rvs⟩ := seqD_ok R rv e2
      have hl := rvs.length
      have key : ∃ w, atI vs i = some w ∧ Rv c ρ H r w := by
        unfold atI at e ⊢
        have hl' : xs.length = vs.length := hl
        rw [hl'] at e
        cases q : ixN vs.length i with
        | none => rw [q] at e; cases e
        | some j =>
          rw [q] at e
          exact rvs.get e
      obtain ⟨w, hw, rw'⟩ := key
      rcases hs.sq with hs | hs
      · exact .inl ⟨a, vs, i, w, rfl, rfl, hs, hw, hq w rw'⟩
      · exact .inr (.inl ⟨a, vs, i, w, rfl, rfl, hs, hw, hq w rw'⟩)
    · cases e
  · cases e
theorem z_ix (hK : c.K = X.K) (ha : PE X a (tE c W fa)) (hb : PE X b (tE c W fb)) (hs : PlainIx b := by exact fun _ _ => rfl) : PE X (.Subscript a b pos) (tE c W (zix fa fb)) := by
  refine (pe_ix ix_seq ha hb hs).zm fun σ H Q ⟨ρ, A, σd, R, S, h⟩ => two R S h fun x y v u ρ2 A2 H2 R2 s2 S2 rv ru h2 => ?_
  obtain ⟨r, e, h3⟩ := mapL (g := fun q => q) R2 h2
  rw [← hK]
  exact ixD_ok R2 rv ru e h3
theorem z_no : PO X none (tP c W znone) := po_none.zm fun σ H Q ⟨ρ, A, σd, R, S, h⟩ => h ρ H R .refl
theorem z_so (ha : PE X a (tE c W fa)) : PO X (some a) (tP c W (zsome fa)) := (po_some ha).zm fun σ H Q ⟨ρ, A, σd, R, S, h⟩ => one R S h fun x v ρ1 A1 H1 R1 s1 S1 rv h1 => by
    cases rv <;> first | exact False.elim h1 | skip
    exact ⟨_, rfl, h1 ρ1 H1 R1 .refl⟩
theorem cut_ok {ρ : List Addr} {H : Hp} {xs : List D} {vs : List V} {l h : Option Int} (r : Rvs c ρ H xs vs) : Rvs c ρ H (cutD xs l h) (cutV vs l h) := by
  unfold cutD cutV
  rw [r.length]
  exact (r.drop _).take _
theorem z_slT (hK : c.K = X.K) (ha : PE X a (tE c W fa)) (hl : PO X lo (tP c W ol)) (hh : PO X hi (tP c W oh)) : PE X (.Subscript a (.Slice lo hi none p2) pos) (tE c W (zslT fa ol oh)) := by
  refine (pe_slice sl_tupF ha hl hh).zm fun σ H Q ⟨ρ, A, σd, R, S, h⟩ => one R S h fun x v ρ1 A1 H1 R1 s1 S1 rv h1 => oneP R1 S1 h1 fun l ρ2 A2 H2 R2 s2 S2 h2 => oneP R2 S2 h2 fun u ρ3 A3 H3 R3 s3 S3 h3 => ?_
  have rv3 := (rv.to R1 s2).to R2 s3
  cases rv3 <;> first | exact False.elim h3 | skip
  rename_i a1 xs vs t r
  refine ⟨_, vs, rfl, by rw [← hK]; exact t.sq, fun e => ?_, fun _ => ?_⟩
  · have e2 : cutD xs l u = xs := by
      unfold cutD
      rw [r.length, e.1, e.2, Nat.sub_zero, List.drop_zero, ← r.length, List.take_length]
    have h4 : Ld c ρ3 H3 σ W (some (Z.R.ok (D.tup (cutD xs l u)) A3)) _ := h3
    rw [e2] at h4
    exact Ld.old R3 h4 (.tup t r)
  · exact newTup R3 (cut_ok r) h3
theorem z_slL (hK : c.K = X.K) (ha : PE X a (tE c W fa)) (hl : PO X lo (tP c W ol)) (hh : PO X hi (tP c W oh)) : PE X (.Subscript a (.Slice lo hi none p2) pos) (tN c W (zslL fa ol oh)) := by
  refine (pe_slice sl_list ha hl hh).zm fun σ H Q ⟨ρ, A, σd, R, S, h⟩ => one R S h fun x v ρ1 A1 H1 R1 s1 S1 rv h1 => oneP R1 S1 h1 fun l ρ2 A2 H2 R2 s2 S2 h2 => oneP R2 S2 h2 fun u ρ3 A3 H3 R3 s3 S3 h3 => ?_
  have rv3 := (rv.to R1 s2).to R2 s3
  have key : ∀ q, lstD A3 x = some q → (∀ a vs, H3 a = none → Rvs c ρ3 H3 (cutD q l u) vs → Q (.ref a) (upd H3 a (.lst vs))) → rSlL X.K v l u H3 Q := fun q e h4 => by
    obtain ⟨a1, vs, rfl, hs, rvs⟩ := lstD_ok R3 rv3 e
    rw [hK] at hs
    exact ⟨a1, vs, rfl, hs, fun p n => h4 p _ n (cut_ok rvs)⟩
  cases x with
  | tup xs => exact False.elim h3
  | lst xs => exact key xs rfl (h3 ρ3 H3 R3 .refl)
  | ref n =>
    simp only [seqD] at h3
    cases hA : A3[n]? with
    | none => rw [hA] at h3; exact False.elim h3
    | some o =>
      cases o with
      | ins k fs => rw [hA] at h3; exact False.elim h3
      | dct kvs => rw [hA] at h3; exact False.elim h3
      | dck kvs => rw [hA] at h3; exact False.elim h3
      | lst xs =>
        rw [hA] at h3
        exact key xs (by simp only [lstD, hA]) (h3 ρ3 H3 R3 .refl)
  | non => exact False.elim h3
  | bl _ => exact False.elim h3
  | int _ => exact False.elim h3
  | str _ => exact False.elim h3
  | exc _ => exact False.elim h3
  | emp => exact False.elim h3
/-- its last step: -1 -/
def zrev (a : Ev D) : Ev (List D) := fun σ => mb (a σ) fun x A => (lstD A x).map fun xs => .ok xs.reverse A
theorem Rvs.rev {ρ : List Addr} {H : Hp} : ∀ {xs : List D} {vs : List V}, Rvs c ρ H xs vs → Rvs c ρ H xs.reverse vs.reverse
  | _, _, .nil => .nil
  | _, _, .cons r t => by
    rw [List.reverse_cons, List.reverse_cons]
    exact (Rvs.rev t).append (.cons r .nil)
end
end Z

noncomputable section
set_option maxHeartbeats 4000000
namespace Z
open PySem PySem.Spec PyProof.Rows L2

/-- the empty set as it is made -/
abbrev so0 (w : World) : Obj := { cls := .type "set", dict := none, data := .set #[] 0 (.fresh 0 0 (!w.params.followText "set-order")) }
/-- what a list's iterator is at first -/
abbrev li0 (l : Addr) : Obj := { cls := .type "list_iterator", data := .fields #[.ref l, .int 0 0] }
section
variable {P : Program} {w : World} {A : Around} {E : Value → Shared → Prop} {s : Shared} {l : Addr} {items : Array Value} {ns : List Int}
/-- what is asked behind the filling -/
def Filled (w : World) (ns : List Int) (s : Shared) (r : Value) (s2 : Shared) : Prop :=
  r = .none ∧ ∃ h2 t2 c, s2 = { s with heap := h2, toks := t2 } ∧ SetR w h2 s.heap.objs.size (fun j => decide (j ∈ ns)) c ∧ c ≤ ns.length ∧ ∀ b o, s.heap.get? b = some o → h2.get? b = some o
theorem ints_at (hi : IntsAre items.toList ns) (hz : items.size = ns.length) : ∀ (i : Nat) (v : Value), items[i]? = some v → ∃ k t, ns[i]? = some k ∧ v = .int k t := fun i v e => by
  have hlt : i < ns.length := hz ▸ (Array.getElem?_eq_some_iff.mp e).1
  obtain ⟨t, e2⟩ := hi.int_at i v (by simpa using e)
  exact ⟨ns[i], t, List.getElem?_eq_getElem hlt, by rw [e2]; simp [List.getD_eq_getElem?_getD, List.getElem?_eq_getElem hlt]⟩
theorem set_fill (hh : A.handled = none) (hl : s.heap.IsList l items) (hi : IntsAre items.toList ns) (hb : ns.length + 1 < scanBound) (hz : items.size = ns.length)
    (hT : Shared.TypeIs { s with heap := s.heap.push (so0 w) } (.ref s.heap.objs.size) "set") :
    codeAny (model P w) A (.call (.builtin "set.__init__") ⟨[.ref s.heap.objs.size, .ref l], []⟩) (wants (Filled w ns s) E) { s with heap := s.heap.push (so0 w) } := by
  refine codeAny_call_builtin F.called_set.init.plain F.entry_set_init (check_set_init_1 hT ?_)
  obtain ⟨⟨oc, od, odt, osl⟩, g0, gc, gn, gd⟩ := hl
  dsimp only at gc gd
  cases gc
  cases gd
  have onto : ∀ {b : Addr} {o : Obj}, s.heap.get? b = some o → (s.heap.push (so0 w)).get? b = some o := fun e => Heap.get?_push_of_some _ e
  have atS : (s.heap.push (so0 w)).get? s.heap.objs.size = some (so0 w) := Heap.get?_push_size _ rfl
  have isl : (s.heap.push (so0 w)).IsList l items := ⟨_, onto g0, rfl, gn, rfl⟩
  have b1 := F.sub_list_set
  have b2 := F.sub_list_frozenset
  have b3 : (Value.type "list" == Value.type "dict") = false := by decide
  have b4 := onto g0
  unfold Builtin.«set.__init__» noKeywords Builtin.Frozenset.updateFrom
  generalize hIt : pyIter = It0
  wp_walk
  subst hIt
  refine wpAny_pyIter_list isl (wpAny_bind (wpAny_runValue ?_))
  have sz1 : (s.heap.push (so0 w)).objs.size = s.heap.objs.size + 1 := Heap.size_push ..
  have ll : l < s.heap.objs.size := Heap.lt_size g0
  have c1 : l ≠ (s.heap.push (so0 w)).objs.size := fun e => by rw [sz1] at e; exact absurd e (Nat.ne_of_lt (Nat.lt_succ_of_lt ll))
  have c2 : s.heap.objs.size ∉ [(s.heap.push (so0 w)).objs.size, l] := by
    rw [sz1]
    intro m
    rcases List.mem_cons.mp m with m | m
    · exact absurd m (Nat.ne_of_lt (Nat.lt_succ_self _))
    · rw [List.mem_singleton] at m; exact absurd m (Nat.ne_of_gt ll)
  have c3 : A.in1.in1.handled = none := by simpa using hh
  have at2 : ((s.heap.push (so0 w)).push (li0 l)).get? s.heap.objs.size = some (so0 w) := Heap.get?_push_of_some _ atS
  refine set_update_ints (Walks.list c3 _ l c1 items).toS s.heap.objs.size c2 ns hz hb (ints_at hi hz) _ 0 _ rfl (Nat.zero_le _) ?_ ?_ fun s3 c mv hc R3 => ?_
  · exact ⟨⟨_, Heap.get?_push_size _ rfl, rfl, rfl⟩, isl.push _⟩
  · exact ⟨0, Nat.le_refl 0, setR_new_at at2⟩
  cases s3 with
  | mk h3 g3 d3 t3 o3 =>
    have e1 : g3 = s.gens := mv.gens
    have e2 : d3 = s.drawn := mv.drawn
    have e3 : o3 = s.os := mv.os
    cases e1
    cases e2
    cases e3
    show wpAny _ _ _ _ _ _
    apply wpAny_pure
    show wpAny _ _ (ret Value.none) _ _ _
    apply wpAny_pure
    refine ⟨rfl, h3, t3, c, rfl, R3, hz ▸ hc, fun b o e => mv.heap b o ?_ (Heap.get?_push_of_some _ (onto e))⟩
    have lb : b < s.heap.objs.size := Heap.lt_size e
    rw [sz1]
    intro m
    rcases List.mem_cons.mp m with m | m
    · exact absurd m (Nat.ne_of_lt lb)
    · rw [List.mem_singleton] at m; exact absurd m (Nat.ne_of_lt (Nat.lt_succ_of_lt lb))
theorem set_of_list {Q : Value → Shared → Prop} (hh : A.handled = none) (hl : s.heap.IsList l items) (hi : IntsAre items.toList ns) (hb : ns.length + 1 < scanBound)
    (q : ∀ (h2 : Heap) (t2 c : Nat), SetR w h2 s.heap.objs.size (fun j => decide (j ∈ ns)) c → c ≤ ns.length → (∀ b o, s.heap.get? b = some o → h2.get? b = some o) → Q (.ref s.heap.objs.size) { s with heap := h2, toks := t2 }) :
    wpAny (model P w) A (call (.type "set") [.ref l]) Q E s := by
  have hz : items.size = ns.length := by simpa using hi.length
  have a1 := F.called_set.made
  have a2 := F.called_set.sub
  have a3 := F.called_set.notType
  have a4 := F.called_set.canCreate
  have a5 := F.typeCall_set_1 (.ref l)
  obtain ⟨_, _, a6⟩ := F.called_set.mro
  apply wpAny_call
  apply codeAny_of_tree
  show wpAny _ _ (callAny (.type "set") _) _ _ _
  apply wpAny_pure
  refine And.intro (Code.quiet_builtin _ (by decide +kernel)) (codeAny_builtin F.entry_type_call ?_)
  rw [Around.under_plain (weight_type_call_type "set" [.ref l] []) rfl]
  repeat any_goals first | wp_step | assumption
  refine codeAny_mono (code_set_led1 (.ref l) (E := E) (Q₁ := fun r s1 => r = .ref s.heap.objs.size ∧ s1 = { s with heap := s.heap.push (so0 w) }) ⟨rfl, rfl⟩) ?_
  rintro (e | fl) s1 hr
  · exact hr
  cases fl <;> try exact hr.elim
  obtain ⟨e1, e2⟩ := hr
  cases e1
  cases e2
  have hT : Shared.TypeIs { s with heap := s.heap.push (so0 w) } (.ref s.heap.objs.size) "set" := ⟨_, Heap.get?_push_size _ rfl, rfl⟩
  have i1 := F.called_set.init.lookup
  have i2 := F.called_set.init.bind (.ref s.heap.objs.size)
  repeat any_goals first | wp_step | assumption
  refine codeAny_mono (set_fill (E := E) (by simpa using hh) hl hi hb hz hT) ?_
  rintro (e | fl) s2 hr
  · exact hr
  cases fl <;> try exact hr.elim
  obtain ⟨e1, h2, t2, c, e2, R2, hc, hk⟩ := hr
  cases e1
  cases e2
  repeat any_goals first | wp_step | assumption
  exact q _ _ _ R2 hc hk
end
end Z

noncomputable section
set_option maxHeartbeats 4000000
namespace SrtL
open PySem PyProof.Rows Srt SrtO
/-- the ints of a tuple -/
def IsTI (h : Heap) (v : Value) (ns : List Int) : Prop := ∃ a o us n, v = .ref a ∧ h.get? a = some o ∧ o.cls = .type "tuple" ∧ o.data = .seq us n ∧ IntsAre us.toList ns
theorem intsAre_fun {us : List Value} {ns : List Int} (a : IntsAre us ns) : ∀ {ms : List Int}, IntsAre us ms → ns = ms := by
  induction a with
  | nil => intro ms b; cases b; rfl
  | cons n t r ih => intro ms b; cases b with | cons _ _ q => rw [ih q]
theorem IsTI.fun {h : Heap} {v : Value} {ns ms : List Int} (a : IsTI h v ns) (b : IsTI h v ms) : ns = ms := by
  obtain ⟨x, o, us, n, e, h1, h2, h3, h4⟩ := a
  obtain ⟨y, p, ws, m, e', g1, g2, g3, g4⟩ := b
  rw [e] at e'; cases e'
  rw [h1] at g1; cases g1
  rw [h3] at g3; cases g3
  exact intsAre_fun h4 g4
open Classical in
def kOf (h : Heap) (v : Value) : List Int := if q : ∃ ns, IsTI h v ns then q.choose else []
theorem kOf_eq {h : Heap} {v : Value} {ns : List Int} (a : IsTI h v ns) : kOf h v = ns := by
  have q : ∃ ns, IsTI h v ns := ⟨ns, a⟩
  unfold kOf
  rw [dif_pos q]
  exact q.choose_spec.fun a
theorem lex_asym : ∀ {m n : List Int}, HT.lexLt m n = true → HT.lexLt n m = false
  | [], [], h => by simp [HT.lexLt] at h
  | [], _ :: _, _ => rfl
  | _ :: _, [], h => by simp [HT.lexLt] at h
  | a :: m, b :: n, h => by
    rw [HT.lexLt_cons] at h ⊢
    by_cases e : a = b
    · subst e
      rw [if_pos rfl] at h ⊢
      exact lex_asym h
    · rw [if_neg e] at h
      rw [if_neg (fun z => e z.symm)]
      have := of_decide_eq_true h
      exact decide_eq_false (by omega)
theorem lex_trans : ∀ {l m n : List Int}, HT.lexLt m l = false → HT.lexLt n m = false → HT.lexLt n l = false
  | [], _, n, _, _ => by cases n <;> rfl
  | _ :: _, [], n, h, _ => by simp [HT.lexLt] at h
  | _ :: _, _ :: _, [], _, h => by simp [HT.lexLt] at h
  | a :: l, b :: m, d :: n, h, h2 => by
    rw [HT.lexLt_cons] at h h2 ⊢
    by_cases e : b = a
    · subst e
      rw [if_pos rfl] at h
      by_cases e2 : d = b
      · subst e2
        rw [if_pos rfl] at h2 ⊢
        exact lex_trans h h2
      · rw [if_neg e2] at h2 ⊢
        exact h2
    · rw [if_neg e] at h
      have h3 := of_decide_eq_false h
      by_cases e2 : d = b
      · subst e2
        rw [if_neg e]
        exact h
      · rw [if_neg e2] at h2
        have h4 := of_decide_eq_false h2
        rw [if_neg (by omega)]
        exact decide_eq_false (by omega)
theorem swo_k (k : Value → List Int) : Swo fun v u => HT.lexLt (k v) (k u) := ⟨fun x y h => lex_asym h, fun x y z h1 h2 => lex_trans h1 h2⟩
section
variable {prog : Program} {w : World} {A : Around} {E : Value → Shared → Prop} {s : Shared}
theorem lex_kat {b fin : Bool} {Q : Bool → Shared → Prop} : ∀ {ns ms : List Int} {us ws : List Value} (i : Nat), IntsAre us ns → IntsAre ws ms → fin = decide (ns.length < ms.length) → Q (HT.lexLt ns ms) s →
    PySem.W.KatLex prog w A b fin Q (us.zip ws) i s
  | [], [], _, _, i, .nil, .nil, e, h => by
    subst e
    exact PySem.W.kat_nil h
  | [], _ :: _, _, _, i, .nil, .cons m u r, e, h => by
    subst e
    exact PySem.W.kat_nil h
  | _ :: _, [], _, _, i, .cons m u r, .nil, e, h => by
    subst e
    exact PySem.W.kat_nil h
  | x :: ns, y :: ms, _ :: _, _ :: _, i, a1, a2, e, h => by
    cases a1 with | cons _ t r => ?_
    cases a2 with | cons _ u r2 => ?_
    refine PySem.W.kat_cons (SeqAt.EqAt.int_int x t y u prog w _ _ ?_)
    rw [HT.lexLt_cons] at h
    refine PySem.W.kat_go (fun e1 => ?_) (fun e1 => ?_)
    · have ex : x = y := by simpa using e1
      rw [if_pos ex] at h
      refine PySem.W.kat_yes (lex_kat (i + 1) r r2 ?_ h)
      rw [e]
      simp
    · have ex : ¬ x = y := by simpa using e1
      rw [if_neg ex] at h
      refine PySem.W.kat_no ?_
      cases (b && i == 0) with
      | true => exact oneLt_int h
      | false => exact PySem.W.kat_one _ _ (PyProof.Rows.lt_int h)
theorem tup_cmp {vs : List Value} {k : Value → List Int} (hp : ∀ v ∈ vs, IsTI s.heap v (k v)) : Cmp prog w A s (tuples' true) (fun p => p.1 ∈ vs) (lt2 fun v u => HT.lexLt (k v) (k u)) := by
  intro p q hm hm'
  have h1 := hp _ hm
  have h2 := hp _ hm'
  show wpAny (model prog w) A (keyLt' (tuples' true) p.1 q.1) (fun r s' => s' = s ∧ r = HT.lexLt (k p.1) (k q.1)) (fun _ _ => False) s
  generalize k p.1 = ns at h1 ⊢
  generalize k q.1 = ms at h2 ⊢
  obtain ⟨a, o, us, n, e, ho, hc, hd, hi⟩ := h1
  obtain ⟨a', o', us', n', e', ho', hc', hd', hi'⟩ := h2
  rw [e, e']
  refine PySem.W.kat_lt ho hd ho' hd' (lex_kat 0 hi hi' ?_ ⟨rfl, rfl⟩)
  have l1 : us.size = ns.length := by simpa using hi.length
  have l2 : us'.size = ms.length := by simpa using hi'.length
  rw [l1, l2]
theorem IsTI.keeps {h h' : Heap} {v : Value} {ns : List Int} (x : IsTI h v ns) (k : ∀ b o, h.get? b = some o → o.cls = .type "tuple" → h'.get? b = some o) : IsTI h' v ns := by
  obtain ⟨a, o, us, n, e, ho, hc, hd, hi⟩ := x
  exact ⟨a, o, us, n, e, k _ _ ho hc, hc, hd, hi⟩
theorem firsts_tups {h : Heap} : ∀ {vs : List Value} {k : Value → List Int}, (∀ v ∈ vs, IsTI h v (k v) ∧ k v ≠ []) → ∃ fs, PySem.W.KatTups h vs fs ∧ fs.length = vs.length ∧ ∀ f ∈ fs, ∃ x t, f = Value.int x t
  | [], k, _ => ⟨[], trivial, rfl, fun f hf => absurd hf (by simp)⟩
  | v :: vs, k, hp => by
    obtain ⟨fs, h1, h2, h3⟩ := firsts_tups (vs := vs) (k := k) fun u hu => hp u (List.mem_cons_of_mem _ hu)
    obtain ⟨⟨a, o, us, n, e, ho, hc, hd, hi⟩, hne⟩ := hp v List.mem_cons_self
    subst e
    cases q : k (.ref a) with
    | nil => exact absurd q hne
    | cons x ns =>
      rw [q] at hi
      obtain ⟨ul⟩ := us
      dsimp only at hi
      cases hi with
      | cons _ t r =>
        refine ⟨.int x t :: fs, PySem.W.KatTups.cons ho hc hd (by simp) h1, by simp [h2], fun f hf => ?_⟩
        rcases List.mem_cons.mp hf with e | hf
        · exact ⟨x, t, e⟩
        · exact h3 f hf
theorem tups_sortable {a : Addr} {vs : List Value} {k : Value → List Int} (h0 : 0 < vs.length) (hp : ∀ v ∈ vs, IsTI s.heap v (k v) ∧ k v ≠ []) (ha : ∀ o, s.heap.get? a = some o → o.cls ≠ .type "tuple") : SortableO prog w A s a vs fun v u => HT.lexLt (k v) (k u) := by
  intro h' keep
  have hp' : ∀ v ∈ vs, IsTI h' v (k v) ∧ k v ≠ [] := fun v hm => ⟨(hp v hm).1.keeps fun b o e c => keep b o (fun z => by subst z; exact ha o e c) e, (hp v hm).2⟩
  obtain ⟨fs, h1, h2, h3⟩ := firsts_tups hp'
  refine ⟨tuples' true, fun Q E hq => ?_, tup_cmp fun v hv => (hp' v hv).1⟩
  refine PySem.W.kat_kind (T := .type "int") h1 (by omega) (fun f hm => ?_) (by rfl) ?_
  · obtain ⟨x, t, rfl⟩ := h3 f hm
    exact PySem.W.Looks.now
  · have e : (Value.type "int" != Value.type "tuple") = true := by first | decide +kernel | rfl | decide
    rw [e]
    exact hq

def ltC (a b : Str) : Bool := decide (a.cps.toList < b.cps.toList)
def leC' (a b : Str) : Bool := !ltC b a
def ltSv (v u : Value) : Bool := ltC (strOf v) (strOf u)
theorem ltC_asym {a b : Str} (h : ltC a b = true) : ltC b a = false := by
  unfold ltC at *
  simp only [decide_eq_true_eq, decide_eq_false_iff_not] at *
  exact List.lt_asymm h
theorem ltC_trans {a b c : Str} (h1 : ltC b a = false) (h2 : ltC c b = false) : ltC c a = false := by
  unfold ltC at *
  simp only [decide_eq_false_iff_not] at *
  rw [List.not_lt] at *
  exact List.le_trans h1 h2
theorem ltC_conn {a b : Str} (h1 : ltC b a = false) (h2 : ltC a b = false) : a = b := by
  unfold ltC at *
  simp only [decide_eq_false_iff_not] at *
  rw [List.not_lt] at *
  have := List.le_antisymm h1 h2
  cases a; cases b
  simp only [Str.mk.injEq]
  exact Array.toList_inj.mp this
theorem leC_trans (a b c : Str) (h : leC' a b = true) (h2 : leC' b c = true) : leC' a c = true := by
  unfold leC' at *
  rw [Bool.not_eq_true'] at *
  exact ltC_trans h h2
theorem leC_total (a b : Str) : (leC' a b || leC' b a) = true := by
  unfold leC'
  cases q : ltC b a with
  | false => rfl
  | true => rw [ltC_asym q]; rfl
theorem leC_anti {a b : Str} (h : leC' a b = true) (h2 : leC' b a = true) : a = b := by
  unfold leC' at *
  rw [Bool.not_eq_true'] at *
  exact ltC_conn h h2
theorem swo_str : Swo ltSv := ⟨fun x y h => ltC_asym h, fun x y z h1 h2 => ltC_trans h1 h2⟩
theorem str_cmp {vs : List Value} {ss : List Str} (hS : StrsAre vs ss) : Cmp prog w A s oneType' (fun p => p.1 ∈ vs) (lt2 ltSv) := by
  intro p q hm hm'
  obtain ⟨a, t, e⟩ := hS.all _ hm
  obtain ⟨b, u, e'⟩ := hS.all _ hm'
  show wpAny (model prog w) A (keyLt' oneType' p.1 q.1) (fun r s' => s' = s ∧ r = ltSv p.1 q.1) (fun _ _ => False) s
  rw [e, e', keyLt'_oneType]
  exact oneLt_str ⟨rfl, rfl⟩
theorem strs_sortable {a : Addr} {vs : List Value} {ss : List Str} (hS : StrsAre vs ss) (h2 : 2 ≤ vs.length) : SortableO prog w A s a vs ltSv := by
  intro h' _
  refine ⟨oneType', fun Q E hq => ?_, str_cmp hS⟩
  match vs, hS, h2 with
  | v1 :: v2 :: rest, hS, _ =>
    rw [keyKind_strs hS]
    exact wpAny_pure hq
  | [], _, h => exact absurd h (by decide)
  | [v], _, h => exact absurd h (by simp)
theorem strs_out {vs out : List Value} {ss : List Str} (hS : StrsAre vs ss) (hs : Srtd ltSv out) (hb : Stb ltSv out vs) : StrsAre out (out.map strOf) ∧ out.map strOf = ss.mergeSort leC' := by
  refine ⟨strsAre_map out fun v hv => hS.all v (hb.perm.mem_iff.mp hv), ?_⟩
  have q := hb.perm.map strOf
  rw [hS.strs] at q
  have p1 : (out.map strOf).Pairwise fun a b => leC' a b = true := List.pairwise_map.mpr (hs.imp fun {x y} h => by
    have h' : ltC (strOf y) (strOf x) = false := h
    unfold leC'
    rw [h']
    rfl)
  exact List.Perm.eq_of_pairwise (le := fun a b => leC' a b = true) (fun a b _ _ h3 h4 => leC_anti h3 h4) p1 (List.pairwise_mergeSort leC_trans leC_total ss) (q.trans (List.mergeSort_perm _ _).symm)
theorem rev_strs : ∀ {vs : List Value} {ss : List Str}, StrsAre vs ss → StrsAre vs.reverse ss.reverse := fun {vs ss} h => by
  have := strsAre_map vs.reverse fun v hv => h.all v (List.mem_reverse.mp hv)
  rw [List.map_reverse, h.strs] at this
  exact this
end
end SrtL

namespace L2
open PySem PySem.Spec PyProof.Rows
/-- a tuple of ints, by value -/
def TupJ (K : PySem.W.Frag) (H : Hp) (x : V) (ns : List Int) : Prop := ∃ t, x = .ref t ∧ SqT K H t (ns.map V.int)
def rSortTL (K : PySem.W.Frag) : List V → Hp → VK → Prop := fun vs H Q => ∃ (a : Addr) (xs : List V), vs = [V.ref a] ∧ SqL K H a xs ∧ (∀ x ∈ xs, ∃ ns, TupJ K H x ns ∧ ns ≠ []) ∧
  ∀ (ys : List V) (p : Addr), ys.Perm xs → ys.Pairwise (fun x y => ∀ n m, TupJ K H x n → TupJ K H y m → HT.lexLt m n = false) → H p = none → Q (.ref p) (upd H p (.lst ys))
section
variable {X : Cx} {pins : List (Addr × Obj)} {σ : St} {H : Hp} {s : Shared}
theorem tupJ_raw (I : Inv X pins σ H s) {t : Addr} {ns : List Int} (h : SqT X.K H t (ns.map V.int)) : SrtL.IsTI s.heap (.ref t) ns := by
  obtain ⟨its, rv, ⟨o, h1, h2, n, h3⟩, _⟩ := I.tuple h
  exact ⟨t, o, its.toArray, n, rfl, h1, h2, h3, by simpa using rv.ints⟩
theorem bk_refs : ∀ {xs : List V} {us : List Value}, Vals xs us → (∀ x ∈ xs, ∃ a, x = V.ref a) → ∃ as : List Addr, xs = as.map V.ref ∧ us = as.map Value.ref
  | _, _, .nil, _ => ⟨[], rfl, rfl⟩
  | x :: xs, _ :: us, .cons r t, h => by
    obtain ⟨a, e⟩ := h x List.mem_cons_self
    subst e
    cases r
    obtain ⟨as, h1, h2⟩ := bk_refs t fun y hy => h y (List.mem_cons_of_mem _ hy)
    exact ⟨a :: as, by rw [h1]; rfl, by rw [h2]; rfl⟩
theorem vals_refsZ : ∀ as : List Addr, Vals (as.map V.ref) (as.map Value.ref)
  | [] => .nil
  | a :: as => .cons rfl (vals_refsZ as)
def rA : Value → Addr
  | .ref a => a
  | _ => 0
theorem cr_sortTL : CallR X (.builtin "sorted") (rSortTL X.K) := by
  intro pins s σ H vs us Q I r h
  obtain ⟨a, xs, rfl, hs, hx, q⟩ := h
  obtain ⟨its, rv, hl, hz⟩ := I.list hs
  rw [Vals.ref1 r]
  obtain ⟨as, e1, e2⟩ := bk_refs rv fun x m => by
    obtain ⟨ns, ⟨t, e, _⟩, _⟩ := hx x m
    exact ⟨t, e⟩
  subst e1 e2
  have hk : ∀ v ∈ as.map Value.ref, SrtL.IsTI s.heap v (SrtL.kOf s.heap v) ∧ SrtL.kOf s.heap v ≠ [] := fun v hv => by
    obtain ⟨b, hb, rfl⟩ := List.mem_map.mp hv
    obtain ⟨ns, ⟨t, e, ht⟩, hne⟩ := hx (.ref b) (List.mem_map.mpr ⟨b, hb, rfl⟩)
    cases e
    have := tupJ_raw I ht
    rw [SrtL.kOf_eq this]
    exact ⟨this, hne⟩
  refine SrtO.sorted_ord (SrtL.swo_k (SrtL.kOf s.heap)) hl.isList (by rw [← rv.length]; exact hz) (fun h2 h₁ a' ha' kk => ?_) fun out h1 h2 => ?_
  · refine SrtL.tups_sortable (s := { s with heap := h₁ }) (by omega) (fun v hm => ⟨(hk v hm).1.keeps fun b o e _ => (kk b o e).2, (hk v hm).2⟩) fun o e => ?_
    have e' : some o = some (seqObj "list" (as.map Value.ref).toArray 0) := e.symm.trans ha'
    cases e'
    intro c
    exact absurd (Value.type.inj c) (by decide)
  · obtain ⟨ep, he'⟩ := PyProof.Rows.sortedAll_at s.heap (as.map Value.ref) out.toArray
    have hp := h2.perm
    have hp3 : (out.map rA).Perm as := by
      have := hp.map rA
      rw [List.map_map] at this
      have e : (rA ∘ Value.ref) = id := rfl
      rwa [e, List.map_id] at this
    have eo : out = (out.map rA).map Value.ref := by
      rw [List.map_map]
      refine (List.map_id' out).symm.trans (List.map_congr_left fun v hv => ?_)
      obtain ⟨b, _, rfl⟩ := List.mem_map.mp (hp.mem_iff.mp hv)
      rfl
    have hlen : ((out.map rA).map V.ref).length ≤ sizeLine := by
      rw [List.length_map, hp3.length_eq]
      rw [List.length_map] at hz
      exact hz
    refine ⟨.ref _, upd H (s.heap.objs.size + 1) (.lst ((out.map rA).map V.ref)), I.laid (t' := s.toks) (fun _ _ => PyProof.Rows.sortedAll_old) (Nat.le_succ _) ⟨hlen, out, ep, ?_, he'⟩, rfl, q _ _ (hp3.map _) ?_ (I.hok.fresh (Nat.le_succ _))⟩
    · have := vals_refsZ (out.map rA)
      rw [← eo] at this
      exact this
    · rw [List.pairwise_map, List.pairwise_map]
      refine List.Pairwise.imp_of_mem (fun {u v} hu hv huv n m hn hm => ?_) h1
      obtain ⟨t, et, ht⟩ := hn
      obtain ⟨t', et', ht'⟩ := hm
      obtain ⟨b, hb, rfl⟩ := List.mem_map.mp (hp.mem_iff.mp hu)
      obtain ⟨b', hb', rfl⟩ := List.mem_map.mp (hp.mem_iff.mp hv)
      cases et
      cases et'
      have huv' : HT.lexLt (SrtL.kOf s.heap (.ref b')) (SrtL.kOf s.heap (.ref b)) = false := huv
      rw [SrtL.kOf_eq (v := .ref b) (tupJ_raw I ht), SrtL.kOf_eq (v := .ref b') (tupJ_raw I ht')] at huv'
      exact huv'
theorem vals_strsZ : ∀ {us : List Value} {ss : List Str}, StrsAre us ss → Vals (ss.map V.str) us
  | _, _, .nil => .nil
  | _, _, .cons x t r => .cons ⟨t, rfl⟩ (vals_strsZ r)
theorem strs_of : ∀ {ss : List Str} {us : List Value}, Vals (ss.map V.str) us → StrsAre us ss
  | [], _, .nil => .nil
  | s :: ss, _, .cons ⟨t, e⟩ r => by
    subst e
    exact .cons s t (strs_of r)
def rSortS (K : PySem.W.Frag) : List V → Hp → VK → Prop := fun vs H Q => ∃ (a : Addr) (ss : List Str), vs = [V.ref a] ∧ SqL K H a (ss.map V.str) ∧ ∀ p : Addr, H p = none → Q (.ref p) (upd H p (.lst ((ss.mergeSort SrtL.leC').map V.str)))
theorem cr_sortS : CallR X (.builtin "sorted") (rSortS X.K) := by
  intro pins s σ H vs us Q I r h
  obtain ⟨a, ss, rfl, hs, q⟩ := h
  obtain ⟨its, rv, hl, hz⟩ := I.list hs
  rw [Vals.ref1 r]
  have hS := strs_of rv
  refine SrtO.sorted_ord SrtL.swo_str hl.isList (by rw [← rv.length]; exact hz) (fun h2 h₁ a' _ _ => SrtL.strs_sortable hS h2) fun out h1 h2 => ?_
  obtain ⟨k1, k2⟩ := SrtL.strs_out hS h1 h2
  obtain ⟨ep, he'⟩ := PyProof.Rows.sortedAll_at s.heap its out.toArray
  have hlen : ((ss.mergeSort SrtL.leC').map V.str).length ≤ sizeLine := by
    rw [List.length_map, List.length_mergeSort]
    rw [List.length_map] at hz
    exact hz
  rw [k2] at k1
  exact ⟨.ref _, upd H (s.heap.objs.size + 1) (.lst ((ss.mergeSort SrtL.leC').map V.str)), I.laid (t' := s.toks) (fun _ _ => PyProof.Rows.sortedAll_old) (Nat.le_succ _) ⟨hlen, out, ep, vals_strsZ k1, he'⟩, rfl, q _ (I.hok.fresh (Nat.le_succ _))⟩
def rSortSR (K : PySem.W.Frag) : List V → List V → Hp → VK → Prop := fun vs zs H Q => ∃ (a : Addr) (ss : List Str), vs = [V.ref a] ∧ zs = [.bl true] ∧ SqL K H a (ss.map V.str) ∧ ∀ p : Addr, H p = none → Q (.ref p) (upd H p (.lst ((ss.reverse.mergeSort SrtL.leC').reverse.map V.str)))
theorem cr_sortSR : CallRK X (.builtin "sorted") [Str.ofString "reverse"] (rSortSR X.K) := by
  intro pins s σ H vs zs us ws Q I r rz h
  obtain ⟨a, ss, rfl, rfl, hs, q⟩ := h
  obtain rfl := Vals.ref1 r
  obtain ⟨w1, rfl, e1⟩ := vals1 rz
  obtain rfl : w1 = Value.bool true := e1
  obtain ⟨its, rv, hl, hz⟩ := I.list hs
  have hS := strs_of rv
  refine SrtR.sorted_ordK (b := true) (fun _ => rfl) (PyProof.Rows.args_sorted_rev _ _) (fun _ => PyProof.Rows.args_list_sort_rev _ _) SrtL.swo_str hl.isList (by rw [← rv.length]; exact hz) (fun h2 h₁ a' _ _ => SrtL.strs_sortable hS h2) fun out h1 h2 => ?_
  obtain ⟨k1, k2⟩ := SrtL.strs_out (SrtL.rev_strs hS) h1 h2
  obtain ⟨ep, he'⟩ := PyProof.Rows.sortedAll_at s.heap its out.toArray.reverse
  have hlen : ((ss.reverse.mergeSort SrtL.leC').reverse.map V.str).length ≤ sizeLine := by
    rw [List.length_map, List.length_reverse, List.length_mergeSort, List.length_reverse]
    rw [List.length_map] at hz
    exact hz
  rw [k2] at k1
  have k3 := SrtL.rev_strs k1
  have e0 : (out.toArray.reverse).toList = out.reverse := by rw [Array.toList_reverse]
  exact ⟨.ref _, upd H (s.heap.objs.size + 1) (.lst ((ss.reverse.mergeSort SrtL.leC').reverse.map V.str)), I.laid (t' := s.toks) (fun _ _ => PyProof.Rows.sortedAll_old) (Nat.le_succ _) ⟨hlen, out.reverse, ep, vals_strsZ k3, by rw [← e0, Array.toArray_toList]; exact he'⟩, rfl, q _ (I.hok.fresh (Nat.le_succ _))⟩
end
end L2

noncomputable section
set_option maxHeartbeats 2000000
namespace Z
open PySem PySem.Spec PyProof.Rows L2

section
variable {c : Cn} {ρ ρ' : List Addr} {A : Hh} {H H' : Hp} {σd : Sl} {σ : L2.St} {W : WX}
theorem rg_ok (i j : Int) : Rvs c ρ H (rngI i j) (rgV i j) := by
  unfold rngI rgV
  generalize List.range (j - i).toNat = l
  induction l with
  | nil => exact .nil
  | cons k l ih => exact .cons (.int _) ih
theorem rngI_len (i j : Int) : (rngI i j).length = (j - i).toNat := by simp [rngI]
theorem rngM_ok {x y : D} {v u : V} {P : List D → List Addr → Hh → Hp → Prop} (rv : Rv c ρ H x v) (ru : Rv c ρ H y u) (h : Ld c ρ H σ W (mb (rngM x y) lstM A) P) (R : Rel c ρ A H) :
    ∃ i j, v = .int i ∧ u = .int j ∧ RgOk i j ∧ (rngI i j).length ≤ SZ ∧ P (rngI i j) ρ A H := by
  cases rv <;> cases ru <;> first | exact False.elim h | skip
  rename_i i j
  unfold mb rngM at h
  dsimp only at h
  split at h
  · rename_i q
    simp only [Bool.and_eq_true, decide_eq_true_eq] at q
    obtain ⟨hz, h2⟩ := iteP R h
    refine ⟨i, j, rfl, rfl, ?_, hz, h2⟩
    rw [rngI_len] at hz
    unfold SZ at hz
    unfold RgOk
    omega
  · exact False.elim h
end
theorem mb_mb {α β γ : Type} (m : M α) (f : α → M β) (g : β → M γ) : mb (mb m f) g = mb m fun x => mb (f x) g := by
  funext A
  unfold mb
  cases m A with
  | none => rfl
  | some r => cases r <;> rfl

section
variable {X : Cx} {c : Cn} {W : WX} {a b d e : Expr} {fa fb fd : Ev D} {qa qb : Ev (List D)} {ua ub : Ev (List D × Wt)} {pos p p1 p2 apos : Pos} {x : Str} {es : List Expr} {fs : Ev (List D)}
theorem pa1 {t : TE} (h : PE X e t) (hs : starEach [e] X.env = (false, eval e X.env) :: starEach [] X.env := by rfl) : PA X [e] (tCons t tNil) := pa_cons h pa_nil hs

theorem arg1 {t : TE} {r : List V → Hp → VK → Prop} {σ : L2.St} {H : Hp} {Q : VK} (h : t σ H fun x H1 => r [x] H1 Q) : tCB r (tCons t tNil) σ H Q := h

theorem z_tupq (hK : c.K = X.K) (hg : Gl X "tuple") (hm : X.mg "tuple" = none) (h : PE X e (tU c W ua)) (hs : starEach [e] X.env = (false, eval e X.env) :: starEach [] X.env := by rfl) (hpl : (backTo pos (starEach [] X.env)).any (·.1) = false := by rfl) :
    PE X (.Call (.Name "tuple" p) [e] [] pos) (tE c W (ztupq ua)) :=
  (pe_callTy call_tupF hg hm boot_tuple (pa1 h hs) (he := hs) (hpl := hpl)).zm fun σ H Q ⟨ρ, A, σd, R, S, h⟩ => arg1 <| oneU R S h fun q a vs ρ1 A1 H1 R1 s1 S1 hs rvs h1 => by
    refine ⟨a, vs, rfl, ?_⟩
    rw [← hK]
    rcases hs with ⟨hs | hs | hs, _⟩ | ⟨n, _, hs, _⟩
    · exact .inr ⟨hs.sq, h1 ρ1 H1 R1 .refl _ (.tup hs rvs)⟩
    · exact .inl ⟨hs.sq, newTup R1 rvs h1⟩
    · exact .inl ⟨.of hs.1, newTup R1 rvs h1⟩
    · exact .inl ⟨.of hs, newTup R1 rvs h1⟩
theorem z_lstq (hK : c.K = X.K) (hg : Gl X "list") (hm : X.mg "list" = none) (h : PE X e (tU c W ua)) (hs : starEach [e] X.env = (false, eval e X.env) :: starEach [] X.env := by rfl) (hpl : (backTo pos (starEach [] X.env)).any (·.1) = false := by rfl) :
    PE X (.Call (.Name "list" p) [e] [] pos) (tN c W (zrow ua)) :=
  (pe_callTy call_list_of hg hm boot_list (pa1 h hs) (he := hs) (hpl := hpl)).zm fun σ H Q ⟨ρ, A, σd, R, S, h⟩ => arg1 <| oneU R S h fun q a vs ρ1 A1 H1 R1 s1 S1 hs rvs h1 => by
    refine ⟨a, vs, rfl, ?_, fun p n => h1 ρ1 H1 R1 .refl p vs n rvs⟩
    rw [← hK]
    exact hs.sq
theorem z_lenq (hK : c.K = X.K) (hg : Gl X "len") (hm : X.mg "len" = none) (h : PE X e (tU c W ua)) (hs : starEach [e] X.env = (false, eval e X.env) :: starEach [] X.env := by rfl) (hpl : (backTo pos (starEach [] X.env)).any (·.1) = false := by rfl) :
    PE X (.Call (.Name "len" p) [e] [] pos) (tE c W (zlenq ua)) :=
  (pe_callB call_len_seq hg hm (by rfl) (pa1 h hs) (he := hs) (hpl := hpl)).zm fun σ H Q ⟨ρ, A, σd, R, S, h⟩ => arg1 <| oneU R S h fun q a vs ρ1 A1 H1 R1 s1 S1 hs rvs h1 => by
    refine ⟨a, vs, rfl, ?_, ?_⟩
    · rw [← hK]
      exact hs.sq
    · rw [← rvs.length]
      exact Ld.old R1 h1 (.int _)
theorem z_lstr (hcm : X.calm = true) (hg : Gl X "list") (hm : X.mg "list" = none) (hg2 : Gl X "range") (hm2 : X.mg "range" = none) (ha : PE X a (tE c W fa)) (na : starEach [a] X.env = (false, eval a X.env) :: starEach [] X.env := by rfl)
    (n2 : starEach [.Call (.Name "range" p1) [a] [] p2] X.env = (false, eval (.Call (.Name "range" p1) [a] [] p2) X.env) :: starEach [] X.env := by rfl) :
    PE X (.Call (.Name "list" p) [.Call (.Name "range" p1) [a] [] p2] [] pos) (tN c W (zlst (zrng (zc (.int 0)) fa))) :=
  (pe_listRg hcm hg hm (prg_1 hg2 hm2 ha na) n2).zm fun σ H Q ⟨ρ, A, σd, R, S, h⟩ => by
    have e : zlst (zrng (zc (.int 0)) fa) σd = mb (fa σd) (fun y => mb (rngM (.int 0) y) lstM) := by
      unfold zlst zrng
      rw [mb_mb]
      show mb (mb (fa σd) _) lstM = _
      rw [mb_mb]
    rw [e] at h
    refine one R S h fun y u ρ1 A1 H1 R1 s1 S1 ru h1 => ?_
    obtain ⟨i, j, e1, e2, h2, h3, h4⟩ := rngM_ok (.int 0) ru h1 R1
    cases e1
    exact ⟨j, e2, h2, fun q n => h4 q _ n (rg_ok _ _)⟩
theorem z_lstr2 (hcm : X.calm = true) (hg : Gl X "list") (hm : X.mg "list" = none) (hg2 : Gl X "range") (hm2 : X.mg "range" = none) (ha : PE X a (tE c W fa)) (hb : PE X b (tE c W fb)) (na : starEach [a, b] X.env = (false, eval a X.env) :: starEach [b] X.env := by rfl)
    (nb : starEach [b] X.env = (false, eval b X.env) :: starEach [] X.env := by rfl) (hp : (backTo p2 (starEach [b] X.env)).any (·.1) = false := by rfl)
    (n2 : starEach [.Call (.Name "range" p1) [a, b] [] p2] X.env = (false, eval (.Call (.Name "range" p1) [a, b] [] p2) X.env) :: starEach [] X.env := by rfl) :
    PE X (.Call (.Name "list" p) [.Call (.Name "range" p1) [a, b] [] p2] [] pos) (tN c W (zlst (zrng fa fb))) :=
  (pe_listRg hcm hg hm (prg_2 hg2 hm2 ha hb na nb hp) n2).zm fun σ H Q ⟨ρ, A, σd, R, S, h⟩ => by
    unfold zlst zrng at h
    rw [mb_mb] at h
    refine one R S h fun x v ρ1 A1 H1 R1 s1 S1 rv h1 => ?_
    rw [mb_mb] at h1
    refine one R1 S1 h1 fun y u ρ2 A2 H2 R2 s2 S2 ru h2 => ?_
    obtain ⟨i, j, e1, e2, h3, h4, h5⟩ := rngM_ok (rv.to R1 s2) ru h2 R2
    exact ⟨i, j, e1, e2, h3, fun q n => h5 q _ n (rg_ok _ _)⟩
theorem z_tupr (hcm : X.calm = true) (hg : Gl X "tuple") (hm : X.mg "tuple" = none) (hg2 : Gl X "range") (hm2 : X.mg "range" = none) (ha : PE X a (tE c W fa)) (na : starEach [a] X.env = (false, eval a X.env) :: starEach [] X.env := by rfl)
    (n2 : starEach [.Call (.Name "range" p1) [a] [] p2] X.env = (false, eval (.Call (.Name "range" p1) [a] [] p2) X.env) :: starEach [] X.env := by rfl) :
    PE X (.Call (.Name "tuple" p) [.Call (.Name "range" p1) [a] [] p2] [] pos) (tE c W (ztupq (zst (zlst (zrng (zc (.int 0)) fa))))) :=
  (pe_tupRgF hcm hg hm (prg_1 hg2 hm2 ha na) n2).zm fun σ H Q ⟨ρ, A, σd, R, S, h⟩ => by
    have e : ztupq (zst (zlst (zrng (zc (.int 0)) fa))) σd = mb (fa σd) (fun y => mb (mb (rngM (.int 0) y) lstM) fun xs => ok (.tup xs)) := by
      unfold ztupq zst zlst zrng
      simp only [mb_mb]
      show mb (fa σd) _ = _
      rfl
    rw [e] at h
    refine one R S h fun y u ρ1 A1 H1 R1 s1 S1 ru h1 => ?_
    obtain ⟨i, j, e1, e2, h2, h3, h4⟩ := rngM_ok (.int 0) ru (Ld.bind h1) R1
    cases e1
    exact ⟨j, e2, h2, newTup R1 (rg_ok _ _) h4⟩
end
end Z

noncomputable section
set_option maxHeartbeats 2000000
namespace Z
open PySem PySem.Spec PyProof.Rows L2

section
variable {c : Cn} {ρ ρ' : List Addr} {A : Hh} {H H' : Hp} {σd : Sl} {σ : L2.St} {W : WX}
/-- later in the same run -/
theorem Ld.to {α : Type} {r : Option (R α)} {P : α → List Addr → Hh → Hp → Prop} (h : Ld c ρ H σ W r P) (s : St' ρ H ρ' H') : Ld c ρ' H' σ W r P := by
  revert h
  cases r with
  | none => exact fun h => h
  | some r =>
    cases r with
    | ok a A1 => exact fun h ρ2 H2 R2 s2 => h ρ2 H2 R2 (s.trans s2)
    | ex x A1 => exact fun h ρ2 H2 R2 s2 => h ρ2 H2 R2 (s.trans s2)
end

theorem lex_code {B : Int} : ∀ {m n : List Int}, m.length = n.length → TS.Bd B m → TS.Bd B n → HT.lexLt m n = true → TS.code B m < TS.code B n
  | [], [], _, _, _, h => by simp [HT.lexLt] at h
  | [], _ :: _, hl, _, _, _ => by simp at hl
  | _ :: _, [], hl, _, _, _ => by simp at hl
  | a :: m, b :: n, hl, hm, hn, h => by
    rw [HT.lexLt_cons] at h
    have hl' : m.length = n.length := by simpa using hl
    by_cases e : a = b
    · subst e
      rw [if_pos rfl] at h
      exact (TS.code_same hl').mpr (lex_code hl' hm.tail hn.tail h)
    · rw [if_neg e] at h
      exact TS.code_lt hl' hm.tail hn.tail (of_decide_eq_true h)
theorem leL_of_code {B : Int} {m n : List Int} (hl : m.length = n.length) (hm : TS.Bd B m) (hn : TS.Bd B n) (h : TS.code B m ≤ TS.code B n) : leL m n = true := by
  unfold leL
  cases q : HT.lexLt n m with
  | false => rfl
  | true => exact absurd (lex_code hl.symm hn hm q) (by omega)
theorem lexLt_irrefl : ∀ l : List Int, HT.lexLt l l = false
  | [] => rfl
  | a :: l => by rw [HT.lexLt_cons, if_pos rfl]; exact lexLt_irrefl l
theorem lexLt_asym : ∀ {m n : List Int}, HT.lexLt m n = true → HT.lexLt n m = false
  | [], [], h => by simp [HT.lexLt] at h
  | [], _ :: _, _ => rfl
  | _ :: _, [], h => by simp [HT.lexLt] at h
  | a :: m, b :: n, h => by
    rw [HT.lexLt_cons] at h ⊢
    by_cases e : a = b
    · subst e
      rw [if_pos rfl] at h ⊢
      exact lexLt_asym h
    · rw [if_neg e] at h
      rw [if_neg (fun z => e z.symm)]
      have := of_decide_eq_true h
      exact decide_eq_false (by omega)
theorem lexLt_conn : ∀ {m n : List Int}, HT.lexLt m n = false → HT.lexLt n m = false → m = n
  | [], [], _, _ => rfl
  | [], _ :: _, h, _ => by simp [HT.lexLt] at h
  | _ :: _, [], _, h => by simp [HT.lexLt] at h
  | a :: m, b :: n, h, h2 => by
    rw [HT.lexLt_cons] at h h2
    by_cases e : a = b
    · subst e
      rw [if_pos rfl] at h h2
      rw [lexLt_conn h h2]
    · rw [if_neg e] at h
      rw [if_neg (fun z => e z.symm)] at h2
      have h3 := of_decide_eq_false h
      have h4 := of_decide_eq_false h2
      omega
theorem lexLt_trans : ∀ {l m n : List Int}, HT.lexLt m l = false → HT.lexLt n m = false → HT.lexLt n l = false
  | [], _, n, _, _ => by cases n <;> rfl
  | _ :: _, [], n, h, _ => by simp [HT.lexLt] at h
  | _ :: _, _ :: _, [], _, h => by simp [HT.lexLt] at h
  | a :: l, b :: m, d :: n, h, h2 => by
    rw [HT.lexLt_cons] at h h2 ⊢
    by_cases e : b = a
    · subst e
      rw [if_pos rfl] at h
      by_cases e2 : d = b
      · subst e2
        rw [if_pos rfl] at h2 ⊢
        exact lexLt_trans h h2
      · rw [if_neg e2] at h2 ⊢
        exact h2
    · rw [if_neg e] at h
      have h3 := of_decide_eq_false h
      by_cases e2 : d = b
      · subst e2
        rw [if_neg e]
        exact h
      · rw [if_neg e2] at h2
        have h4 := of_decide_eq_false h2
        rw [if_neg (by omega)]
        exact decide_eq_false (by omega)
theorem leL_trans (a b c : List Int) (h : leL a b = true) (h2 : leL b c = true) : leL a c = true := by
  unfold leL at *
  rw [Bool.not_eq_true'] at *
  exact lexLt_trans h h2
theorem leL_total (a b : List Int) : (leL a b || leL b a) = true := by
  unfold leL
  cases q : HT.lexLt b a with
  | false => rfl
  | true => rw [lexLt_asym q]; rfl
theorem leL_anti {a b : List Int} (h : leL a b = true) (h2 : leL b a = true) : a = b := by
  unfold leL at *
  rw [Bool.not_eq_true'] at *
  exact lexLt_conn h2 h
theorem leZ_trans (a b c : Int) (h : leZ a b = true) (h2 : leZ b c = true) : leZ a c = true := by
  unfold leZ at *
  simp only [decide_eq_true_eq] at *
  omega
theorem leZ_total (a b : Int) : (leZ a b || leZ b a) = true := by
  unfold leZ
  simp only [Bool.or_eq_true, decide_eq_true_eq]
  omega
theorem uniq_ints {ns ms : List Int} (p : ms.Perm ns) (h : ms.Pairwise (· ≤ ·)) : ms = ns.mergeSort leZ := by
  have h2 := List.pairwise_mergeSort leZ_trans leZ_total ns
  refine List.Perm.eq_of_pairwise (le := fun a b => leZ a b = true) (fun a b _ _ h3 h4 => ?_) (h.imp fun h3 => by unfold leZ; exact decide_eq_true h3) h2 (p.trans (List.mergeSort_perm _ _).symm)
  unfold leZ at h3 h4
  simp only [decide_eq_true_eq] at h3 h4
  omega
theorem uniq_tups {ns ms : List (List Int)} (p : ms.Perm ns) (h : ms.Pairwise fun a b => leL a b = true) : ms = ns.mergeSort leL :=
  List.Perm.eq_of_pairwise (le := fun a b => leL a b = true) (fun a b _ _ h3 h4 => leL_anti h3 h4) h (List.pairwise_mergeSort leL_trans leL_total ns) (p.trans (List.mergeSort_perm _ _).symm)
theorem tupsOf_map : ∀ {xs : List D} {ts : List (List Int)}, tupsOf xs = some ts → xs = ts.map tupD
  | [], ts, e => by simp only [tupsOf, Option.some.injEq] at e; subst e; rfl
  | x :: xs, ts, e => by
    cases x with
    | tup ys =>
      cases q : intsOf ys with
      | none => simp [tupsOf, q] at e
      | some n =>
        cases q2 : tupsOf xs with
        | none => simp [tupsOf, q, q2] at e
        | some ns =>
          simp only [tupsOf, q, q2, Option.some.injEq] at e
          subst e
          rw [List.map_cons, tupsOf_map q2, tupD, intsOf_map q]
    | _ => simp [tupsOf] at e
def tupI' (d : D) : Option (List Int) := match d with
  | .tup zs => intsOf zs
  | _ => none
theorem tupI'_map : ∀ ts : List (List Int), (ts.map tupD).filterMap tupI' = ts
  | [] => rfl
  | t :: ts => by rw [List.map_cons, List.filterMap_cons, tupI'_map ts]; simp only [tupD, tupI', intsOf_ints]
theorem perm_tups {ys : List D} {ts : List (List Int)} (p : ys.Perm (ts.map tupD)) : ∃ ms : List (List Int), ys = ms.map tupD ∧ ms.Perm ts := by
  have h9 := p.filterMap tupI'
  rw [tupI'_map] at h9
  refine ⟨_, ?_, h9⟩
  have : ∀ y ∈ ys, ∃ t, y = tupD t := fun y hy => by
    obtain ⟨t, _, e2⟩ := List.mem_map.mp (p.mem_iff.mp hy)
    exact ⟨t, e2.symm⟩
  clear p h9
  induction ys with
  | nil => rfl
  | cons y ys ih =>
    obtain ⟨t, e2⟩ := this y (List.mem_cons_self ..)
    subst e2
    have ih' := ih fun y hy => this y (List.mem_cons_of_mem _ hy)
    rw [List.filterMap_cons]
    simp only [tupD, tupI', intsOf_ints, List.map_cons]
    exact congrArg _ ih'
section
variable {c : Cn} {ρ : List Addr} {H : Hp}
/-- rows that stand in another order -/
theorem Rvs.perm {xs : List D} {vs us : List V} (p : us.Perm vs) (r : Rvs c ρ H xs vs) : ∃ ys, ys.Perm xs ∧ Rvs c ρ H ys us := by
  have key : ∀ {us vs : List V}, us.Perm vs → ∀ {xs : List D}, Rvs c ρ H xs us → ∃ ys, ys.Perm xs ∧ Rvs c ρ H ys vs := by
    intro us vs p
    induction p with
    | nil => exact fun r => ⟨_, .refl _, r⟩
    | cons v _ ih =>
      intro xs r
      cases r with
      | cons h t =>
        obtain ⟨ys, p2, r2⟩ := ih t
        exact ⟨_, p2.cons _, .cons h r2⟩
    | swap v u _ =>
      intro xs r
      cases r with
      | cons h t =>
        cases t with
        | cons h2 t => exact ⟨_, .swap _ _ _, .cons h2 (.cons h t)⟩
    | trans _ _ ih1 ih2 =>
      intro xs r
      obtain ⟨ys, p1, r1⟩ := ih1 r
      obtain ⟨zs, p2, r2⟩ := ih2 r1
      exact ⟨zs, p2.trans p1, r2⟩
  exact key p.symm r
theorem tups_pw {B : Int} : ∀ {ts : List (List Int)} {us : List V}, Rvs c ρ H (ts.map tupD) us → us.Pairwise (fun x y => ∀ n m, TupI c.K H x n → TupI c.K H y m → TS.code B n ≤ TS.code B m) →
    ts.Pairwise fun n m => TS.code B n ≤ TS.code B m
  | [], _, _, _ => .nil
  | t :: ts, v :: us, .cons h r, p => by
    rw [List.pairwise_cons] at p ⊢
    refine ⟨fun m hm => ?_, tups_pw r p.2⟩
    have hi : ∀ {t : List Int} {v : V}, Rv c ρ H (tupD t) v → TupI c.K H v t := fun {t v} h => by
      cases h with
      | tup h r => exact ⟨_, rfl, by rw [← r.ints (intsOf_ints t)]; exact h.sq⟩
    have : ∃ u, u ∈ us ∧ Rv c ρ H (tupD m) u := by
      obtain ⟨i, hi, e⟩ := List.mem_iff_getElem.mp hm
      obtain ⟨v, h1, h2⟩ := r.get (i := i) (d := tupD m) (by rw [List.getElem?_map, List.getElem?_eq_getElem hi, e]; rfl)
      exact ⟨v, List.mem_of_getElem? h1, h2⟩
    obtain ⟨u, hu, ru⟩ := this
    exact p.1 u hu t m (hi h) (hi ru)
end

section
variable {X : Cx} {c : Cn} {W : WX} {a b d e : Expr} {fa fb fd : Ev D} {qa qb : Ev (List D)} {ua ub : Ev (List D × Wt)} {pos p p1 p2 apos : Pos} {x : Str} {es : List Expr} {fs : Ev (List D)}
/-- a list that stays as it is -/
theorem z_fz (h : PE X e (tN c W qa)) : PE X e (tE c W (zfz qa)) := ⟨fun pins s σ H Q I ⟨ρ, A, σd, R, S, hl⟩ => by
  refine thn (h.run pins s σ H (fun x H1 => ∃ a vs, x = .ref a ∧ H1 a = some (.lst vs) ∧ ∀ ob, Q (.ref a) (upd H1 a (.frz ob (.lst vs)))) I ?_) fun v s1 ⟨x, H1, I1, r, a, vs, e, ha, q⟩ => ?_
  · refine ⟨ρ, A, σd, R, S, (Ld.bind hl).imp fun xs ρ1 A1 H1 R1 s1 h1 a vs n rvs => ⟨a, vs, rfl, upd_same, fun ob => ?_⟩⟩
    rw [upd_upd]
    obtain ⟨R2, s2, _⟩ := R1.laid (ho := .frz ob (.lst vs)) n
    exact h1 ρ1 _ R2 s2 _ (.lst (.inl ⟨ob, upd_same⟩) (rvs.to R1 s2))
  · subst e
    obtain ⟨z, its, n, rv, hob⟩ := I1.hok a _ ha
    exact ⟨.ref a, _, I1.write (x := a) (e := a) (t' := s1.toks) (h' := s1.heap) (by rw [ha]; trivial) (.inl rfl) (fun b u _ h => h) ⟨_, hob⟩ (o := .frz _ (.lst vs)) ⟨hob, z, its, n, rv, hob⟩, r, q _⟩⟩

theorem z_rep (ha : PE X a (tN c W qa)) (hb : PE X b (tE c W fb)) : PE X (.BinOp a .Mult b pos) (tN c W (zrep qa fb)) :=
  (pe_op op_rep ha hb).zm fun σ H Q ⟨ρ, A, σd, R, S, h⟩ => ⟨ρ, A, σd, R, S, (Ld.bind h).imp fun xs ρ1 A1 H1 R1 s1 h1 a vs n rvs => by
    obtain ⟨R2, s2, hp⟩ := R1.laid (ho := .lst vs) n
    refine one R2 ((S.to R s1).to R1 s2) (h1.to s2) fun y u ρ3 A3 H3 R3 s3 S3 ru h3 => ?_
    cases ru <;> first | exact False.elim h3 | skip
    rename_i k
    obtain ⟨e, h4⟩ := ite_none h3
    simp only [Bool.and_eq_true, decide_eq_true_eq] at e
    have hl := rvs.length
    have hz := SZ_le
    have r3 := (rvs.to R1 s2).to R2 s3
    refine ⟨a, k, vs, rfl, rfl, s3.fr a _ upd_same hp, by omega, by omega, by rw [← hl]; omega, fun p n => h4 ρ3 H3 R3 .refl p _ n (r3.rep _)⟩⟩
theorem z_cat (ha : PE X a (tN c W qa)) (hb : PE X b (tN c W qb)) : PE X (.BinOp a .Add b pos) (tN c W (zcat qa qb)) :=
  (pe_op op_cat ha hb).zm fun σ H Q ⟨ρ, A, σd, R, S, h⟩ => ⟨ρ, A, σd, R, S, (Ld.bind h).imp fun xs ρ1 A1 H1 R1 s1 h1 a vs n rvs => by
    obtain ⟨R2, s2, hp⟩ := R1.laid (ho := .lst vs) n
    refine ⟨ρ1, A1, σd, R2, (S.to R s1).to R1 s2, (Ld.bind (h1.to s2)).imp fun ys ρ3 A3 H3 R3 s3 h3 b us n2 rus => ?_⟩
    obtain ⟨R4, s4, hp2⟩ := R3.laid (ho := .lst us) n2
    obtain ⟨hz, h5⟩ := lstM_ok R4 (h3.to s4)
    have e1 : H3 a = some (.lst vs) := s3.fr a _ upd_same hp
    have l1 := rvs.length
    have l2 := rus.length
    have hz2 := SZ_le
    rw [List.length_append] at hz
    have r1 := ((rvs.to R1 s2).to R2 s3).to R3 s4
    have r2 := rus.to R3 s4
    refine ⟨a, b, vs, us, rfl, rfl, ?_, upd_same, by omega, fun p n => h5 p _ n (r1.append r2)⟩
    rw [upd_ne (fun e => by rw [e, n2] at e1; cases e1)]
    exact e1⟩

section
variable {hs : starEach [e] X.env = (false, eval e X.env) :: starEach [] X.env} {hpl : (backTo pos (starEach [] X.env)).any (·.1) = false}
theorem z_allq (hK : c.K = X.K) (hcm : X.calm = true) (hg : Gl X "all") (hm : X.mg "all" = none) (h : PE X e (tL c W qa)) (hs : starEach [e] X.env = (false, eval e X.env) :: starEach [] X.env := by rfl) (hpl : (backTo pos (starEach [] X.env)).any (·.1) = false := by rfl) :
    PE X (.Call (.Name "all" p) [e] [] pos) (tE c W (zallq qa)) :=
  (pe_callB (cr_all hcm) hg hm (by decide +kernel) (pa1 h hs) (he := hs) (hpl := hpl)).zm fun σ H Q ⟨ρ, A, σd, R, S, h⟩ => arg1 <| oneL R S h fun xs a vs ρ1 A1 H1 R1 s1 S1 hs rvs h1 => by
    obtain ⟨r, e, h2⟩ := moL R1 h1
    obtain ⟨bs, e2, e3⟩ := Option.map_eq_some_iff.mp e
    subst e3
    exact ⟨a, bs, rfl, by rw [← hK, ← rvs.bls e2]; exact hs, h2 _ (.bl _)⟩
theorem z_anyq (hK : c.K = X.K) (hcm : X.calm = true) (hg : Gl X "any") (hm : X.mg "any" = none) (h : PE X e (tL c W qa)) (hs : starEach [e] X.env = (false, eval e X.env) :: starEach [] X.env := by rfl) (hpl : (backTo pos (starEach [] X.env)).any (·.1) = false := by rfl) :
    PE X (.Call (.Name "any" p) [e] [] pos) (tE c W (zanyq qa)) :=
  (pe_callB (cr_any hcm) hg hm (by decide +kernel) (pa1 h hs) (he := hs) (hpl := hpl)).zm fun σ H Q ⟨ρ, A, σd, R, S, h⟩ => arg1 <| oneL R S h fun xs a vs ρ1 A1 H1 R1 s1 S1 hs rvs h1 => by
    obtain ⟨r, e, h2⟩ := moL R1 h1
    obtain ⟨bs, e2, e3⟩ := Option.map_eq_some_iff.mp e
    subst e3
    exact ⟨a, bs, rfl, by rw [← hK, ← rvs.bls e2]; exact hs, h2 _ (.bl _)⟩
theorem z_sumq (hK : c.K = X.K) (hcm : X.calm = true) (hg : Gl X "sum") (hm : X.mg "sum" = none) (h : PE X e (tL c W qa)) (hs : starEach [e] X.env = (false, eval e X.env) :: starEach [] X.env := by rfl) (hpl : (backTo pos (starEach [] X.env)).any (·.1) = false := by rfl) :
    PE X (.Call (.Name "sum" p) [e] [] pos) (tE c W (zsumq qa)) :=
  (pe_callB (cr_sum hcm) hg hm (by decide +kernel) (pa1 h hs) (he := hs) (hpl := hpl)).zm fun σ H Q ⟨ρ, A, σd, R, S, h⟩ => arg1 <| oneL R S h fun xs a vs ρ1 A1 H1 R1 s1 S1 hs rvs h1 => by
    obtain ⟨r, e, h2⟩ := moL R1 h1
    obtain ⟨bs, e2, e3⟩ := Option.map_eq_some_iff.mp e
    subst e3
    exact ⟨a, bs, rfl, by rw [← hK, ← rvs.ints e2]; exact hs, h2 _ (.int _)⟩
theorem foldl_min : ∀ (ns : List Int) (n : Int), (ns.foldl min n = n ∨ ns.foldl min n ∈ ns) ∧ ns.foldl min n ≤ n ∧ ∀ y ∈ ns, ns.foldl min n ≤ y
  | [], n => ⟨.inl rfl, Int.le_refl _, fun y h => nomatch h⟩
  | m :: ns, n => by
    obtain ⟨h1, h2, h3⟩ := foldl_min ns (min n m)
    rw [List.foldl_cons]
    refine ⟨?_, by omega, fun y hy => ?_⟩
    · rcases h1 with h1 | h1
      · by_cases q : n ≤ m
        · exact .inl (by omega)
        · exact .inr (by rw [h1]; rw [show min n m = m by omega]; exact List.mem_cons_self ..)
      · exact .inr (List.mem_cons_of_mem _ h1)
    · rcases List.mem_cons.mp hy with e | e
      · subst e; omega
      · exact h3 y e
theorem foldl_max : ∀ (ns : List Int) (n : Int), (ns.foldl max n = n ∨ ns.foldl max n ∈ ns) ∧ n ≤ ns.foldl max n ∧ ∀ y ∈ ns, y ≤ ns.foldl max n
  | [], n => ⟨.inl rfl, Int.le_refl _, fun y h => nomatch h⟩
  | m :: ns, n => by
    obtain ⟨h1, h2, h3⟩ := foldl_max ns (max n m)
    rw [List.foldl_cons]
    refine ⟨?_, by omega, fun y hy => ?_⟩
    · rcases h1 with h1 | h1
      · by_cases q : m ≤ n
        · exact .inl (by omega)
        · exact .inr (by rw [h1]; rw [show max n m = m by omega]; exact List.mem_cons_self ..)
      · exact .inr (List.mem_cons_of_mem _ h1)
    · rcases List.mem_cons.mp hy with e | e
      · subst e; omega
      · exact h3 y e
theorem minI_spec {ns : List Int} {m : Int} (h : minI ns = some m) : 0 < ns.length ∧ ∀ k, k ∈ ns → (∀ y, y ∈ ns → k ≤ y) → k = m := by
  cases ns with
  | nil => cases h
  | cons n ns =>
    cases h
    refine ⟨by simp, fun k hk hl => ?_⟩
    obtain ⟨h1, h2, h3⟩ := foldl_min ns n
    have a1 : k ≤ ns.foldl min n := by
      rcases h1 with h1 | h1
      · rw [h1]; exact hl _ (List.mem_cons_self ..)
      · exact hl _ (List.mem_cons_of_mem _ h1)
    rcases List.mem_cons.mp hk with e | e
    · subst e; omega
    · have := h3 k e; omega
theorem maxI_spec {ns : List Int} {m : Int} (h : maxI ns = some m) : 0 < ns.length ∧ ∀ k, k ∈ ns → (∀ y, y ∈ ns → y ≤ k) → k = m := by
  cases ns with
  | nil => cases h
  | cons n ns =>
    cases h
    refine ⟨by simp, fun k hk hl => ?_⟩
    obtain ⟨h1, h2, h3⟩ := foldl_max ns n
    have a1 : ns.foldl max n ≤ k := by
      rcases h1 with h1 | h1
      · rw [h1]; exact hl _ (List.mem_cons_self ..)
      · exact hl _ (List.mem_cons_of_mem _ h1)
    rcases List.mem_cons.mp hk with e | e
    · subst e; omega
    · have := h3 k e; omega
theorem z_minq (hK : c.K = X.K) (hcm : X.calm = true) (hg : Gl X "min") (hm : X.mg "min" = none) (h : PE X e (tL c W qa)) (hs : starEach [e] X.env = (false, eval e X.env) :: starEach [] X.env := by rfl) (hpl : (backTo pos (starEach [] X.env)).any (·.1) = false := by rfl) :
    PE X (.Call (.Name "min" p) [e] [] pos) (tE c W (zminq qa)) :=
  (pe_callB (cr_min hcm) hg hm boot_min (pa1 h hs) (he := hs) (hpl := hpl)).zm fun σ H Q ⟨ρ, A, σd, R, S, h⟩ => arg1 <| oneL R S h fun xs a vs ρ1 A1 H1 R1 s1 S1 hs rvs h1 => by
    obtain ⟨r, e, h2⟩ := moL R1 h1
    obtain ⟨m, e2, e3⟩ := Option.map_eq_some_iff.mp e
    obtain ⟨ns, e4, e5⟩ := Option.bind_eq_some_iff.mp e2
    subst e3
    obtain ⟨g1, g2⟩ := minI_spec e5
    exact ⟨a, ns, rfl, by rw [← hK, ← rvs.ints e4]; exact hs, g1, fun k hk hl => by rw [g2 k hk hl]; exact h2 _ (.int _)⟩
theorem z_maxq (hK : c.K = X.K) (hcm : X.calm = true) (hg : Gl X "max") (hm : X.mg "max" = none) (h : PE X e (tL c W qa)) (hs : starEach [e] X.env = (false, eval e X.env) :: starEach [] X.env := by rfl) (hpl : (backTo pos (starEach [] X.env)).any (·.1) = false := by rfl) :
    PE X (.Call (.Name "max" p) [e] [] pos) (tE c W (zmaxq qa)) :=
  (pe_callB (cr_max hcm) hg hm boot_max (pa1 h hs) (he := hs) (hpl := hpl)).zm fun σ H Q ⟨ρ, A, σd, R, S, h⟩ => arg1 <| oneL R S h fun xs a vs ρ1 A1 H1 R1 s1 S1 hs rvs h1 => by
    obtain ⟨r, e, h2⟩ := moL R1 h1
    obtain ⟨m, e2, e3⟩ := Option.map_eq_some_iff.mp e
    obtain ⟨ns, e4, e5⟩ := Option.bind_eq_some_iff.mp e2
    subst e3
    obtain ⟨g1, g2⟩ := maxI_spec e5
    exact ⟨a, ns, rfl, by rw [← hK, ← rvs.ints e4]; exact hs, g1, fun k hk hl => by rw [g2 k hk hl]; exact h2 _ (.int _)⟩
end

theorem strsOf_map : ∀ {ds : List D} {ss : List Str}, strsOf ds = some ss → ds = ss.map D.str
  | [], ns, e => by simp [strsOf] at e; subst e; rfl
  | d :: ds, ns, e => by
    cases d with
    | str b =>
      cases h : strsOf ds with
      | none => simp [strsOf, h] at e
      | some cs =>
        simp [strsOf, h] at e
        subst e
        rw [List.map_cons, strsOf_map h]
    | _ => simp [strsOf] at e
theorem strsOf_strs : ∀ ss : List Str, strsOf (ss.map D.str) = some ss
  | [] => rfl
  | n :: ns => by simp [strsOf, strsOf_strs ns]
theorem Rvs.strs {ρ : List Addr} {H : Hp} : ∀ {ds : List D} {vs : List V} {ss : List Str}, Rvs c ρ H ds vs → strsOf ds = some ss → vs = ss.map V.str
  | [], _, ns, .nil, e => by simp [strsOf] at e; subst e; rfl
  | d :: ds, _, ns, .cons r t, e => by
    cases d with
    | str b =>
      cases h : strsOf ds with
      | none => simp [strsOf, h] at e
      | some cs =>
        simp [strsOf, h] at e
        subst e
        cases r
        rw [List.map_cons, Rvs.strs t h]
    | _ => simp [strsOf] at e
theorem Rvs.of_strs {ρ : List Addr} {H : Hp} : ∀ ss : List Str, Rvs c ρ H (ss.map D.str) (ss.map V.str)
  | [] => .nil
  | n :: ns => .cons (.str n) (Rvs.of_strs ns)
theorem tups_pwL {ρ : List Addr} {H : Hp} : ∀ {ts : List (List Int)} {us : List V}, Rvs c ρ H (ts.map tupD) us → us.Pairwise (fun x y => ∀ n m, TupJ c.K H x n → TupJ c.K H y m → HT.lexLt m n = false) →
    ts.Pairwise fun n m => leL n m = true
  | [], _, _, _ => .nil
  | t :: ts, v :: us, .cons h r, p => by
    rw [List.pairwise_cons] at p ⊢
    refine ⟨fun m hm => ?_, tups_pwL r p.2⟩
    have hi : ∀ {t : List Int} {v : V}, Rv c ρ H (tupD t) v → TupJ c.K H v t := fun {t v} h => by
      cases h with
      | tup h r => exact ⟨_, rfl, by rw [← r.ints (intsOf_ints t)]; exact h.sq⟩
    have : ∃ u, u ∈ us ∧ Rv c ρ H (tupD m) u := by
      obtain ⟨i, hi, e⟩ := List.mem_iff_getElem.mp hm
      obtain ⟨v, h1, h2⟩ := r.get (i := i) (d := tupD m) (by rw [List.getElem?_map, List.getElem?_eq_getElem hi, e]; rfl)
      exact ⟨v, List.mem_of_getElem? h1, h2⟩
    obtain ⟨u, hu, ru⟩ := this
    unfold leL
    rw [p.1 u hu t m (hi h) (hi ru)]
    rfl
theorem leS_eq : leS = SrtL.leC' := rfl
theorem z_sort (hK : c.K = X.K) (hg : Gl X "sorted") (hm : X.mg "sorted" = none) (h : PE X e (tL c W qa)) (hs : starEach [e] X.env = (false, eval e X.env) :: starEach [] X.env := by rfl) (hpl : (backTo pos (starEach [] X.env)).any (·.1) = false := by rfl) :
    PE X (.Call (.Name "sorted" p) [e] [] pos) (tN c W (zsort qa)) :=
  (pe_callB (cr_sortedI.or (cr_sortTL.or cr_sortS)) hg hm boot_sorted (pa1 h hs) (he := hs) (hpl := hpl)).zm fun σ H Q ⟨ρ, A, σd, R, S, h⟩ => arg1 <| oneL R S h fun xs a vs ρ1 A1 H1 R1 s1 S1 hs rvs h1 => by
    obtain ⟨r, e, h2⟩ := moL R1 h1
    unfold sortD at e
    rw [hK] at hs
    split at e
    · rename_i ns e1
      cases e
      refine .inl ⟨a, ns, rfl, by rw [← rvs.ints e1]; exact hs, fun ms p pm pw n => ?_⟩
      rw [uniq_ints pm pw]
      exact h2 p _ n (.of_ints _)
    · split at e
      · rename_i ts e1
        split at e
        · rename_i q
          cases e
          have ex := tupsOf_map e1
          refine .inr (.inl ⟨a, vs, rfl, hs, fun v hv => ?_, fun us p pm pw n => ?_⟩)
          · obtain ⟨i, hi, e2⟩ := List.mem_iff_getElem.mp hv
            obtain ⟨dd, g1, g2⟩ := rvs.at' (i := i) (v := v) (by rw [List.getElem?_eq_getElem hi, e2])
            have hm : dd ∈ ts.map tupD := by rw [← ex]; exact List.mem_of_getElem? g1
            obtain ⟨t2, m1, m2⟩ := List.mem_map.mp hm
            subst m2
            have f1 := List.all_eq_true.mp q t2 m1
            cases g2 with
            | tup h r => exact ⟨t2, ⟨_, rfl, by rw [← hK, ← r.ints (intsOf_ints t2)]; exact h.sq⟩, fun z => by subst z; simp at f1⟩
          · obtain ⟨ys, py, ry⟩ := rvs.perm pm
            rw [ex] at py
            obtain ⟨ms, e5, pms⟩ := perm_tups py
            subst e5
            have pw3 := tups_pwL ry (by rw [hK]; exact pw)
            rw [uniq_tups pms pw3] at ry
            exact h2 p us n ry
        · cases e
      · split at e
        · rename_i ss e1
          cases e
          exact .inr (.inr ⟨a, ss, rfl, by rw [← rvs.strs e1]; exact hs, fun p n => h2 p _ n (.of_strs _)⟩)
        · cases e
theorem z_sortR {kw : List Keyword} (hK : c.K = X.K) (hg : Gl X "sorted") (hm : X.mg "sorted" = none) (h : PE X e (tL c W qa)) (hk : PK X kw (fun _ H Q => Q [.bl true] H)) (he : backTo pos (starEach [e] X.env) = (false, eval e X.env) :: backTo pos (starEach [] X.env) := by rfl)
    (hs : starEach [e] X.env = (false, eval e X.env) :: starEach [] X.env := by rfl) (hpl : (backTo pos (starEach [e] X.env)).any (·.1) = false := by rfl)
    (hall : (backToKw pos (keywordEach kw X.env)).all (·.1.isSome) = true := by rfl) (hnone : (backToKw pos (keywordEach kw X.env)).any (·.1.isNone) = false := by rfl) (hks : (backToKw pos (keywordEach kw X.env)).filterMap (·.1) = [Str.ofString "reverse"] := by rfl) :
    PE X (.Call (.Name "sorted" p) [e] kw pos) (tN c W (zsortR qa)) :=
  (pe_callBK cr_sortSR hg hm boot_sorted (pa1 h hs) hk (by decide) (by decide) he hpl hall hnone hks).zm fun σ H Q ⟨ρ, A, σd, R, S, h⟩ => show tL c W qa σ H (fun x H1 => rSortSR X.K [x] [.bl true] H1 Q) from oneL R S h fun xs a vs ρ1 A1 H1 R1 s1 S1 hs rvs h1 => by
    obtain ⟨r, e, h2⟩ := moL R1 h1
    unfold sortRD at e
    rw [hK] at hs
    split at e
    · rename_i ss e1
      cases e
      exact ⟨a, ss, rfl, rfl, by rw [← rvs.strs e1]; exact hs, fun p n => h2 p _ n (.of_strs _)⟩
    · cases e
end
end Z

noncomputable section
set_option maxHeartbeats 2000000
namespace Z
open PySem PySem.Spec PyProof.Rows L2

section
variable {X : Cx}
def rSetL (K : PySem.W.Frag) (w : World) : List V → Hp → VK → Prop := fun xs H Q => ∃ (a : Addr) (ns : List Int), xs = [.ref a] ∧ SqL K H a (ns.map V.int) ∧ ns.length < 64 ∧
  ∀ p n, H p = none → n ≤ ns.length → Q (.ref p) (upd H p (SetO w p (fun j => decide (j ∈ ns)) n))
theorem cr_setL (hc : X.calm = true) : CallR X (.type "set") (rSetL X.K X.w) := by
  intro pins s σ H xs us Q I r h
  obtain ⟨a, ns, rfl, hs, hz, q⟩ := h
  obtain ⟨its, rv, hl, _⟩ := I.list hs
  rw [Vals.ref1 r]
  refine set_of_list (I.ok.hd hc) hl.isList (by simpa using rv.ints) (by unfold scanBound; omega) fun h2 t2 n R2 hn hk => ?_
  exact ⟨.ref _, _, I.laid (t' := t2) hk (Nat.le_refl _) (setO_new R2), rfl, q _ _ (I.hok.fresh (Nat.le_refl _)) hn⟩
end

inductive Ty0 where | int | bool | tuple | str | list
  deriving DecidableEq
inductive Ty1 where | non | bl | int | str | tup | lst | dic
  deriving DecidableEq
def Ty0.n : Ty0 → String
  | .int => "int"
  | .bool => "bool"
  | .tuple => "tuple"
  | .str => "str"
  | .list => "list"
def Ty1.n : Ty1 → String
  | .non => "NoneType"
  | .bl => "bool"
  | .int => "int"
  | .str => "str"
  | .tup => "tuple"
  | .lst => "list"
  | .dic => "dict"
def isiB : Ty1 → Ty0 → Bool
  | .bl, .int => true
  | .bl, .bool => true
  | .int, .int => true
  | .str, .str => true
  | .tup, .tuple => true
  | .lst, .list => true
  | _, _ => false
theorem isi_kit (a : Ty1) (b : Ty0) : kitB a.n b.n = some (isiB a b) := by cases a <;> cases b <;> decide +kernel
theorem boot_ty (b : Ty0) : bootBuiltins (Str.ofString b.n) = some (.type b.n) := by cases b <;> decide +kernel
def tyD (A : Hh) : D → Option Ty1
  | .non => some .non
  | .bl _ => some .bl
  | .int _ => some .int
  | .str _ => some .str
  | .tup _ => some .tup
  | .lst _ => some .lst
  | .ref n => match A[n]? with
    | some (.lst _) => some .lst
    | _ => none
  | .emp => some .dic
  | .exc _ => none
def zisi (T : Ty0) (a : Ev D) : Ev D := fun σ => mb (a σ) fun x A => (tyD A x).map fun k => .ok (.bl (isiB k T)) A
theorem tyD_ok {c : Cn} {ρ : List Addr} {A : Hh} {H : Hp} {x : D} {v : V} {k : Ty1} (R : Rel c ρ A H) (r : Rv c ρ H x v) (e : tyD A x = some k) : TyX c.K H v (.type k.n) := by
  cases r with
  | non => cases e; exact .base .non
  | bl b => cases e; exact .base (.bl b)
  | int i => cases e; exact .base (.int i)
  | str y => cases e; exact .base (.str y)
  | tup h t =>
    cases e
    rcases h with ⟨o, h, _⟩ | ⟨o, its, n, h1, h2, _⟩
    · exact .fTuple h
    · exact .kTuple h1 h2
  | lst h t =>
    cases e
    rcases h with ⟨o, h⟩ | ⟨o, its, n, h1, h2, _⟩
    · exact .base (.frz h)
    · exact .kList h1 h2
  | ref h =>
    simp only [tyD] at e
    split at e
    · rename_i xs hA
      cases e
      obtain ⟨ho, h1, vs, rfl, h3⟩ := R.obj _ _ _ hA h
      exact .base (.lst h1)
    · cases e
  | exc h t => cases e
  | emp h t => cases e; exact .fDict h

section
variable {X : Cx} {c : Cn} {W : WX} {a b d e e1 e2 : Expr} {fa fb fd : Ev D} {qa qb : Ev (List D)} {ua ub : Ev (List D × Wt)} {pos p p1 p2 apos cpos : Pos} {x : Str} {es : List Expr} {fs : Ev (List D)}
theorem z_sortset (hK : c.K = X.K) (hcm : X.calm = true) (hg : Gl X "sorted") (hm : X.mg "sorted" = none) (hg2 : Gl X "set") (hm2 : X.mg "set" = none) (h : PE X e (tL c W qa)) (hs : starEach [e] X.env = (false, eval e X.env) :: starEach [] X.env := by rfl)
    (hpl : (backTo p2 (starEach [] X.env)).any (·.1) = false := by rfl) (hs2 : starEach [.Call (.Name "set" p1) [e] [] p2] X.env = (false, eval (.Call (.Name "set" p1) [e] [] p2) X.env) :: starEach [] X.env := by rfl)
    (hpl2 : (backTo pos (starEach [] X.env)).any (·.1) = false := by rfl) :
    PE X (.Call (.Name "sorted" p) [.Call (.Name "set" p1) [e] [] p2] [] pos) (tN c W (zsortset qa)) :=
  (pe_callB (cr_sortedSet hcm) hg hm boot_sorted (pa1 (pe_callTy (cr_setL hcm) hg2 hm2 boot_set (pa1 h hs) (he := hs) (hpl := hpl)) hs2) (he := hs2) (hpl := hpl2)).zm fun σ H Q ⟨ρ, A, σd, R, S, h⟩ => arg1 <| arg1 <| oneL R S h fun xs a vs ρ1 A1 H1 R1 s1 S1 hs rvs h1 => by
    split at h1
    · rename_i ns e
      obtain ⟨hz, h2⟩ := iteP R1 h1.later
      refine ⟨a, ns, rfl, by rw [← hK, ← rvs.ints e]; exact hs, hz, fun p n hp hn => ⟨p, _, n, rfl, upd_same, by omega, fun ms q pw mem hl nq => ?_⟩⟩
      obtain ⟨R2, s2, _⟩ := R1.laid (ho := SetO X.w p (fun j => decide (j ∈ ns)) n) hp
      have e2 : ms = (dd ns).mergeSort leZ := by
        refine List.Perm.eq_of_pairwise (le := fun a b => leZ a b = true) (fun a b _ _ h3 h4 => ?_) (pw.imp fun h3 => ?_) (List.pairwise_mergeSort leZ_trans leZ_total _) ?_
        · unfold leZ at h3 h4
          simp only [decide_eq_true_eq] at h3 h4
          omega
        · unfold leZ
          exact decide_eq_true (by omega)
        · refine List.Perm.trans ?_ (List.mergeSort_perm _ _).symm
          refine (List.perm_ext_iff_of_nodup (pw.imp fun h3 => by omega) (nodup_dd ns)).mpr fun j => ?_
          rw [mem j, decide_eq_true_eq, mem_dd]
      subst e2
      exact h2 ρ1 _ R2 s2 q _ nq (.of_ints _)
    · exact False.elim h1
theorem z_isi (T : Ty0) (hK : c.K = X.K) (hg : Gl X "isinstance") (hm : X.mg "isinstance" = none) (hg2 : Gl X (Str.ofString T.n)) (hm2 : X.mg (Str.ofString T.n) = none) (h : PE X e (tE c W fa))
    (na : starEach [e, .Name (Str.ofString T.n) p2] X.env = (false, eval e X.env) :: starEach [.Name (Str.ofString T.n) p2] X.env := by rfl) (nb : starEach [.Name (Str.ofString T.n) p2] X.env = (false, eval (.Name (Str.ofString T.n) p2) X.env) :: starEach [] X.env := by rfl)
    (hpl : (backTo pos (starEach [.Name (Str.ofString T.n) p2] X.env)).any (·.1) = false := by rfl) :
    PE X (.Call (.Name "isinstance" p) [e, .Name (Str.ofString T.n) p2] [] pos) (tE c W (zisi T fa)) :=
  (pe_callB call_isi hg hm boot_isinstance (pa_cons h (pa1 (pe_bltn hg2 hm2 (boot_ty T) (show RelV (.ty T.n) (.type T.n) from rfl) (by cases T <;> decide) (by cases T <;> decide)) nb) na) (he := na) (hpl := hpl)).zm fun σ H Q ⟨ρ, A, σd, R, S, h⟩ =>
    show tE c W fa σ H _ from one R S h fun x v ρ1 A1 H1 R1 s1 S1 rv h1 => by
    obtain ⟨k, e, h2⟩ := mapL (g := fun k => D.bl (isiB k T)) R1 h1
    exact ⟨v, .ty T.n, .type k.n, .type T.n, isiB k T, rfl, .ty _, by rw [← hK]; exact tyD_ok R1 rv e, kit_ty (isi_kit k T), h2 _ (.bl _)⟩

theorem arg2 {t t2 : TE} {r : List V → Hp → VK → Prop} {σ : L2.St} {H : Hp} {Q : VK} (h : t σ H fun x H1 => t2 σ H1 fun y H2 => r [x, y] H2 Q) : tCB r (tCons t (tCons t2 tNil)) σ H Q := h
def zlen (a : Ev D) : Ev D := fun σ => mb (a σ) fun x A => (biD .len [x] A).map fun d => .ok d A
theorem z_len (hK : c.K = X.K) (hg : Gl X "len") (hm : X.mg "len" = none) (h : PE X e (tE c W fa)) (hs : starEach [e] X.env = (false, eval e X.env) :: starEach [] X.env := by rfl) (hpl : (backTo pos (starEach [] X.env)).any (·.1) = false := by rfl) :
    PE X (.Call (.Name "len" p) [e] [] pos) (tE c W (zlen fa)) :=
  (pe_callB (call_len_seq.or call_len_str) hg hm boot_len (pa1 h hs) (he := hs) (hpl := hpl)).zm fun σ H Q ⟨ρ, A, σd, R, S, h⟩ => arg1 <| one R S h fun x v ρ1 A1 H1 R1 s1 S1 rv h1 => by
    obtain ⟨r, e, h2⟩ := mapL (g := fun d => d) R1 h1
    have key : ∀ q, seqD A1 x = some q → r = .int q.1.length → (∃ p ys, [v] = [V.ref p] ∧ (SqL X.K H1 p ys ∨ SqT X.K H1 p ys) ∧ Q (.int ys.length) H1) := fun q e2 e3 => by
      obtain ⟨a, vs, rfl, hs, rvs⟩ := seqD_ok R1 rv e2
      subst e3
      refine ⟨a, vs, rfl, by rw [← hK]; exact hs.sq, ?_⟩
      rw [← rvs.length]
      exact h2 _ (.int _)
    cases x with
    | str y =>
      cases rv
      simp only [biD] at e
      split at e
      · rename_i hz
        cases e
        exact .inr ⟨y, rfl, by have := SZ_le; omega, h2 _ (.int _)⟩
      · cases e
    | tup xs =>
      cases e
      exact .inl (key _ rfl rfl)
    | lst xs =>
      cases e
      exact .inl (key _ rfl rfl)
    | ref n =>
      simp only [biD] at e
      obtain ⟨q, e2, e3⟩ := Option.map_eq_some_iff.mp e
      exact .inl (key q e2 e3.symm)
    | non => simp [biD, seqD] at e
    | bl b => simp [biD, seqD] at e
    | int i => simp [biD, seqD] at e
    | exc _ => simp [biD, seqD] at e
    | emp => simp [biD, seqD] at e
def zabs (a : Ev D) : Ev D := fun σ => mb (a σ) fun x => match x with
  | .int i => ok (.int (if i < 0 then -i else i))
  | _ => fun _ => none
theorem z_abs (hg : Gl X "abs") (hm : X.mg "abs" = none) (h : PE X e (tE c W fa)) (hs : starEach [e] X.env = (false, eval e X.env) :: starEach [] X.env := by rfl) (hpl : (backTo pos (starEach [] X.env)).any (·.1) = false := by rfl) :
    PE X (.Call (.Name "abs" p) [e] [] pos) (tE c W (zabs fa)) :=
  (pe_callB call_abs hg hm (by decide +kernel) (pa1 h hs) (he := hs) (hpl := hpl)).zm fun σ H Q ⟨ρ, A, σd, R, S, h⟩ => arg1 <| one R S h fun x v ρ1 A1 H1 R1 s1 S1 rv h1 => by
    cases rv <;> first | exact False.elim h1 | skip
    exact ⟨_, rfl, h1 ρ1 H1 R1 .refl _ (.int _)⟩
def zdvm (a b : Ev D) : Ev D := fun σ => mb (a σ) fun x => mb (b σ) fun y => match x, y with
  | .int i, .int j => fun A => if decide (0 < j) && small i then some (.ok (.tup [.int (i / j), .int (i % j)]) A) else none
  | _, _ => fun _ => none
set_option exponentiation.threshold 4000 in
theorem z_dvm (hg : Gl X "divmod") (hm : X.mg "divmod" = none) (ha : PE X e1 (tE c W fa)) (hb : PE X e2 (tE c W fb)) (na : starEach [e1, e2] X.env = (false, eval e1 X.env) :: starEach [e2] X.env := by rfl) (nb : starEach [e2] X.env = (false, eval e2 X.env) :: starEach [] X.env := by rfl)
    (hpl : (backTo pos (starEach [e2] X.env)).any (·.1) = false := by rfl) : PE X (.Call (.Name "divmod" p) [e1, e2] [] pos) (tE c W (zdvm fa fb)) :=
  (pe_callB call_divF hg hm boot_divmod (pa_cons ha (pa1 hb nb) na) (he := na) (hpl := hpl)).zm fun σ H Q ⟨ρ, A, σd, R, S, h⟩ => arg2 <| two R S h fun x y v u ρ1 A1 H1 R1 s1 S1 rv ru h1 => by
    cases rv <;> cases ru <;> first | exact False.elim h1 | skip
    obtain ⟨e, h2⟩ := ite_none h1
    rw [Bool.and_eq_true] at e
    refine ⟨_, _, rfl, divp_ok (of_decide_eq_true e.1) (Nat.le_trans (intBits_le (small_lt e.2)) (by omega)), newTup R1 (.cons (.int _) (.cons (.int _) .nil)) h2⟩
def zmx2 (a b : Ev D) : Ev D := fun σ => mb (a σ) fun x => mb (b σ) fun y => match x, y with
  | .int i, .int j => ok (.int (max i j))
  | _, _ => fun _ => none
def zmn2 (a b : Ev D) : Ev D := fun σ => mb (a σ) fun x => mb (b σ) fun y => match x, y with
  | .int i, .int j => ok (.int (min i j))
  | _, _ => fun _ => none
theorem z_mx2 (hcm : X.calm = true) (hg : Gl X "max") (hm : X.mg "max" = none) (ha : PE X e1 (tE c W fa)) (hb : PE X e2 (tE c W fb)) (na : starEach [e1, e2] X.env = (false, eval e1 X.env) :: starEach [e2] X.env := by rfl) (nb : starEach [e2] X.env = (false, eval e2 X.env) :: starEach [] X.env := by rfl)
    (hpl : (backTo pos (starEach [e2] X.env)).any (·.1) = false := by rfl) : PE X (.Call (.Name "max" p) [e1, e2] [] pos) (tE c W (zmx2 fa fb)) :=
  (pe_callB (call_max2 hcm) hg hm boot_max (pa_cons ha (pa1 hb nb) na) (he := na) (hpl := hpl)).zm fun σ H Q ⟨ρ, A, σd, R, S, h⟩ => arg2 <| two R S h fun x y v u ρ1 A1 H1 R1 s1 S1 rv ru h1 => by
    cases rv <;> cases ru <;> first | exact False.elim h1 | skip
    rename_i i j
    have e : (if j > i then j else i) = max i j := by split <;> omega
    refine ⟨i, j, rfl, ?_⟩
    rw [e]
    exact h1 ρ1 H1 R1 .refl _ (.int _)
theorem z_mn2 (hcm : X.calm = true) (hg : Gl X "min") (hm : X.mg "min" = none) (ha : PE X e1 (tE c W fa)) (hb : PE X e2 (tE c W fb)) (na : starEach [e1, e2] X.env = (false, eval e1 X.env) :: starEach [e2] X.env := by rfl) (nb : starEach [e2] X.env = (false, eval e2 X.env) :: starEach [] X.env := by rfl)
    (hpl : (backTo pos (starEach [e2] X.env)).any (·.1) = false := by rfl) : PE X (.Call (.Name "min" p) [e1, e2] [] pos) (tE c W (zmn2 fa fb)) :=
  (pe_callB (call_min2 hcm) hg hm boot_min (pa_cons ha (pa1 hb nb) na) (he := na) (hpl := hpl)).zm fun σ H Q ⟨ρ, A, σd, R, S, h⟩ => arg2 <| two R S h fun x y v u ρ1 A1 H1 R1 s1 S1 rv ru h1 => by
    cases rv <;> cases ru <;> first | exact False.elim h1 | skip
    rename_i i j
    have e : (if j < i then j else i) = min i j := by split <;> omega
    refine ⟨i, j, rfl, ?_⟩
    rw [e]
    exact h1 ρ1 H1 R1 .refl _ (.int _)
def zint (a : Ev D) : Ev D := fun σ => mb (a σ) fun x => match x with
  | .int i => ok (.int i)
  | .bl b => ok (.int (if b then 1 else 0))
  | _ => fun _ => none
theorem z_toint (hg : Gl X "int") (hm : X.mg "int" = none) (h : PE X e (tE c W fa)) (hs : starEach [e] X.env = (false, eval e X.env) :: starEach [] X.env := by rfl) (hpl : (backTo pos (starEach [] X.env)).any (·.1) = false := by rfl) :
    PE X (.Call (.Name "int" p) [e] [] pos) (tE c W (zint fa)) :=
  (pe_callTy call_int1 hg hm boot_int (pa1 h hs) (he := hs) (hpl := hpl)).zm fun σ H Q ⟨ρ, A, σd, R, S, h⟩ => arg1 <| one R S h fun x v ρ1 A1 H1 R1 s1 S1 rv h1 => by
    cases rv <;> first | exact False.elim h1 | skip
    · exact .inr ⟨_, rfl, h1 ρ1 H1 R1 .refl _ (.int _)⟩
    · exact .inl ⟨_, rfl, h1 ρ1 H1 R1 .refl _ (.int _)⟩

/-- a method of a list of this moment -/
def zm1 (m : Bm) (o e : Ev D) : Ev D := fun σ => mb (o σ) fun x => mb (fun A => (lstD A x).map fun _ => .ok () A) fun _ => mb (e σ) fun y => bmD m x [y]
def zm0 (m : Bm) (o : Ev D) : Ev D := fun σ => mb (o σ) fun x => bmD m x []
theorem lst_ty {ρ : List Addr} {A : Hh} {H : Hp} {x : D} {v : V} {q : List D} (R : Rel c ρ A H) (r : Rv c ρ H x v) (e : lstD A x = some q) : tyV c.K "list" v H := by
  obtain ⟨a, vs, rfl, h, _⟩ := lstD_ok R r e
  exact .inl ⟨rfl, vs, h⟩
theorem findIdx_at : ∀ {ns : List Int} {k : Int} {j : Nat}, ns.findIdx? (fun m => decide (m = k)) = some j → ns[j]? = some k ∧ ∀ m : Nat, m < j → ns[m]? ≠ some k := by
  intro ns k j h
  obtain ⟨h1, h2, h3⟩ := List.findIdx?_eq_some_iff_getElem.mp h
  refine ⟨by rw [List.getElem?_eq_getElem h1, of_decide_eq_true h2], fun m hm e => ?_⟩
  have h4 := h3 m hm
  rw [List.getElem?_eq_getElem (by omega)] at e
  cases e
  simp at h4
end
section
variable {X : Cx} {c : Cn} {W : WX} {o e : Expr} {fo fa : Ev D} {pos p apos cpos : Pos}
theorem m1_ok {m : Bm} {r : V → List V → Hp → VK → Prop} {id : String} (hm : MtR X id r) {name : Str} (slot : Slot "list" name id) (hty : typeOf (.builtin id) = pure (.type "method_descriptor")) (hK : c.K = X.K)
    (ok : ∀ ρ A H (σ : L2.St) x y v u (Q : VK), Rel c ρ A H → Rv c ρ H x v → Rv c ρ H y u → Ld c ρ H σ W (bmD m x [y] A) (fun d ρ' _ H' => ∀ v, Rv c ρ' H' d v → Q v H') → r v [u] H Q)
    (ho : PE X o (tE c W fo)) (ha : PE X e (tE c W fa)) (hbase : attributeBase o name X.env (eval o X.env) = eval o X.env := by rfl)
    (hfew : ((backTo cpos (starEach [e] X.env)).all (fun x => !x.1) && (backToKw cpos (keywordEach [] X.env)).all (fun x => x.1.isSome)
      && decide (([e]).length + ([] : List Keyword).length + (if ([] : List Keyword).isEmpty then 0 else 1) < 30)) = true := by rfl)
    (hline : (apos.endLine == cpos.line) = true := by rfl) (hs : starEach [e] X.env = (false, eval e X.env) :: starEach [] X.env := by rfl) (hplain : (backTo cpos (starEach [] X.env)).any (·.1) = false := by rfl) :
    PE X (.Call (.Attribute o name apos) [e] [] cpos) (tE c W (zm1 m fo fa)) :=
  (pe_bm PySem.F.plainAttrs_list slot hty hm ho (pa1 ha hs) hbase hfew hline hs hplain).zm fun σ H Q ⟨ρ, A, σd, R, S, h⟩ => show tE c W fo σ H _ from one R S h fun x v ρ1 A1 H1 R1 s1 S1 rv h1 => by
    obtain ⟨q, e, h2⟩ := mapL (g := fun _ => ()) R1 (Ld.bind h1)
    rw [← hK]
    exact ⟨lst_ty R1 rv e, show tE c W fa σ H1 _ from one R1 S1 h2 fun y u ρ2 A2 H2 R2 s2 S2 ru h3 => ok ρ2 A2 H2 σ x y v u Q R2 (rv.to R1 s2) ru h3⟩
theorem z_append (hK : c.K = X.K) (ho : PE X o (tE c W fo)) (ha : PE X e (tE c W fa)) (hbase : attributeBase o "append" X.env (eval o X.env) = eval o X.env := by rfl)
    (hfew : ((backTo cpos (starEach [e] X.env)).all (fun x => !x.1) && (backToKw cpos (keywordEach [] X.env)).all (fun x => x.1.isSome)
      && decide (([e]).length + ([] : List Keyword).length + (if ([] : List Keyword).isEmpty then 0 else 1) < 30)) = true := by rfl)
    (hline : (apos.endLine == cpos.line) = true := by rfl) (hs : starEach [e] X.env = (false, eval e X.env) :: starEach [] X.env := by rfl) (hplain : (backTo cpos (starEach [] X.env)).any (·.1) = false := by rfl) :
    PE X (.Call (.Attribute o "append" apos) [e] [] cpos) (tE c W (zm1 .append fo fa)) :=
  m1_ok mt_append PySem.F.slot_list_append PySem.F.type_list_append hK (fun ρ A H σ x y v u Q R rv ru h => by
    cases x <;> first | exact False.elim h | skip
    rename_i n
    simp only [bmD] at h
    split at h
    · rename_i xs hA
      obtain ⟨a, vs, rfl, h1, h2, h3⟩ := R.lst hA rv
      split at h
      · rename_i hz
        have hl := h3.length
        have := SZ_le
        obtain ⟨R2, s2⟩ := R.wrote (o := .lst (xs ++ [y])) h1 (ho := .lst (vs ++ [u])) ⟨_, rfl, h3.append (.cons ru .nil)⟩
        exact ⟨a, vs, u, rfl, rfl, h2, by omega, h _ _ R2 s2 _ .non⟩
      · exact False.elim h
    · exact False.elim h) ho ha hbase hfew hline hs hplain
theorem z_remove (hK : c.K = X.K) (ho : PE X o (tE c W fo)) (ha : PE X e (tE c W fa)) (hbase : attributeBase o "remove" X.env (eval o X.env) = eval o X.env := by rfl)
    (hfew : ((backTo cpos (starEach [e] X.env)).all (fun x => !x.1) && (backToKw cpos (keywordEach [] X.env)).all (fun x => x.1.isSome)
      && decide (([e]).length + ([] : List Keyword).length + (if ([] : List Keyword).isEmpty then 0 else 1) < 30)) = true := by rfl)
    (hline : (apos.endLine == cpos.line) = true := by rfl) (hs : starEach [e] X.env = (false, eval e X.env) :: starEach [] X.env := by rfl) (hplain : (backTo cpos (starEach [] X.env)).any (·.1) = false := by rfl) :
    PE X (.Call (.Attribute o "remove" apos) [e] [] cpos) (tE c W (zm1 .remove fo fa)) :=
  m1_ok mt_remove PySem.F.slot_list_remove PySem.F.type_list_remove hK (fun ρ A H σ x y v u Q R rv ru h => by
    cases x <;> first | exact False.elim h | skip
    cases y <;> first | exact False.elim h | skip
    rename_i n k
    simp only [bmD] at h
    split at h
    · rename_i xs hA
      obtain ⟨a, vs, rfl, h1, h2, h3⟩ := R.lst hA rv
      split at h
      · rename_i ns e1
        split at h
        · rename_i j e2
          have ev := h3.ints e1
          have ex := intsOf_map e1
          subst ev
          obtain ⟨g1, g2⟩ := findIdx_at e2
          cases ru
          have r4 := h3.eraseIdx j
          rw [erase_mapI] at r4
          obtain ⟨R2, s2⟩ := R.wrote (o := .lst (xs.eraseIdx j)) h1 (ho := .lst ((ns.eraseIdx j).map V.int)) ⟨_, rfl, r4⟩
          exact ⟨a, ns, k, j, rfl, rfl, h2, g1, g2, h _ _ R2 s2 _ .non⟩
        · exact False.elim h
      · exact False.elim h
    · exact False.elim h) ho ha hbase hfew hline hs hplain
theorem z_pop (hK : c.K = X.K) (ho : PE X o (tE c W fo)) (hbase : attributeBase o "pop" X.env (eval o X.env) = eval o X.env := by rfl) (hline : (apos.endLine == cpos.line) = true := by rfl) :
    PE X (.Call (.Attribute o "pop" apos) [] [] cpos) (tE c W (zm0 .pop fo)) :=
  (pe_bm0 PySem.F.plainAttrs_list PySem.F.slot_list_pop PySem.F.type_list_pop mt_pop ho hbase hline).zm fun σ H Q ⟨ρ, A, σd, R, S, h⟩ => show tE c W fo σ H _ from one R S h fun x v ρ1 A1 H1 R1 s1 S1 rv h1 => by
    cases x <;> first | exact False.elim h1 | skip
    rename_i n
    simp only [bmD] at h1
    split at h1
    · rename_i xs hA
      obtain ⟨a, vs, rfl, g1, g2, g3⟩ := R1.lst hA rv
      split at h1
      · rename_i y hy
        obtain ⟨u, hu, ru⟩ := g3.get hy
        rw [g3.length] at hu
        obtain ⟨R2, s2⟩ := R1.wrote (o := .lst xs.dropLast) g1 (ho := .lst vs.dropLast) ⟨_, rfl, g3.dropLast⟩
        exact ⟨.inl ⟨rfl, vs, .of g2⟩, a, vs, u, rfl, rfl, g2, hu, h1 _ _ R2 s2 _ (ru.to R1 s2)⟩
      · exact False.elim h1
    · exact False.elim h1
def rCntT (K : PySem.W.Frag) : V → List V → Hp → VK → Prop := fun x xs H Q => ∃ (p : Addr) (ns : List Int) (k : Int), x = .ref p ∧ xs = [.int k] ∧ SqT K H p (ns.map V.int) ∧ Q (.int (ns.count k : Nat)) H
theorem mt_tcount : MtR X "tuple.count" (rCntT X.K) := by
  intro pins s σ H x xs v us Q I rx rxs h
  obtain ⟨p, ns, k, rfl, rfl, hs, q⟩ := h
  cases rx
  obtain ⟨u, rfl, t, rfl⟩ := rxs.one
  obtain ⟨its, rv, ⟨⟨c1, dd, data, sl⟩, ho, hc, n, hd⟩, _⟩ := I.tuple hs
  dsimp only at hc hd
  cases hc
  cases hd
  have hi := ints_of_vals rv
  refine call_meets PySem.F.slot_tuple_count ⟨_, ho, rfl⟩ PySem.F.entry_tuple_count (PySem.F.args_tuple_count_2 _ _) (SeqAt.tuple_countAt p its.toArray n dd sl (.int k t) (eqk k)) ⟨ho, fun y hy => (eqk_gives hi y (by simpa using hy)).at _ _, ?_⟩
  refine ⟨.int (ns.count k : Nat), H, I.tok _, ⟨s.toks, ?_⟩, q⟩
  have := eqk_count (k := k) hi
  rw [← this]
def zcnt (o e : Ev D) : Ev D := fun σ => mb (o σ) fun x => mb (fun A => match x with | .tup _ => some (.ok () A) | _ => none) fun _ => mb (e σ) fun y => bmD .count x [y]
theorem z_count (hK : c.K = X.K) (ho : PE X o (tE c W fo)) (ha : PE X e (tE c W fa)) (hbase : attributeBase o "count" X.env (eval o X.env) = eval o X.env := by rfl)
    (hfew : ((backTo cpos (starEach [e] X.env)).all (fun x => !x.1) && (backToKw cpos (keywordEach [] X.env)).all (fun x => x.1.isSome)
      && decide (([e]).length + ([] : List Keyword).length + (if ([] : List Keyword).isEmpty then 0 else 1) < 30)) = true := by rfl)
    (hline : (apos.endLine == cpos.line) = true := by rfl) (hs : starEach [e] X.env = (false, eval e X.env) :: starEach [] X.env := by rfl) (hplain : (backTo cpos (starEach [] X.env)).any (·.1) = false := by rfl) :
    PE X (.Call (.Attribute o "count" apos) [e] [] cpos) (tE c W (zcnt fo fa)) :=
  (pe_mG (fun pins σ H s x v => tyT_ok) PySem.F.plainAttrs_tuple PySem.F.slot_tuple_count PySem.F.type_tuple_count mt_tcount ho (pa1 ha hs) hbase hfew hline hs hplain).zm fun σ H Q ⟨ρ, A, σd, R, S, h⟩ => show tE c W fo σ H _ from one R S h fun x v ρ1 A1 H1 R1 s1 S1 rv h1 => by
    cases rv <;> first | exact False.elim h1 | skip
    rename_i a xs vs t r
    rw [← hK]
    refine ⟨⟨_, _, rfl, t⟩, show tE c W fa σ H1 _ from one R1 S1 (h1 : Ld c ρ1 H1 σ W (mb (fa σd) (fun y => bmD .count (.tup xs) [y]) A1) _) fun y u ρ2 A2 H2 R2 s2 S2 ru h3 => ?_⟩
    cases y <;> first | exact False.elim h3 | skip
    rename_i k
    cases ru
    simp only [bmD] at h3
    have rv2 := (Rv.tup t r).to R1 s2
    cases rv2 with
    | tup t2 r2 =>
      split at h3
      · rename_i ns e1
        exact ⟨_, ns, k, rfl, rfl, by rw [← r2.ints e1]; exact t2.sq, h3 ρ2 H2 R2 .refl _ (.int _)⟩
      · exact False.elim h3
end
end Z

noncomputable section
set_option maxHeartbeats 2000000
namespace Z
open PySem PySem.Spec PyProof.Rows L2

/-- nothing may be raised -/
def WN : WX := fun _ _ _ _ => False
/-- but for these, the slots are the same -/
def Same (vs : List Nat) (σ σ' : L2.St) : Prop := σ'.length = σ.length ∧ ∀ i, i ∉ vs → σ'[i]? = σ[i]?
theorem Same.refl (vs : List Nat) (σ : L2.St) : Same vs σ σ := ⟨rfl, fun _ _ => rfl⟩
theorem Same.trans {vs us : List Nat} {σ1 σ2 σ3 : L2.St} (a : Same vs σ1 σ2) (b : Same us σ2 σ3) : Same (vs ++ us) σ1 σ3 := ⟨b.1.trans a.1, fun i h => by
  rw [List.mem_append] at h
  rw [b.2 i fun z => h (.inr z), a.2 i fun z => h (.inl z)]⟩
theorem same_set (σ : L2.St) (i : Nat) (o : Option V) : Same [i] σ (σ.set i o) := ⟨List.length_set .., fun j h => by
  rw [List.getElem?_set_ne (fun e => h (by rw [e]; exact List.mem_singleton_self _))]⟩
theorem wipe_get : ∀ (vs : List Nat) (σ : L2.St) (i : Nat), (L2.wipe σ vs)[i]? = if i ∈ vs then (if i < σ.length then some none else none) else σ[i]?
  | [], σ, i => by simp [L2.wipe]
  | v :: vs, σ, i => by
    have hl : (L2.wipe σ vs).length = σ.length := by
      clear wipe_get
      induction vs with
      | nil => rfl
      | cons u us ih => simp only [L2.wipe, List.length_set, ih]
    show ((L2.wipe σ vs).set v none)[i]? = _
    by_cases e : v = i
    · subst e
      rw [List.getElem?_set, if_pos rfl, hl]
      simp
    · rw [List.getElem?_set_ne e, wipe_get vs σ i]
      have : (i ∈ v :: vs) ↔ i ∈ vs := by rw [List.mem_cons]; exact ⟨fun h => h.elim (fun z => absurd z.symm e) id, .inr⟩
      by_cases m : i ∈ vs
      · rw [if_pos m, if_pos (this.mpr m)]
      · rw [if_neg m, if_neg fun z => m (this.mp z)]
theorem Same.wipe {vs us : List Nat} {σ σ' : L2.St} (s : Same us (L2.wipe σ vs) σ') (h : ∀ i ∈ us, i ∈ vs) : L2.wipe σ' vs = L2.wipe σ vs := by
  have hl : ∀ (vs : List Nat) (σ : L2.St), (L2.wipe σ vs).length = σ.length := fun vs σ => by
    induction vs with
    | nil => rfl
    | cons u us ih => simp only [L2.wipe, List.length_set, ih]
  apply List.ext_getElem?
  intro i
  rw [wipe_get, wipe_get]
  have h2 := s.2 i
  rw [wipe_get] at h2
  have h1 := s.1
  rw [hl] at h1
  by_cases m : i ∈ vs
  · rw [if_pos m, if_pos m, h1]
  · rw [if_neg m, if_neg m, h2 fun z => m (h i z), if_neg m]

/-- a target's reading: weak, if the thing is only taken apart -/
def tG (c : Cn) (wk : Bool) (vs : List Nat) (g : Gv) : TG := fun v σ H Q => ∃ d ρ A σd, Rel c ρ A H ∧ Rsl c ρ H σd σ ∧ (if wk = true then Rw c ρ H d v else Rv c ρ H d v) ∧
  Ld c ρ H σ WN (g d σd A) fun σd' ρ' _ H' => ∀ σ', Rsl c ρ' H' σd' σ' → Same vs σ σ' → Q σ' H'
def tGs (c : Cn) (vs : List Nat) (g : Gsv) : TGs := fun us σ H Q => ∃ ds ρ A σd, Rel c ρ A H ∧ Rsl c ρ H σd σ ∧ Rvs c ρ H ds us ∧
  Ld c ρ H σ WN (g ds σd A) fun σd' ρ' _ H' => ∀ σ', Rsl c ρ' H' σd' σ' → Same vs σ σ' → Q σ' H'
theorem _root_.L2.PG.zm {X : Cx} {e : Expr} {t t' : TG} (p : PG X e t') (h : ∀ v σ H Q, t v σ H Q → t' v σ H Q) : PG X e t := ⟨fun pins s σ H v u Q I r w => p.run pins s σ H v u Q I r (h v σ H Q w)⟩
theorem _root_.L2.PGs.zm {X : Cx} {e : List Expr} {t t' : TGs} (p : PGs X e t') (h : ∀ v σ H Q, t v σ H Q → t' v σ H Q) : PGs X e t := ⟨fun pins s σ H v u Q I r w => p.run pins s σ H v u Q I r (h v σ H Q w)⟩
section
variable {c : Cn} {ρ ρ' : List Addr} {A : Hh} {H H' : Hp} {σd : Sl} {σ : L2.St} {W : WX}
/-- where nothing is raised, the slots are no matter -/
theorem Ld.wn {α : Type} {σ2 : L2.St} {W2 : WX} {r : Option (R α)} {P : α → List Addr → Hh → Hp → Prop} (h : Ld c ρ H σ WN r P) (hx : ∀ x A' ρ' H', r = some (.ex x A') → Rel c ρ' A' H' → St' ρ H ρ' H' → False) : Ld c ρ H σ2 W2 r P := by
  revert h hx
  cases r with
  | none => exact fun h _ => h
  | some r =>
    cases r with
    | ok a A1 => exact fun h _ => h
    | ex x A1 => exact fun _ hx ρ' H' R' s' cls d _ => (hx x A1 ρ' H' rfl R' s').elim
/-- the same run from slots that are no matter -/
theorem Ld.sl {α : Type} {σ2 : L2.St} {r : Option (R α)} {P : α → List Addr → Hh → Hp → Prop} (h : Ld c ρ H σ WN r P) : Ld c ρ H σ2 WN r P := by
  revert h
  cases r with
  | none => exact fun h => h
  | some r =>
    cases r with
    | ok a A1 => exact fun h => h
    | ex x A1 => exact fun h => h
end
section
variable {X : Cx} {c : Cn} {tg o i : Expr} {es : List Expr} {g : Gv} {gs : Gsv} {wk : Bool} {vs us : List Nat} {pos : Pos} {fo fi : Ev D}
theorem g_wk (h : PG X tg (tG c true vs g)) : PG X tg (tG c false vs g) := h.zm fun v σ H Q ⟨d, ρ, A, σd, R, S, r, h⟩ => ⟨d, ρ, A, σd, R, S, .inl (by simpa using r), h⟩
theorem g_nm {x : Str} (k : Nat) (hN : X.N.Nodup) (hi : X.N[k]? = some x) (hx : Loc X.env.scope x) (hf : X.fn x = true ∨ X.env.scope.names.lookup x = some .local) : PG X (.Name x pos) (tG c false [k] (gnm k)) :=
  (pg_name (i := k) hN hi hx hf).zm fun v σ H Q ⟨d, ρ, A, σd, R, S, r, h⟩ => by
    have r' : Rv c ρ H d v := by simpa using r
    exact h ρ H R .refl _ (S.set r' k) (same_set σ k _)
theorem g_nil : PGs X [] (tGs c [] gnil) := pgs_nil.zm fun v σ H Q ⟨ds, ρ, A, σd, R, S, r, h⟩ => by
  cases r with
  | nil => exact ⟨rfl, h ρ H R .refl _ S (Same.refl _ _)⟩
  | cons _ _ => exact h.elim
theorem g_cons (h1 : PG X tg (tG c false vs g)) (h2 : PGs X es (tGs c us gs)) (hs : (assignEach (tg :: es) X.env).map (·.2) = assign tg X.env :: (assignEach es X.env).map (·.2) := by rfl) : PGs X (tg :: es) (tGs c (vs ++ us) (gcons g gs)) :=
  (pgs_cons h1 h2 hs).zm fun v σ H Q ⟨ds, ρ, A, σd, R, S, r, h⟩ => by
    cases r with
    | nil => exact h.elim
    | cons r rs =>
      rename_i d ds vs0 v0
      refine ⟨_, _, rfl, _, ρ, A, σd, R, S, by simpa using r, (Ld.bind (h : Ld c ρ H σ WN (Z.R.andThen (g _ σd A) fun σ' A' => gs _ σ' A') _)).imp fun σd1 ρ1 A1 H1 R1 s1 h1 σ1 S1 m1 => ?_⟩
      exact ⟨_, ρ1, A1, σd1, R1, S1, rs.to R s1, h1.sl.imp fun σd2 ρ2 A2 H2 R2 s2 h2 σ2 S2 m2 => h2 σ2 S2 (m1.trans m2)⟩
theorem g_tup {k n : Nat} (hK : c.K = X.K) (hc : X.calm = true) (h : PGs X es (tGs c vs gs)) (hn : (assignEach es X.env).length = n := by rfl) (hst : (assignEach es X.env).findIdx? (·.1) = none := by rfl) : PG X (.Tuple es k pos) (tG c true vs (gtup n gs)) :=
  (pg_tup hc h hn hst).zm fun v σ H Q ⟨d, ρ, A, σd, R, S, r, h⟩ => by
    have r' : Rw c ρ H d v := by simpa using r
    cases d with
    | tup xs =>
      obtain ⟨a, us, rfl, hs, rvs⟩ := r'.tup
      simp only [gtup] at h
      split at h
      · rename_i hl
        rw [hK] at hs
        exact ⟨a, us, rfl, hs, by rw [← rvs.length]; exact hl, xs, ρ, A, σd, R, S, rvs, h⟩
      · exact h.elim
    | _ => exact h.elim
theorem g_sub (hK : c.K = X.K) (ho : PE X o (tE c WN fo)) (hi : PE X i (tE c WN fi))
    (ha : ∀ v, assign (.Subscript o i pos) X.env v = (do
      let ov ← holding [v] (eval o X.env)
      let iv ← holding [v, ov] (eval i X.env)
      standAt pos
      holding [v, ov, iv] (setItem ov iv v)
      release [v, ov, iv] []) := by intro _; rfl) : PG X (.Subscript o i pos) (tG c false [] (gsub fo fi)) :=
  (pg_sub ho hi set_list ha).zm fun v σ H Q ⟨d, ρ, A, σd, R, S, r, h⟩ => by
    have r' : Rv c ρ H d v := by simpa using r
    refine show tE c WN fo σ H _ from one R S h fun x xv ρ1 A1 H1 R1 s1 S1 rx h1 => show tE c WN fi σ H1 _ from one R1 S1 h1 fun y yv ρ2 A2 H2 R2 s2 S2 ry h2 => ?_
    have rx2 := rx.to R1 s2
    have rv2 := (r'.to R s1).to R1 s2
    cases q : setD A2 x y d with
    | none => rw [q] at h2; exact h2.elim
    | some A3 =>
      rw [q] at h2
      unfold setD at q
      split at q
      · rename_i n k
        split at q
        · rename_i xs hA
          split at q
          · rename_i j hj
            cases q
            obtain ⟨a, us, rfl, h3, h4, h5⟩ := R2.lst hA rx2
            cases ry
            obtain ⟨R3, s3⟩ := R2.wrote (o := .lst (xs.set j d)) h3 (ho := .lst (us.set j v)) ⟨_, rfl, h5.set rv2 j⟩
            exact ⟨a, us, k, j, rfl, rfl, h4, by rw [← h5.length]; exact hj, h2 _ _ R3 s3 σ (S2.to R2 s3) (Same.refl _ _)⟩
          · cases q
        · cases q
      · cases q
end

/-- a walk gives these, while the lists watched stay as they are -/
def Walk (c : Cn) (ρ0 : List Addr) (H0 : Hp) (J : It) (xs : List D) (w : Wt) (wk : Bool) : Prop := ∀ ρ A H, Rel c ρ A H → St' ρ0 H0 ρ H → wOk w A = true →
  (∀ i d, xs[i]? = some d → J.go i H ∧ ∀ x H', J.yld i H x H' → Rel c ρ A H' ∧ St' ρ H ρ H' ∧ if wk = true then Rw c ρ H' d x else Rv c ρ H' d x) ∧ J.stop xs.length H
def tI (c : Cn) (W : WX) (wk : Bool) (u : Ev (List D × Wt)) : TI := fun σ H R => ∃ ρ A σd, Rel c ρ A H ∧ Rsl c ρ H σd σ ∧ Ld c ρ H σ W (u σd A) fun p ρ' _ H' => ∀ J, Walk c ρ' H' J p.1 p.2 wk → R J H'
theorem _root_.L2.PI.zm {X : Cx} {tg e : Expr} {t t' : TI} (p : PI X tg e t') (h : ∀ σ H R, t σ H R → t' σ H R) : PI X tg e t := ⟨fun pins s σ H R I w => p.run pins s σ H R I (h σ H R w)⟩
section
variable {c : Cn} {ρ ρ' : List Addr} {A : Hh} {H H' : Hp} {σd : Sl} {σ : L2.St} {W : WX}
theorem wOk_at {n : Nat} {xs : List D} (h : wOk [(n, xs)] A = true) : A[n]? = some (.lst xs) := by
  unfold wOk at h
  simp only [List.all_cons, List.all_nil, Bool.and_true] at h
  cases q : A[n]? with
  | none => rw [q] at h; cases h
  | some o =>
    rw [q] at h
    cases o with
    | ins k fs => cases h
    | dct kvs => cases h
    | dck kvs => cases h
    | lst ys =>
      have := (D.deqs_iff ys xs).mp h
      rw [this]
/-- what a row's place holds later -/
theorem Stw.later {a : Addr} {vs : List V} {xs : List D} {w : Wt} {ρ2 : List Addr} {A2 : Hh} {H2 : Hp} (h : Stw c ρ H a vs xs w) (r : Rvs c ρ H xs vs) (R : Rel c ρ A H) (s : St' ρ H ρ2 H2) (R2 : Rel c ρ2 A2 H2) (hw : wOk w A2 = true) :
    ∃ us, Stw c ρ2 H2 a us xs w ∧ Rvs c ρ2 H2 xs us := by
  rcases h with ⟨h | h | ⟨h, hn⟩, e⟩ | ⟨n, hn, h, e⟩
  · exact ⟨vs, .inl ⟨.inl (R.fzt s.fr _ _ h), e⟩, r.to R s⟩
  · exact ⟨vs, .inl ⟨.inr (.inl (R.fzs s.fr _ _ h)), e⟩, r.to R s⟩
  · refine ⟨vs, .inl ⟨.inr (.inr ⟨s.fr _ _ h hn, fun m => ?_⟩), e⟩, r.to R s⟩
    have := s.new _ m hn
    rw [h] at this; cases this
  · subst e
    have hA := wOk_at hw
    have hr : ρ2[n]? = some a := by
      obtain ⟨t, rfl⟩ := s.pre
      rw [List.getElem?_append_left (List.getElem?_eq_some_iff.mp hn).1]
      exact hn
    obtain ⟨ho, h1, us, rfl, h3⟩ := R2.obj n _ a hA hr
    exact ⟨us, .inr ⟨n, hr, h1, rfl⟩, h3⟩
theorem walk_l {K : PySem.W.Frag} {a : Addr} {vs : List V} {xs : List D} {w : Wt} {ρ0 : List Addr} {A0 : Hh} {H0 : Hp} (hK : c.K = K) (R0 : Rel c ρ0 A0 H0) (h : Stw c ρ0 H0 a vs xs w) (r : Rvs c ρ0 H0 xs vs) (hl : SqL K H0 a vs)
    (keep : ∀ ρ A H us, Rel c ρ A H → St' ρ0 H0 ρ H → Stw c ρ H a us xs w → Rvs c ρ H xs us → SqL K H a us) : Walk c ρ0 H0 (Itl K a) xs w false := fun ρ A H R s hw => by
  obtain ⟨us, h2, r2⟩ := h.later r R0 s R hw
  have hq := keep ρ A H us R s h2 r2
  refine ⟨fun i d hd => ?_, us, hq, by rw [r2.length]; exact Nat.le_refl _⟩
  obtain ⟨v, hv, rv⟩ := r2.get hd
  refine ⟨⟨us, v, hq, hv⟩, fun x H' ⟨e, hx⟩ => ?_⟩
  subst e
  have := hx us hq
  rw [hv] at this
  cases this
  exact ⟨R, .refl, by simpa using rv⟩
theorem walk_t {K : PySem.W.Frag} {a : Addr} {vs : List V} {xs : List D} {ρ0 : List Addr} {A0 : Hh} {H0 : Hp} (hK : c.K = K) (R0 : Rel c ρ0 A0 H0) (h : FzT c.K H0 a vs) (r : Rvs c ρ0 H0 xs vs) : Walk c ρ0 H0 (Itt K a) xs [] false := fun ρ A H R s hw => by
  have hq : SqT K H a vs := by rw [← hK]; exact (R0.fzt s.fr _ _ h).sq
  have r2 := r.to R0 s
  refine ⟨fun i d hd => ?_, vs, hq, by rw [r2.length]; exact Nat.le_refl _⟩
  obtain ⟨v, hv, rv⟩ := r2.get hd
  refine ⟨⟨vs, v, hq, hv⟩, fun x H' ⟨e, hx⟩ => ?_⟩
  subst e
  have := hx vs hq
  rw [hv] at this
  cases this
  exact ⟨R, .refl, by simpa using rv⟩
/-- a list stays a list -/
def LstAt (c : Cn) (ρ0 : List Addr) (H0 : Hp) (a : Addr) (xs : List D) (w : Wt) : Prop := ∃ vs, Rvs c ρ0 H0 xs vs ∧ ((FzL c.K H0 a vs ∧ w = []) ∨ (H0 a = some (.lst vs) ∧ a ∉ ρ0 ∧ w = []) ∨ ∃ n, ρ0[n]? = some a ∧ H0 a = some (.lst vs) ∧ w = [(n, xs)])
theorem LstAt.later {a : Addr} {xs : List D} {w : Wt} {ρ0 : List Addr} {A0 : Hh} {H0 : Hp} (h : LstAt c ρ0 H0 a xs w) (R0 : Rel c ρ0 A0 H0) (s : St' ρ0 H0 ρ H) (R : Rel c ρ A H) (hw : wOk w A = true) : LstAt c ρ H a xs w := by
  obtain ⟨vs, r, ⟨h, e⟩ | ⟨h, hn, e⟩ | ⟨n, hn, h, e⟩⟩ := h
  · exact ⟨vs, r.to R0 s, .inl ⟨R0.fzs s.fr _ _ h, e⟩⟩
  · refine ⟨vs, r.to R0 s, .inr (.inl ⟨s.fr _ _ h hn, fun m => ?_, e⟩)⟩
    have := s.new _ m hn
    rw [h] at this; cases this
  · subst e
    have hA := wOk_at hw
    have hr : ρ[n]? = some a := by
      obtain ⟨t, rfl⟩ := s.pre
      rw [List.getElem?_append_left (List.getElem?_eq_some_iff.mp hn).1]
      exact hn
    obtain ⟨ho, h1, us, rfl, h3⟩ := R.obj n _ a hA hr
    exact ⟨us, h3, .inr (.inr ⟨n, hr, h1, rfl⟩)⟩
theorem LstAt.sq {a : Addr} {xs : List D} {w : Wt} (h : LstAt c ρ H a xs w) : ∃ vs, SqL c.K H a vs ∧ Rvs c ρ H xs vs := by
  obtain ⟨vs, r, ⟨h, e⟩ | ⟨h, hn, e⟩ | ⟨n, hn, h, e⟩⟩ := h
  · exact ⟨vs, h.sq, r⟩
  · exact ⟨vs, .of h, r⟩
  · exact ⟨vs, .of h, r⟩
theorem LstAt.walk {a : Addr} {xs : List D} {w : Wt} {ρ0 : List Addr} {A0 : Hh} {H0 : Hp} (h : LstAt c ρ0 H0 a xs w) (R0 : Rel c ρ0 A0 H0) : Walk c ρ0 H0 (Itl c.K a) xs w false := fun ρ A H R s hw => by
  obtain ⟨us, hq, r2⟩ := (h.later R0 s R hw).sq
  refine ⟨fun i d hd => ?_, us, hq, by rw [r2.length]; exact Nat.le_refl _⟩
  obtain ⟨v, hv, rv⟩ := r2.get hd
  refine ⟨⟨us, v, hq, hv⟩, fun x H' ⟨e, hx⟩ => ?_⟩
  subst e
  have := hx us hq
  rw [hv] at this
  cases this
  exact ⟨R, .refl, by simpa using rv⟩
theorem Stw.cases {a : Addr} {vs : List V} {xs : List D} {w : Wt} (h : Stw c ρ H a vs xs w) (r : Rvs c ρ H xs vs) : (FzT c.K H a vs ∧ w = []) ∨ LstAt c ρ H a xs w := by
  rcases h with ⟨h | h | ⟨h, hn⟩, e⟩ | ⟨n, hn, h, e⟩
  · exact .inl ⟨h, e⟩
  · exact .inr ⟨vs, r, .inl ⟨h, e⟩⟩
  · exact .inr ⟨vs, r, .inr (.inl ⟨h, hn, e⟩)⟩
  · exact .inr ⟨vs, r, .inr (.inr ⟨n, hn, h, e⟩)⟩
theorem wOk_app {w w2 : Wt} {A : Hh} (h : wOk (w ++ w2) A = true) : wOk w A = true ∧ wOk w2 A = true := by
  unfold wOk at h ⊢
  rw [List.all_append, Bool.and_eq_true] at h
  exact h
theorem zip_at {xs ys : List D} {i : Nat} {d : D} (h : (zipD xs ys)[i]? = some d) : ∃ x y, xs[i]? = some x ∧ ys[i]? = some y ∧ d = .tup [x, y] := by
  unfold zipD at h
  rw [List.getElem?_map] at h
  obtain ⟨z, h1, h2⟩ := Option.map_eq_some_iff.mp h
  obtain ⟨h3, h4⟩ := List.getElem?_zip_eq_some.mp h1
  exact ⟨_, _, h3, h4, h2.symm⟩
/-- a new pair, taken apart at once -/
theorem pair_ok {x y : D} {v u : V} {T : Addr} (R : Rel c ρ A H) (n : H T = none) (rv : Rv c ρ H x v) (ru : Rv c ρ H y u) : Rel c ρ A (upd H T (.tup [v, u])) ∧ St' ρ H ρ (upd H T (.tup [v, u])) ∧ Rw c ρ (upd H T (.tup [v, u])) (.tup [x, y]) (.ref T) := by
  obtain ⟨R1, s1, _⟩ := R.laid (ho := .tup [v, u]) n
  exact ⟨R1, s1, .inr ⟨T, [x, y], [v, u], rfl, rfl, .inl (.inl upd_same), .cons (rv.to R s1) (.cons (ru.to R s1) .nil)⟩⟩
theorem walk_zl {a b : Addr} {xs ys : List D} {w w2 : Wt} {ρ0 : List Addr} {A0 : Hh} {H0 : Hp} (h : LstAt c ρ0 H0 a xs w) (h2 : LstAt c ρ0 H0 b ys w2) (R0 : Rel c ρ0 A0 H0) :
    Walk c ρ0 H0 (Itz c.K a b) (zipD xs ys) (w ++ w2) true := fun ρ A H R s hw => by
  obtain ⟨hw1, hw2⟩ := wOk_app hw
  obtain ⟨vs, hq, r⟩ := (h.later R0 s R hw1).sq
  obtain ⟨us, hq2, r2⟩ := (h2.later R0 s R hw2).sq
  refine ⟨fun i d hd => ?_, vs, us, hq, hq2, ?_⟩
  · obtain ⟨x, y, hx, hy, rfl⟩ := zip_at hd
    obtain ⟨v, hv, rv⟩ := r.get hx
    obtain ⟨u, hu, ru⟩ := r2.get hy
    refine ⟨⟨vs, us, v, u, hq, hq2, hv, hu⟩, fun z H' ⟨T, x', y', e1, n, e2, k1, k2⟩ => ?_⟩
    have e3 := k1 vs hq
    have e4 := k2 us hq2
    rw [hv] at e3
    rw [hu] at e4
    cases e3
    cases e4
    subst e1 e2
    have := pair_ok R n rv ru
    simpa using this
  · unfold zipD
    rw [List.length_map, List.length_zip, r.length, r2.length]
    omega
theorem walk_zt {a b : Addr} {vs us : List V} {xs ys : List D} {ρ0 : List Addr} {A0 : Hh} {H0 : Hp} (h : FzT c.K H0 a vs) (h2 : FzT c.K H0 b us) (r0 : Rvs c ρ0 H0 xs vs) (r1 : Rvs c ρ0 H0 ys us) (R0 : Rel c ρ0 A0 H0) :
    Walk c ρ0 H0 (RZ.ItzT c.K a b) (zipD xs ys) [] true := fun ρ A H R s hw => by
  have hq := (R0.fzt s.fr _ _ h).sq
  have hq2 := (R0.fzt s.fr _ _ h2).sq
  have r := r0.to R0 s
  have r2 := r1.to R0 s
  refine ⟨fun i d hd => ?_, vs, us, hq, hq2, ?_⟩
  · obtain ⟨x, y, hx, hy, rfl⟩ := zip_at hd
    obtain ⟨v, hv, rv⟩ := r.get hx
    obtain ⟨u, hu, ru⟩ := r2.get hy
    refine ⟨⟨vs, us, v, u, hq, hq2, hv, hu⟩, fun z H' ⟨T, x', y', e1, n, e2, k1, k2⟩ => ?_⟩
    have e3 := k1 vs hq
    have e4 := k2 us hq2
    rw [hv] at e3
    rw [hu] at e4
    cases e3
    cases e4
    subst e1 e2
    have := pair_ok R n rv ru
    simpa using this
  · unfold zipD
    rw [List.length_map, List.length_zip, r.length, r2.length]
    omega
theorem walk_r {i : Int} {n : Nat} {ρ0 : List Addr} {H0 : Hp} : Walk c ρ0 H0 (Itr i n) ((List.range n).map fun (k : Nat) => D.int (i + (k : Int))) [] false := fun ρ A H R s hw => by
  refine ⟨fun k d hd => ?_, ?_⟩
  · rw [List.getElem?_map] at hd
    obtain ⟨m, h1, h2⟩ := Option.map_eq_some_iff.mp hd
    obtain ⟨h3, h4⟩ := List.getElem?_eq_some_iff.mp h1
    rw [List.length_range] at h3
    rw [List.getElem_range] at h4
    subst h4 h2
    refine ⟨h3, fun x H' ⟨e1, e2⟩ => ?_⟩
    subst e1 e2
    exact ⟨R, .refl, by simpa using Rv.int _⟩
  · show n ≤ _
    rw [List.length_map, List.length_range]
    exact Nat.le_refl _
end
section
variable {X : Cx} {c : Cn} {W : WX} {tg e a b : Expr} {elts : List Expr} {kk : Nat} {p pos tpos : Pos} {fa fb : Ev D} {qa : Ev (List D)} {ua ub : Ev (List D × Wt)}
theorem i_of (hK : c.K = X.K) (h : PE X e (tE c W fa)) : PI X tg e (tI c W false (zof fa)) := ⟨fun pins s σ H R I ⟨ρ, A, σd, Rl, S, hl⟩ => by
  have key : (iTup X.K (tE c W fa) σ H R ∨ iList X.K (tE c W fa) σ H R) := by
    have hl0 : Ld c ρ H σ W (mb (fa σd) (fun x A => (seqD A x).map fun p => .ok p A) A) _ := hl
    cases q : fa σd A with
    | none =>
      unfold mb at hl0
      rw [q] at hl0
      exact hl0.elim
    | some r =>
      cases r with
      | ex x A1 =>
        refine .inl ⟨ρ, A, σd, Rl, S, ?_⟩
        unfold mb at hl0
        rw [q] at hl0 ⊢
        exact hl0
      | ok d A1 =>
        have h1 := Ld.bind hl0
        rw [q] at h1
        cases d with
        | tup xs =>
          refine .inl ⟨ρ, A, σd, Rl, S, ?_⟩
          rw [q]
          intro ρ' H' R' s' v rv
          cases rv with
          | tup h t =>
            refine ⟨_, rfl, ⟨_, by rw [← hK]; exact h.sq⟩, ?_⟩
            exact h1 ρ' H' R' s' ρ' H' R' .refl _ (walk_t hK R' h t)
        | lst xs =>
          refine .inr ⟨ρ, A, σd, Rl, S, ?_⟩
          rw [q]
          intro ρ' H' R' s' v rv
          cases rv with
          | lst h t =>
            refine ⟨_, rfl, ⟨_, by rw [← hK]; exact h.sq⟩, ?_⟩
            have h2 := h1 ρ' H' R' s' ρ' H' R' .refl _ (LstAt.walk ⟨_, t, .inl ⟨h, rfl⟩⟩ R')
            rw [hK] at h2
            exact h2
        | ref n =>
          refine .inr ⟨ρ, A, σd, Rl, S, ?_⟩
          rw [q]
          intro ρ' H' R' s' v rv
          have h2 := h1 ρ' H' R' s'
          obtain ⟨p, e, h3⟩ := mapL (g := fun p => p) R' h2
          simp only [seqD] at e
          split at e
          · rename_i xs hA
            cases e
            cases rv with
            | ref hr =>
              obtain ⟨ho, g1, us, rfl, g3⟩ := R'.obj n _ _ hA hr
              refine ⟨_, rfl, ⟨us, .of g1⟩, ?_⟩
              have h4 := h3 _ (LstAt.walk ⟨us, g3, .inr (.inr ⟨n, hr, g1, rfl⟩)⟩ R')
              rw [hK] at h4
              exact h4
          · cases e
        | non => exact .inl ⟨ρ, A, σd, Rl, S, by rw [q]; exact fun ρ' H' R' s' => (h1 ρ' H' R' s').elim⟩
        | bl _ => exact .inl ⟨ρ, A, σd, Rl, S, by rw [q]; exact fun ρ' H' R' s' => (h1 ρ' H' R' s').elim⟩
        | int _ => exact .inl ⟨ρ, A, σd, Rl, S, by rw [q]; exact fun ρ' H' R' s' => (h1 ρ' H' R' s').elim⟩
        | str _ => exact .inl ⟨ρ, A, σd, Rl, S, by rw [q]; exact fun ρ' H' R' s' => (h1 ρ' H' R' s').elim⟩
        | exc _ => exact .inl ⟨ρ, A, σd, Rl, S, by rw [q]; exact fun ρ' H' R' s' => (h1 ρ' H' R' s').elim⟩
        | emp => exact .inl ⟨ρ, A, σd, Rl, S, by rw [q]; exact fun ρ' H' R' s' => (h1 ρ' H' R' s').elim⟩
  rcases key with k | k
  · exact (pi_tup h).run pins s σ H R I k
  · exact (pi_list h).run pins s σ H R I k⟩
theorem i_st (hK : c.K = X.K) (h : PE X e (tN c W qa)) : PI X tg e (tI c W false (zst qa)) := (pi_list h).zm fun σ H R ⟨ρ, A, σd, Rl, S, hl⟩ => ⟨ρ, A, σd, Rl, S, (Ld.bind hl).later.imp fun xs ρ1 A1 H1 R1 s1 h1 a vs n rvs => by
  obtain ⟨R2, s2, hp⟩ := R1.laid (ho := .lst vs) n
  refine ⟨a, rfl, ⟨vs, .of upd_same⟩, ?_⟩
  have h2 := h1 ρ1 _ R2 s2 ρ1 _ R2 .refl _ (LstAt.walk ⟨vs, rvs.to R1 s2, .inr (.inl ⟨upd_same, hp, rfl⟩)⟩ R2)
  rw [hK] at h2
  exact h2⟩
theorem i_rng (hg : Gl X "range") (hm : X.mg "range" = none) (ha : PE X a (tE c W fa)) (hs : starEach [a] X.env = [(false, eval a X.env)] := by rfl) : PI X tg (.Call (.Name "range" p) [a] [] pos) (tI c W false (zst (zrng (zc (.int 0)) fa))) :=
  (pi_range1 hg hm (pa1 ha hs) hs).zm fun σ H R ⟨ρ, A, σd, Rl, S, hl⟩ => by
    have e : zst (zrng (zc (.int 0)) fa) σd = mb (fa σd) fun y => mb (rngM (.int 0) y) fun xs => ok (xs, []) := by
      unfold zst zrng
      rw [mb_mb]
      show mb (mb (fa σd) _) _ = _
      rw [mb_mb]
    rw [e] at hl
    refine show tE c W fa σ H _ from one Rl S hl fun y u ρ1 A1 H1 R1 s1 S1 ru h1 => ?_
    cases ru <;> first | exact False.elim h1 | skip
    rename_i j
    have h2 := Ld.bind h1
    unfold rngM at h2
    dsimp only at h2
    obtain ⟨q, h3⟩ := iteL R1 h2
    simp only [Bool.and_eq_true, decide_eq_true_eq] at q
    refine ⟨j, rfl, by omega, by omega, ?_⟩
    have h4 := h3 ρ1 H1 R1 .refl (Itr 0 j.toNat)
    refine h4 ?_
    have := walk_r (c := c) (i := 0) (n := j.toNat) (ρ0 := ρ1) (H0 := H1)
    unfold rngI
    rw [Int.sub_zero]
    exact this
theorem i_rng2 (hg : Gl X "range") (hm : X.mg "range" = none) (ha : PE X a (tE c W fa)) (hb : PE X b (tE c W fb)) (hs : starEach [a, b] X.env = [(false, eval a X.env), (false, eval b X.env)] := by rfl) (hs2 : starEach [b] X.env = [(false, eval b X.env)] := by rfl)
    (na : starEach [a, b] X.env = (false, eval a X.env) :: starEach [b] X.env := by rfl) : PI X tg (.Call (.Name "range" p) [a, b] [] pos) (tI c W false (zst (zrng fa fb))) :=
  (pi_range2 hg hm (pa_cons ha (pa1 hb hs2) na) hs hs2).zm fun σ H R ⟨ρ, A, σd, Rl, S, hl⟩ => by
    have e : zst (zrng fa fb) σd = mb (fa σd) fun x => mb (fb σd) fun y => mb (rngM x y) fun xs => ok (xs, []) := by
      unfold zst zrng
      rw [mb_mb]
      congr 1
      funext x
      rw [mb_mb]
    rw [e] at hl
    refine show tE c W fa σ H _ from two Rl S hl fun x y v u ρ1 A1 H1 R1 s1 S1 rv ru h1 => ?_
    cases rv <;> cases ru <;> first | exact False.elim h1 | skip
    rename_i i j
    have h2 := Ld.bind h1
    unfold rngM at h2
    dsimp only at h2
    obtain ⟨q, h3⟩ := iteL R1 h2
    simp only [Bool.and_eq_true, decide_eq_true_eq] at q
    refine ⟨i, j, rfl, by omega, ?_⟩
    exact h3 ρ1 H1 R1 .refl (Itr i (j - i).toNat) walk_r
theorem wtD_at {ρ : List Addr} {A : Hh} {H : Hp} {x : D} {v : V} {xs : List D} (R : Rel c ρ A H) (r : Rv c ρ H x v) (e : lstD A x = some xs) : ∃ a, v = .ref a ∧ LstAt c ρ H a xs (wtD x xs) := by
  cases r with
  | non => cases e
  | bl b => cases e
  | int i => cases e
  | str y => cases e
  | tup h t => cases e
  | lst h t => cases e; exact ⟨_, rfl, _, t, .inl ⟨h, rfl⟩⟩
  | ref h =>
    simp only [lstD] at e
    split at e
    · rename_i ys hA
      cases e
      obtain ⟨ho, h1, vs, rfl, h3⟩ := R.obj _ _ _ hA h
      exact ⟨_, rfl, vs, h3, .inr (.inr ⟨_, h, h1, rfl⟩)⟩
    · cases e
  | exc h t => cases e
  | emp h t => cases e
theorem i_zip (hK : c.K = X.K) (hg : Gl X "zip") (hm : X.mg "zip" = none) (ha : PE X a (tE c W fa)) (hb : PE X b (tE c W fb)) (hs : starEach [a, b] X.env = (false, eval a X.env) :: starEach [b] X.env := by rfl) (hs2 : starEach [b] X.env = (false, eval b X.env) :: starEach [] X.env := by rfl)
    (hpl : (backTo pos (starEach [b] X.env)).any (·.1) = false := by rfl) : PI X (.Tuple elts kk tpos) (.Call (.Name "zip" p) [a, b] [] pos) (tI c W true (zzip fa fb)) :=
  (RZ.pi_zipA hg hm (pa_cons ha (pa1 hb hs2) hs) hs hpl).zm fun σ H R ⟨ρ, A, σd, Rl, S, hl⟩ => show tE c W fa σ H _ from two Rl S hl fun x y v u ρ1 A1 H1 R1 s1 S1 rv ru h1 => by
    have key : ∀ xs ys, lstD A1 x = some xs → lstD A1 y = some ys → (∀ J, Walk c ρ1 H1 J (zipD xs ys) (wtD x xs ++ wtD y ys) true → R J H1) → ∃ a b xs ys, [v, u] = [V.ref a, V.ref b] ∧ ((SqL X.K H1 a xs ∧ SqL X.K H1 b ys ∧ R (Itz X.K a b) H1) ∨ (SqT X.K H1 a xs ∧ SqT X.K H1 b ys ∧ R (RZ.ItzT X.K a b) H1)) := fun xs ys e1 e2 h2 => by
      obtain ⟨a, rfl, l1⟩ := wtD_at R1 rv e1
      obtain ⟨b, rfl, l2⟩ := wtD_at R1 ru e2
      obtain ⟨vs, q1, _⟩ := l1.sq
      obtain ⟨us, q2, _⟩ := l2.sq
      rw [hK] at q1 q2
      refine ⟨a, b, vs, us, rfl, .inl ⟨q1, q2, ?_⟩⟩
      have h3 := h2 _ (walk_zl l1 l2 R1)
      rw [hK] at h3
      exact h3
    have key2 : Ld c ρ1 H1 σ W (match lstD A1 x, lstD A1 y with
      | some xs, some ys => some (.ok (zipD xs ys, wtD x xs ++ wtD y ys) A1)
      | _, _ => none) (fun p ρ' _ H' => ∀ J, Walk c ρ' H' J p.1 p.2 true → R J H') → ∃ a b xs ys, [v, u] = [V.ref a, V.ref b] ∧ ((SqL X.K H1 a xs ∧ SqL X.K H1 b ys ∧ R (Itz X.K a b) H1) ∨ (SqT X.K H1 a xs ∧ SqT X.K H1 b ys ∧ R (RZ.ItzT X.K a b) H1)) := fun h2 => by
      split at h2
      · rename_i xs ys e1 e2
        exact key xs ys e1 e2 (h2 ρ1 H1 R1 .refl)
      · exact h2.elim
    cases x with
    | tup xs =>
      cases y with
      | tup ys =>
        cases rv with
        | tup t1 r1 =>
          cases ru with
          | tup t2 r2 =>
            refine ⟨_, _, _, _, rfl, .inr ⟨by rw [← hK]; exact t1.sq, by rw [← hK]; exact t2.sq, ?_⟩⟩
            have h3 := h1 ρ1 H1 R1 .refl _ (walk_zt t1 t2 r1 r2 R1)
            rw [hK] at h3
            exact h3
      | _ => exact key2 h1
    | _ => exact key2 h1
end
end Z

noncomputable section
set_option maxHeartbeats 2000000
namespace Z
open PySem PySem.Spec PyProof.Rows L2

/-- without p -/
def del (H : Hp) (p : Addr) : Hp := fun b => if b = p then none else H b
theorem upd_del {H : Hp} {p : Addr} {o : HO} : upd (del H p) p o = upd H p o := by
  funext b
  unfold upd del
  split <;> rfl
theorem del_upd {H : Hp} {p : Addr} {o : HO} (n : H p = none) : del (upd H p o) p = H := by
  funext b
  unfold upd del
  split
  · rename_i e; rw [e, n]
  · rename_i e; exact if_neg e
section
variable {c : Cn} {ρ ρ' : List Addr} {A : Hh} {H H' : Hp} {σd : Sl} {σ : L2.St} {W : WX}
theorem del_ne {p b : Addr} (h : b ≠ p) : del H p b = H b := by unfold del; rw [if_neg h]
theorem frz_del {p : Addr} {ys : List V} (h : H p = some (.lst ys)) : ∀ a o u, H a = some (.frz o u) → del H p a = some (.frz o u) := fun a o u t => by
  rw [del_ne fun z => by rw [z, h] at t; cases t]
  exact t
theorem Rvs.del {p : Addr} {ys : List V} (h : H p = some (.lst ys)) {ds : List D} {vs : List V} (r : Rvs c ρ H ds vs) : Rvs c ρ (del H p) ds vs := r.mono (List.prefix_refl _) (frz_del h)
theorem Rv.del {p : Addr} {ys : List V} (h : H p = some (.lst ys)) {d : D} {v : V} (r : Rv c ρ H d v) : Rv c ρ (del H p) d v := r.mono (List.prefix_refl _) (frz_del h)
theorem Rel.del {p : Addr} {ys : List V} (h : H p = some (.lst ys)) (n : p ∉ ρ) (R : Rel c ρ A H) : Rel c ρ A (del H p) := ⟨R.len, R.nd, fun k o a h1 h2 => by
  obtain ⟨ho, h3, h4⟩ := R.obj k o a h1 h2
  refine ⟨ho, ?_, h4.mono (List.prefix_refl _) (frz_del h)⟩
  rw [del_ne fun e => n (by rw [← e]; exact List.mem_of_getElem? h2)]
  exact h3⟩
theorem Rsl.del {p : Addr} {ys : List V} (h : H p = some (.lst ys)) (S : Rsl c ρ H σd σ) : Rsl c ρ (del H p) σd σ := ⟨S.len, fun i d e => by
  obtain ⟨v, h1, h2⟩ := S.get i d e
  exact ⟨v, h1, h2.del h⟩⟩
/-- a step in the presence of a list at p that no one knows -/
theorem St'.del {p : Addr} {vs : List V} {ρ2 : List Addr} {A2 : Hh} {H2 : Hp} (n : H p = none) (hp : p ∉ ρ) (s : St' ρ (upd H p (.lst vs)) ρ2 H2) : H2 p = some (.lst vs) ∧ p ∉ ρ2 ∧ St' ρ H ρ2 (Z.del H2 p) := by
  have h1 : H2 p = some (.lst vs) := s.fr p _ upd_same hp
  have h2 : p ∉ ρ2 := fun m => by
    have := s.new p m hp
    rw [upd_same] at this
    cases this
  refine ⟨h1, h2, s.pre, fun b m hb => ?_, fun b o e hb => ?_⟩
  · have := s.new b m hb
    rw [upd_ne (fun e => h2 (by rw [← e]; exact m))] at this
    exact this
  · have hne : b ≠ p := ne_of_none e n
    rw [del_ne hne]
    exact s.fr b o (by rw [upd_ne hne]; exact e) hb
end
/-- no further test, or one -/
def tTs (c : Cn) (f : Ev Bool) : TT := tT c WN f
theorem _root_.L2.PTs.zm {X : Cx} {e : List Expr} {t t' : TT} (p : PTs X e t') (h : ∀ σ H Q, t σ H Q → t' σ H Q) : PTs X e t := ⟨fun pins s σ H Q I w => p.run pins s σ H Q I (h σ H Q w)⟩
section
variable {X : Cx} {c : Cn} {W : WX} {elt tg iter e : Expr} {ifs : List Expr} {scope : Scope} {own : List (Str × Nat)} {pos : Pos} {wk : Bool} {vs us : List Nat} {u : Ev (List D × Wt)} {g : Gv} {t : Ev Bool} {fe : Ev D}
theorem ts_nil : PTs X [] (tT c WN ztt) := pts_nil.zm fun σ H Q ⟨ρ, A, σd, R, S, h⟩ => h ρ H R .refl
theorem ts_one (h : PT X e (tT c WN t)) : PTs X [e] (tT c WN t) := pts_one h
theorem comp_read {σ : L2.St} {H : Hp} {Q : VK} (hus : ∀ i ∈ us, i ∈ vs) (hm : tN c W (zcomp vs g u t fe) σ H Q) : tLc (tI c W wk u) (tG c wk us g) (tT c WN t) (tE c WN fe) vs σ H Q := by
  obtain ⟨ρ, A, σd, R, S, h⟩ := hm
  refine ⟨ρ, A, σd, R, S, (Ld.bind h).imp fun p ρ1 A1 H1 R1 s1 h1 J wJ => fun p0 hp0 => ?_⟩
  have hp1 : p0 ∉ ρ1 := fun m => by
    obtain ⟨ho, e, _⟩ := R1.at m
    rw [hp0] at e; cases e
  have S1 := S.to R s1
  refine ⟨fun i m H => m = p.1.length - i ∧ i ≤ p.1.length ∧ ∃ Hb ρ A acc av, Hb p0 = none ∧ H = upd Hb p0 (.lst av) ∧ p0 ∉ ρ ∧ Rel c ρ A Hb ∧ St' ρ1 H1 ρ Hb ∧ Rvs c ρ Hb acc av ∧
      Ld c ρ Hb σ W (compL (wipeD σd vs) p.2 g t fe (p.1.drop i) acc A) (fun ds ρ' _ H' => ∀ a vs, H' a = none → Rvs c ρ' H' ds vs → Q (.ref a) (upd H' a (.lst vs))), ?_, ?_⟩
  · exact ⟨_, rfl, Nat.zero_le _, H1, ρ1, A1, [], [], hp0, rfl, hp1, R1, .refl, .nil, h1⟩
  · rintro i m H' ⟨em, hi, Hb, ρ2, A2, acc, av, hn, eH, hp2, R2, s2, rav, h2⟩
    subst eH
    obtain ⟨R3, s3, _⟩ := R2.laid (ho := .lst av) hn
    have hw : wOk p.2 A2 = true := by
      cases q : wOk p.2 A2 with
      | true => rfl
      | false => cases q2 : p.1.drop i with
        | nil => rw [q2] at h2; simp only [compL, q] at h2; exact h2.elim
        | cons x xs => rw [q2] at h2; simp only [compL, q] at h2; exact h2.elim
    obtain ⟨wg, ws⟩ := wJ ρ2 A2 _ R3 (s2.trans s3) hw
    cases q : p.1.drop i with
    | nil =>
      have e : i = p.1.length := by
        have := congrArg List.length q
        rw [List.length_drop, List.length_nil] at this
        omega
      rw [q] at h2
      simp only [compL, hw, if_true] at h2
      refine .inl ⟨by rw [e]; exact ws, h2 ρ2 Hb R2 .refl p0 av hn rav⟩
    | cons x xs =>
      have hlt : i < p.1.length := by
        have := congrArg List.length q
        rw [List.length_drop, List.length_cons] at this
        omega
      have hx : p.1[i]? = some x := by
        have := List.getElem?_drop (xs := p.1) (i := i) (j := 0)
        rw [q] at this
        simpa using this.symm
      have hxs : p.1.drop (i + 1) = xs := by
        rw [← List.drop_drop, q]
        rfl
      rw [q] at h2
      simp only [compL, hw, if_true] at h2
      obtain ⟨g1, g2⟩ := wg i x hx
      refine .inr ⟨g1, fun H' => (∃ Hb ρ A acc av, Hb p0 = none ∧ H' = upd Hb p0 (.lst av) ∧ p0 ∉ ρ ∧ Rel c ρ A Hb ∧ St' ρ1 H1 ρ Hb ∧ Rvs c ρ Hb acc av ∧
        Ld c ρ Hb σ W (compL (wipeD σd vs) p.2 g t fe xs acc A) (fun ds ρ' _ H' => ∀ a vs, H' a = none → Rvs c ρ' H' ds vs → Q (.ref a) (upd H' a (.lst vs)))), ?_, ?_⟩
      · rintro H'' ⟨Hb', ρ', A', acc', av', k1, k2, k3, k4, k5, k6, k7⟩
        exact ⟨p.1.length - (i + 1), by omega, rfl, hlt, Hb', ρ', A', acc', av', k1, k2, k3, k4, k5, k6, by rw [hxs]; exact k7⟩
      · intro y H3 hy
        obtain ⟨R4, s4, ry⟩ := g2 y H3 hy
        have s14 := (s2.trans s3).trans s4
        have S4 : Rsl c ρ2 H3 (wipeD σd vs) (L2.wipe σ vs) := (S1.to R1 s14).wipe vs
        cases qg : g x (wipeD σd vs) A2 with
        | none => rw [qg] at h2; exact h2.elim
        | some r =>
          cases r with
          | ex _ _ => rw [qg] at h2; exact h2.elim
          | ok σ5 A5 =>
            rw [qg] at h2
            dsimp only at h2
            refine ⟨x, ρ2, A2, wipeD σd vs, R4, S4, ry, ?_⟩
            rw [qg]
            intro ρ5 H5 R5 s5 σ5' S5 m5
            refine ⟨m5.wipe hus, ?_⟩
            cases qt : t σ5 A5 with
            | none => rw [qt] at h2; exact h2.elim
            | some r =>
              cases r with
              | ex _ _ => rw [qt] at h2; exact h2.elim
              | ok b A6 =>
                rw [qt] at h2
                refine ⟨ρ5, A5, σ5, R5, S5, ?_⟩
                rw [qt]
                intro ρ6 H6 R6 s6
                have s26 := (s4.trans s5).trans s6
                have s36 : St' ρ2 (upd Hb p0 (.lst av)) ρ6 H6 := s26
                cases b with
                | false =>
                  dsimp only at h2 ⊢
                  rw [if_neg (by decide)]
                  obtain ⟨d1, d2, d3⟩ := St'.del (A2 := A6) hn hp2 s36
                  refine ⟨Z.del H6 p0, ρ6, A6, acc, av, by unfold Z.del; rw [if_pos rfl], ?_, d2, R6.del d1 d2, s2.trans d3, rav.to R2 d3, h2.to d3⟩
                  rw [upd_del]
                  funext b
                  unfold upd
                  split
                  · rename_i e; rw [e, d1]
                  · rfl
                | true =>
                  dsimp only at h2 ⊢
                  rw [if_pos rfl]
                  cases qe : fe σ5 A6 with
                  | none => rw [qe] at h2; exact h2.elim
                  | some r =>
                    cases r with
                    | ex _ _ => rw [qe] at h2; exact h2.elim
                    | ok z A7 =>
                      rw [qe] at h2
                      dsimp only at h2
                      refine ⟨ρ6, A6, σ5, R6, S5.to R5 s6, ?_⟩
                      rw [qe]
                      intro ρ7 H7 R7 s7 w rw7
                      have s37 := s36.trans s7
                      obtain ⟨d1, d2, d3⟩ := St'.del (A2 := A7) hn hp2 s37
                      split at h2
                      · rename_i hz
                        have hl := rav.length
                        have := SZ_le
                        refine ⟨av, d1, by omega, Z.del H7 p0, ρ7, A7, acc ++ [z], av ++ [w], by unfold Z.del; rw [if_pos rfl], ?_, d2, R7.del d1 d2, s2.trans d3, (rav.to R2 d3).append (.cons (rw7.del d1) .nil), h2.to d3⟩
                        rw [upd_del]
                      · exact h2.elim
theorem z_comp (hc : X.calm = true) (hN : X.N.Nodup) (hi : PI X tg iter (tI c W wk u)) (ok : BlkOk X.N X.env.scope scope own)
    (hg : ∀ (s : Shared) (H : Hp) (C : Addr) (cl : List (Str × Addr)) (fp : List Addr), PG (X.blk s H scope (compEnvC scope cl C X.env) fp) tg (tG c wk us g)) (ht : ∀ (s : Shared) (H : Hp) (C : Addr) (cl : List (Str × Addr)) (fp : List Addr), PTs (X.blk s H scope (compEnvC scope cl C X.env) fp) ifs (tT c WN t))
    (he : ∀ (s : Shared) (H : Hp) (C : Addr) (cl : List (Str × Addr)) (fp : List Addr), PE (X.blk s H scope (compEnvC scope cl C X.env) fp) elt (tE c WN fe)) (hus : ∀ i ∈ us, i ∈ own.map (·.2)) (hs : ∀ x, foldedSetIterable iter X.env x = pure x := by intro _; rfl) :
    PE X (.ListComp elt [⟨tg, iter, ifs, 0⟩] scope pos) (tN c W (zcomp (own.map (·.2)) g u t fe)) :=
  (pe_lc hc hN hi ok hg ht he hs).zm fun σ H Q h => comp_read hus h
end
end Z

noncomputable section
set_option maxHeartbeats 2000000
namespace Z
open PySem PySem.Spec PyProof.Rows L2

/-- a block's result leads on -/
def LdS (c : Cn) (ρ : List Addr) (H : Hp) (D : Ends) (W : WX) (r : Option RS) : Prop :=
  match r with
  | none => False
  | some (.nx σd A) => ∀ ρ' H' σ', Rel c ρ' A H' → St' ρ H ρ' H' → Rsl c ρ' H' σd σ' → D.nx σ' H'
  | some (.bk σd A) => ∀ ρ' H' σ', Rel c ρ' A H' → St' ρ H ρ' H' → Rsl c ρ' H' σd σ' → D.bk σ' H'
  | some (.ct σd A) => ∀ ρ' H' σ', Rel c ρ' A H' → St' ρ H ρ' H' → Rsl c ρ' H' σd σ' → D.ct σ' H'
  | some (.rt d A) => ∀ ρ' H' v, Rel c ρ' A H' → St' ρ H ρ' H' → Rv c ρ' H' d v → D.rt v H'
  | some (.ex x σd A) => ∀ ρ' H' σ', Rel c ρ' A H' → St' ρ H ρ' H' → Rsl c ρ' H' σd σ' → ∀ cls d, IsX c x cls d → W cls d σ' H'
def tS (c : Cn) (W : WX) (f : Sv) : L2.TS := fun D σ H => ∃ ρ A σd, Rel c ρ A H ∧ Rsl c ρ H σd σ ∧ LdS c ρ H D W (f σd A)
section
variable {c : Cn} {ρ ρ' ρ1 : List Addr} {A : Hh} {H H' H1 : Hp} {σd : Sl} {σ : L2.St} {W : WX} {D D' : Ends}
theorem LdS.to {r : Option RS} (h : LdS c ρ H D W r) (s : St' ρ H ρ' H') : LdS c ρ' H' D W r := by
  revert h
  cases r with
  | none => exact fun h => h
  | some r => cases r with
    | nx σd A => exact fun h ρ2 H2 σ2 R2 s2 => h ρ2 H2 σ2 R2 (s.trans s2)
    | bk σd A => exact fun h ρ2 H2 σ2 R2 s2 => h ρ2 H2 σ2 R2 (s.trans s2)
    | ct σd A => exact fun h ρ2 H2 σ2 R2 s2 => h ρ2 H2 σ2 R2 (s.trans s2)
    | rt d A => exact fun h ρ2 H2 v R2 s2 => h ρ2 H2 v R2 (s.trans s2)
    | ex x σd A => exact fun h ρ2 H2 σ2 R2 s2 => h ρ2 H2 σ2 R2 (s.trans s2)
theorem LdS.of {α : Type} {m : Option (R α)} {f : α → Hh → Option RS} (R0 : Rel c ρ A H) (S : Rsl c ρ H σd σ) (h : LdS c ρ H D W (RS.of σd m f)) : Ld c ρ H σ W m fun a ρ1 A1 H1 => LdS c ρ1 H1 D W (f a A1) := by
  revert h
  cases m with
  | none => exact fun h => h
  | some r => cases r with
    | ok a A1 => exact fun h ρ1 H1 R1 s1 => LdS.to h s1
    | ex x A1 => exact fun h ρ1 H1 R1 s1 => h ρ1 H1 σ R1 s1 (S.to R0 s1)
/-- what comes behind -/
theorem LdS.seq {r : Option RS} {t : Sv} (h : LdS c ρ H D W (RS.andThen r t)) : LdS c ρ H { D with nx := tS c W t D } W r := by
  revert h
  cases r with
  | none => exact fun h => h
  | some r => cases r with
    | nx σd A => exact fun h ρ1 H1 σ1 R1 s1 S1 => ⟨ρ1, A, σd, R1, S1, LdS.to h s1⟩
    | bk σd A => exact fun h => h
    | ct σd A => exact fun h => h
    | rt d A => exact fun h => h
    | ex x σd A => exact fun h => h
end
theorem _root_.L2.PS.zm {X : Cx} {e : Stmt} {t t' : L2.TS} (p : PS X e t') (h : ∀ D σ H, t D σ H → t' D σ H) : PS X e t := ⟨fun pins s σ H D I w => p.run pins s σ H D I (h D σ H w)⟩
theorem _root_.L2.PSs.zm {X : Cx} {e : List Stmt} {t t' : L2.TS} (p : PSs X e t') (h : ∀ D σ H, t D σ H → t' D σ H) : PSs X e t := ⟨fun pins s σ H D I w => p.run pins s σ H D I (h D σ H w)⟩
section
variable {X : Cx} {c : Cn} {W : WX} {a b e tg iter cond : Expr} {st : Stmt} {body rest ba bb : List Stmt} {fe fo fi : Ev D} {g : Gv} {ft : Ev Bool} {s t : Sv} {wk : Bool} {vs us : List Nat} {u : Ev (List D × Wt)} {pos pos' p apos : Pos} {q : Ev (List D)}
theorem s_nil : PSs X [] (tS c W snil) := pss_nil.zm fun D σ H ⟨ρ, A, σd, R, S, h⟩ => h ρ H σ R .refl S
theorem s_cons (h1 : PS X st (tS c W s)) (h2 : PSs X rest (tS c W t)) : PSs X (st :: rest) (tS c W (sseq s t)) :=
  (pss_cons h1 h2).zm fun D σ H ⟨ρ, A, σd, R, S, h⟩ => ⟨ρ, A, σd, R, S, LdS.seq h⟩
theorem s_pass : PS X (.Pass pos) (tS c W spass) := ps_pass.zm fun D σ H ⟨ρ, A, σd, R, S, h⟩ => h ρ H σ R .refl S
theorem s_brk : PS X (.Break pos) (tS c W sbrk) := ps_break.zm fun D σ H ⟨ρ, A, σd, R, S, h⟩ => h ρ H σ R .refl S
theorem s_cnt : PS X (.Continue pos) (tS c W scnt) := ps_continue.zm fun D σ H ⟨ρ, A, σd, R, S, h⟩ => h ρ H σ R .refl S
theorem s_bad : PS X st (tS c W sbad) := ps_never.zm fun D σ H ⟨ρ, A, σd, R, S, h⟩ => h
theorem s_doc {x : Str} {j : Nat} : PS X (.Expr (.Constant (.str x) j pos) pos') (tS c W spass) := ps_doc.zm fun D σ H ⟨ρ, A, σd, R, S, h⟩ => h ρ H σ R .refl S
theorem s_exp (he : PE X e (tE c W fe)) (hs : swapsWith e none pos.line X.env = pure false := by rfl) : PS X (.Expr e pos) (tS c W (sexp fe)) :=
  (ps_expr he hs).zm fun D σ H ⟨ρ, A, σd, R, S, h⟩ => ⟨ρ, A, σd, R, S, (LdS.of R S h).imp fun d ρ1 A1 H1 R1 s1 h1 v _ => h1 ρ1 H1 σ R1 .refl (S.to R s1)⟩
theorem s_ret (he : PE X e (tE c W fe)) : PS X (.Return (some e) pos) (tS c W (sret fe)) :=
  (ps_ret he).zm fun D σ H ⟨ρ, A, σd, R, S, h⟩ => ⟨ρ, A, σd, R, S, (LdS.of R S h).imp fun d ρ1 A1 H1 R1 s1 h1 v rv => h1 ρ1 H1 v R1 .refl rv⟩
theorem s_retN : PS X (.Return none pos) (tS c W (sret (zc .non))) :=
  ps_retN.zm fun D σ H ⟨ρ, A, σd, R, S, h⟩ => h ρ H .non R .refl .non
theorem s_if (hc : PT X cond (tT c W ft)) (ha : PSs X ba (tS c W s)) (hb : PSs X bb (tS c W t)) : PS X (.If cond ba bb pos) (tS c W (sif ft s t)) :=
  (ps_if hc ha hb).zm fun D σ H ⟨ρ, A, σd, R, S, h⟩ => ⟨ρ, A, σd, R, S, (LdS.of R S h).imp fun k ρ1 A1 H1 R1 s1 h1 => by
    cases k with
    | true => rw [if_pos rfl] at h1 ⊢; exact ⟨ρ1, A1, σd, R1, S.to R s1, h1⟩
    | false => rw [if_neg (by decide)] at h1 ⊢; exact ⟨ρ1, A1, σd, R1, S.to R s1, h1⟩⟩
theorem asg_ok {D : Ends} {σ : L2.St} {H : Hp} {ρ : List Addr} {A : Hh} {σd : Sl} (R : Rel c ρ A H) (S : Rsl c ρ H σd σ) (h : LdS c ρ H D W (sasg g fe σd A)) : tE c W fe σ H fun v H1 => tG c false vs g v σ H1 D.nx :=
  ⟨ρ, A, σd, R, S, (LdS.of R S h).imp fun d ρ1 A1 H1 R1 s1 h1 v rv => ⟨d, ρ1, A1, σd, R1, S.to R s1, by simpa using rv, by
    cases qg : g d σd A1 with
    | none => rw [qg] at h1; exact h1.elim
    | some r => cases r with
      | ex _ _ => rw [qg] at h1; exact h1.elim
      | ok σ2 A2 =>
        rw [qg] at h1
        exact fun ρ2 H2 R2 s2 σ2' S2 _ => h1 ρ2 H2 σ2' R2 s2 S2⟩⟩
theorem s_asg (he : PE X e (tE c W fe)) (hg : PG X tg (tG c false vs g)) (hs : swapsWithSole [tg] e pos.line X.env = pure false := by rfl) (hw : swappedStores [tg] e X.env = pure none := by rfl)
    (h1 : (assignEach [tg] X.env).map (·.2) = [assign tg X.env] := by rfl) : PS X (.Assign [tg] e pos) (tS c W (sasg g fe)) :=
  (ps_asg he hg hs hw h1).zm fun D σ H ⟨ρ, A, σd, R, S, h⟩ => asg_ok R S h
theorem s_set {x : Str} (i : Nat) (hN : X.N.Nodup) (hi : X.N[i]? = some x) (hx : Loc X.env.scope x) (he : PE X e (tE c W fe)) (hf : X.fn x = true ∨ X.env.scope.names.lookup x = some .local) (hs : swapsWith e (some (.Name x pos')) pos.line X.env = pure false := by rfl) :
    PS X (.Assign [.Name x pos'] e pos) (tS c W (sasg (gnm i) fe)) :=
  (ps_set hN hi hx he hs hf).zm fun D σ H ⟨ρ, A, σd, R, S, h⟩ => ⟨ρ, A, σd, R, S, (LdS.of R S h).imp fun d ρ1 A1 H1 R1 s1 h1 v rv => h1 ρ1 H1 _ R1 .refl ((S.to R s1).set rv i)⟩
/-- a comprehension's list, by a name -/
theorem s_setLc {elt : Expr} {ifs : List Expr} {scope : Scope} {own : List (Str × Nat)} {spos : Pos} {y : Str} {ftt : Ev Bool} (i : Nat) (hc : X.calm = true) (hN : X.N.Nodup) (hy : X.N[i]? = some y) (hyl : X.env.scope.names.lookup y = some .local)
    (hsw : swapsWith (.ListComp elt [⟨tg, iter, ifs, 0⟩] scope pos) (some (.Name y p)) spos.line X.env = pure true) (hi : PI X tg iter (tI c W wk u)) (ok : BlkOk X.N X.env.scope scope own)
    (hg : ∀ (s : Shared) (H : Hp) (C : Addr) (cl : List (Str × Addr)) (fp : List Addr), PG (X.blk s H scope (compEnvC scope cl C X.env) fp) tg (tG c wk us g)) (ht : ∀ (s : Shared) (H : Hp) (C : Addr) (cl : List (Str × Addr)) (fp : List Addr), PTs (X.blk s H scope (compEnvC scope cl C X.env) fp) ifs (tT c WN ftt))
    (he : ∀ (s : Shared) (H : Hp) (C : Addr) (cl : List (Str × Addr)) (fp : List Addr), PE (X.blk s H scope (compEnvC scope cl C X.env) fp) elt (tE c WN fe)) (hus : ∀ i ∈ us, i ∈ own.map (·.2)) (hs : ∀ x, foldedSetIterable iter X.env x = pure x := by intro _; rfl) :
    PS X (.Assign [.Name y p] (.ListComp elt [⟨tg, iter, ifs, 0⟩] scope pos) spos) (tS c W (sasg (gnm i) (znew (zcomp (own.map (·.2)) g u ftt fe)))) :=
  (ps_setLc hc hN hy hyl hsw hi ok hg ht he hs).zm fun D σ H ⟨ρ, A, σd, R, S, h⟩ => by
    refine comp_read hus ⟨ρ, A, σd, R, S, ?_⟩
    have h1 := LdS.of R S h
    refine (Ld.bind h1).imp fun xs ρ1 A1 H1 R1 s1 h2 a vs n rvs => ?_
    obtain ⟨R2, s2⟩ := R1.made (o := .lst xs) n ⟨vs, rfl, rvs⟩
    have h3 := h2 _ _ R2 s2
    refine h3 _ _ _ R2 .refl (((S.to R s1).to R1 s2).set (.ref ?_) i)
    rw [← R1.len, List.getElem?_append_right (Nat.le_refl _), Nat.sub_self]
    rfl
/-- a, b = c, d -/
theorem s_par {x y : Str} {px py pt pt2 : Pos} {kt k2} (i j : Nat) (hc : X.calm = true) (hN : X.N.Nodup) (hi : X.N[i]? = some x) (hj : X.N[j]? = some y) (hij : i ≠ j)
    (hx : X.env.scope.names.lookup x = some .local) (hy : X.env.scope.names.lookup y = some .local) (ha : PA X [a, b] (tA c W q))
    (hw : swappedStores [.Tuple [.Name x px, .Name y py] kt pt] (.Tuple [a, b] k2 pt2) X.env = pure (some [x, y]) := by rfl)
    (hs : swapsWithSole [.Tuple [.Name x px, .Name y py] kt pt] (.Tuple [a, b] k2 pt2) pos.line X.env = pure false := by rfl) :
    PS X (.Assign [.Tuple [.Name x px, .Name y py] kt pt] (.Tuple [a, b] k2 pt2) pos) (tS c W (spar i j q)) :=
  (ps_par hc hN hi hj hij hx hy ha hw hs).zm fun D σ H ⟨ρ, A, σd, R, S, h⟩ => ⟨ρ, A, σd, R, S, (LdS.of R S h).imp fun ds ρ1 A1 H1 R1 s1 h1 vs rvs => by
    cases rvs with
    | nil => exact h1.elim
    | cons r rs => cases rs with
      | nil => exact h1.elim
      | cons r2 rs2 => cases rs2 with
        | cons _ _ => exact h1.elim
        | nil => exact ⟨_, _, rfl, h1 ρ1 H1 _ R1 .refl (((S.to R s1).set r i).set r2 j)⟩⟩
theorem body_end {c : Cn} {ρ : List Addr} {H : Hp} {D : Ends} {W : WX} {r : Option RS} {k : Sl → Hh → Option RS} {N : L2.St → Hp → Prop}
    (h : LdS c ρ H D W (match r with
      | some (.nx σ3 A3) => k σ3 A3
      | some (.ct σ3 A3) => k σ3 A3
      | some (.bk σ3 A3) => some (.nx σ3 A3)
      | r => r))
    (hN : ∀ σ3 A3 ρ' H' σ', LdS c ρ H D W (k σ3 A3) → Rel c ρ' A3 H' → St' ρ H ρ' H' → Rsl c ρ' H' σ3 σ' → N σ' H') : LdS c ρ H { D with nx := N, ct := N, bk := D.nx } W r := by
  revert h
  cases r with
  | none => exact fun h => h
  | some r => cases r with
    | nx σd A => exact fun h ρ1 H1 σ1 R1 s1 S1 => hN _ _ _ _ _ h R1 s1 S1
    | bk σd A => exact fun h => h
    | ct σd A => exact fun h ρ1 H1 σ1 R1 s1 S1 => hN _ _ _ _ _ h R1 s1 S1
    | rt d A => exact fun h => h
    | ex x σd A => exact fun h => h
theorem s_for (hp : PassesOwn (model X.prog X.w) X.A X.env X.xe) (hc : X.calm = true) (hi : PI X tg iter (tI c W wk u)) (hg : PG X tg (tG c wk vs g)) (hb : PSs X body (tS c W s))
    (hs : ∀ x, foldedSetIterable iter X.env x = pure x := by intro _; rfl) : PS X (.For tg iter body [] pos) (tS c W (sfor g u s)) :=
  (ps_for hp hc hi hg hb hs).zm fun D σ H ⟨ρ, A, σd, R, S, h⟩ => ⟨ρ, A, σd, R, S, (LdS.of R S h).imp fun p ρ1 A1 H1 R1 s1 h1 J wJ => by
    refine ⟨fun i m σ H => m = p.1.length - i ∧ i ≤ p.1.length ∧ ∃ ρ A σd, Rel c ρ A H ∧ St' ρ1 H1 ρ H ∧ Rsl c ρ H σd σ ∧ LdS c ρ H D W (forL p.2 g s (p.1.drop i) σd A), ?_, ?_⟩
    · exact ⟨_, rfl, Nat.zero_le _, ρ1, A1, σd, R1, .refl, S.to R s1, h1⟩
    · rintro i m σ2 H2 ⟨em, hi, ρ2, A2, σd2, R2, s2, S2, h2⟩
      have hw : wOk p.2 A2 = true := by
        cases q : wOk p.2 A2 with
        | true => rfl
        | false => cases q2 : p.1.drop i with
          | nil => rw [q2] at h2; simp only [forL, q] at h2; exact h2.elim
          | cons x xs => rw [q2] at h2; simp only [forL, q] at h2; exact h2.elim
      obtain ⟨wg, ws⟩ := wJ ρ2 A2 H2 R2 s2 hw
      cases q : p.1.drop i with
      | nil =>
        have e : i = p.1.length := by
          have := congrArg List.length q
          rw [List.length_drop, List.length_nil] at this
          omega
        rw [q] at h2
        simp only [forL, hw, if_true] at h2
        exact .inl ⟨by rw [e]; exact ws, h2 ρ2 H2 σ2 R2 .refl S2⟩
      | cons x xs =>
        have hlt : i < p.1.length := by
          have := congrArg List.length q
          rw [List.length_drop, List.length_cons] at this
          omega
        have hx : p.1[i]? = some x := by
          have := List.getElem?_drop (xs := p.1) (i := i) (j := 0)
          rw [q] at this
          simpa using this.symm
        have hxs : p.1.drop (i + 1) = xs := by
          rw [← List.drop_drop, q]
          rfl
        rw [q] at h2
        simp only [forL, hw, if_true] at h2
        obtain ⟨g1, g2⟩ := wg i x hx
        refine .inr ⟨g1, fun σ' H' => ∃ ρ A σd, Rel c ρ A H' ∧ St' ρ1 H1 ρ H' ∧ Rsl c ρ H' σd σ' ∧ LdS c ρ H' D W (forL p.2 g s xs σd A), ?_, ?_⟩
        · rintro σ' H' ⟨ρ', A', σd', k1, k2, k3, k4⟩
          exact ⟨p.1.length - (i + 1), by omega, rfl, hlt, ρ', A', σd', k1, k2, k3, by rw [hxs]; exact k4⟩
        · intro y H3 hy
          obtain ⟨R3, s3, ry⟩ := g2 y H3 hy
          refine ⟨x, ρ2, A2, σd2, R3, S2.to R2 s3, ry, ?_⟩
          cases qg : g x σd2 A2 with
          | none => rw [qg] at h2; exact h2.elim
          | some r => cases r with
            | ex _ _ => rw [qg] at h2; exact h2.elim
            | ok σ4 A4 =>
              rw [qg] at h2
              dsimp only at h2
              intro ρ4 H4 R4 s4 σ4' S4 _
              have s24 := s3.trans s4
              refine ⟨ρ4, A4, σ4, R4, S4, body_end (h2.to s24) fun σ5 A5 ρ5 H5 σ5' h5 R5 s5 S5 => ?_⟩
              exact ⟨ρ5, A5, σ5, R5, (s2.trans s24).trans s5, S5, h5.to s5⟩⟩
theorem s_while (hp : PassesOwn (model X.prog X.w) X.A X.env X.xe) (hc : PT X cond (tT c W ft)) (hb : PSs X body (tS c W s)) : PS X (.While cond body [] pos) (tS c W (swhile ft s)) :=
  (ps_while hp hc hb).zm fun D σ H ⟨ρ, A, σd, R, S, h⟩ => by
    unfold swhile at h
    split at h
    · rename_i hx
      generalize hx.choose = n at h
      refine ⟨fun m σ H => ∃ ρ A σd, Rel c ρ A H ∧ Rsl c ρ H σd σ ∧ LdS c ρ H D W (whileN ft s m σd A), ⟨n, ρ, A, σd, R, S, h⟩, ?_⟩
      rintro m σ1 H1 ⟨ρ1, A1, σd1, R1, S1, h1⟩
      cases m with
      | zero => exact h1.elim
      | succ m =>
        refine ⟨ρ1, A1, σd1, R1, S1, (LdS.of R1 S1 h1).imp fun k ρ2 A2 H2 R2 s2 h2 => ?_⟩
        have S2 := S1.to R1 s2
        cases k with
        | false =>
          rw [if_neg (by decide)] at h2
          show if false = true then _ else _
          rw [if_neg (by decide)]
          exact h2 ρ2 H2 σ1 R2 .refl S2
        | true =>
          rw [if_pos rfl] at h2
          show if true = true then _ else _
          rw [if_pos rfl]
          refine ⟨fun σ' H' => ∃ ρ A σd, Rel c ρ A H' ∧ Rsl c ρ H' σd σ' ∧ LdS c ρ H' D W (whileN ft s m σd A), fun σ' H' k => ⟨m, Nat.lt_succ_self _, k⟩, ρ2, A2, σd1, R2, S2, body_end h2 fun σ5 A5 ρ5 H5 σ5' h5 R5 s5 S5 => ?_⟩
          exact ⟨ρ5, A5, σ5, R5, S5, h5.to s5⟩
    · exact h.elim
end
end Z

noncomputable section
set_option maxHeartbeats 2000000
namespace Z
open PySem PySem.Spec PyProof.Rows L2

/-- what a def promises, by its meaning -/
def spF (c : Cn) (m : List D → M D) : Sp := fun vs H Q E => ∃ ρ A ds, Rel c ρ A H ∧ Rvs c ρ H ds vs ∧ Ld c ρ H [] (fun cls d _ H' => E cls d H') (m ds A) fun d ρ' _ H' => ∀ v, Rv c ρ' H' d v → Q v H'
section
variable {c : Cn} {ρ ρ' : List Addr} {A : Hh} {H H' : Hp}
theorem Ld.wsl {α : Type} {σ σ2 : L2.St} {W W2 : WX} {r : Option (R α)} {P : α → List Addr → Hh → Hp → Prop} (h : Ld c ρ H σ W r P) (hw : ∀ cls d H', W cls d σ H' → W2 cls d σ2 H') : Ld c ρ H σ2 W2 r P := by
  revert h
  cases r with
  | none => exact fun h => h
  | some r =>
    cases r with
    | ok a A1 => exact fun h => h
    | ex x A1 => exact fun h ρ' H' R' s' cls d hx => hw _ _ _ (h ρ' H' R' s' cls d hx)
section
variable {X : Cx} {W : WX} {x : Str} {f : Addr} {fd : FuncData} {ps : List Str} {k i : Nat} {o : Orc} {e : Expr} {es : List Expr} {fs : Ev (List D)} {p pos : Pos}
theorem z_call (F : FnOk X.prog X.w X.K X.mg X.base (L2.CX X.prog X.w) k f fd ps (spF c (o.call i))) (tk : Takes X W) (hr : Room k X.A) (hg : Gl X x) (hm : X.mg x = some (.ref f)) (hk : PySem.W.keepIn X.K (.ref f) = true) (hb : Binds X.K fd ps [])
    (ha : PA X (e :: es) (tA c W fs)) (hdb : (x == ("__debug__" : Str)) = false := by decide) (he : starEach (e :: es) X.env = (false, eval e X.env) :: starEach es X.env := by rfl) (hpl : (backTo pos (starEach es X.env)).any (·.1) = false := by rfl) :
    PE X (.Call (.Name x p) (e :: es) [] pos) (tE c W (zcall o i fs)) :=
  (pe_callS F hr hg hm hk hb (fun σ => passAt tk σ) ha hdb he hpl).zm fun σ H Q ⟨ρ, A, σd, R, S, h⟩ => show tA c W fs σ H _ from oneA R S h fun ds vs ρ1 A1 H1 R1 s1 S1 rvs h1 =>
    ⟨ρ1, A1, ds, R1, rvs, h1.wsl fun _ _ _ h => h⟩
end

mutual
theorem Rv.lo : ∀ {d : D} {v : V}, Rv c ρ H d v → D.lo ρ.length d = true
  | _, _, .non => rfl
  | _, _, .bl b => rfl
  | _, _, .int i => rfl
  | _, _, .str x => rfl
  | _, _, .tup h t => Rvs.los t
  | _, _, .lst h t => Rvs.los t
  | _, _, .ref h => decide_eq_true (List.getElem?_eq_some_iff.mp h).1
  | _, _, .exc _ _ => rfl
  | _, _, .emp _ _ => rfl
theorem Rvs.los : ∀ {ds : List D} {vs : List V}, Rvs c ρ H ds vs → D.los ρ.length ds = true
  | _, _, .nil => rfl
  | _, _, .cons r t => by
    show (D.lo _ _ && D.los _ _) = true
    rw [Rv.lo r, Rvs.los t]
    rfl
end
mutual
theorem Rv.down (hp : ρ <+: ρ') : ∀ {d : D} {v : V}, Rv c ρ' H d v → D.lo ρ.length d = true → Rv c ρ H d v
  | _, _, .non, _ => .non
  | _, _, .bl b, _ => .bl b
  | _, _, .int i, _ => .int i
  | _, _, .str x, _ => .str x
  | _, _, .tup h t, l => .tup h (Rvs.down hp t l)
  | _, _, .lst h t, l => .lst h (Rvs.down hp t l)
  | .ref n, _, .ref h, l => .ref (by
    have l' : n < ρ.length := of_decide_eq_true l
    obtain ⟨t, rfl⟩ := hp
    rw [List.getElem?_append_left l'] at h
    exact h)
  | _, _, .exc h e, _ => .exc h e
  | _, _, .emp h e, _ => .emp h e
theorem Rvs.down (hp : ρ <+: ρ') : ∀ {ds : List D} {vs : List V}, Rvs c ρ' H ds vs → D.los ρ.length ds = true → Rvs c ρ H ds vs
  | _, _, .nil, _ => .nil
  | _, _, .cons r t, l => by
    have l' : (D.lo _ _ && D.los _ _) = true := l
    rw [Bool.and_eq_true] at l'
    exact .cons (Rv.down hp r l'.1) (Rvs.down hp t l'.2)
end
theorem Rfs.lo : ∀ {fs : List (Str × D)} {gs : List (Str × V)}, Rfs c ρ H fs gs → D.los ρ.length (fs.map (·.2)) = true
  | _, _, .nil => rfl
  | _, _, .cons r t => by
    show (D.lo _ _ && D.los _ _) = true
    rw [r.lo, Rfs.lo t]
    rfl
theorem Rfs.down (hp : ρ <+: ρ') : ∀ {fs : List (Str × D)} {gs : List (Str × V)}, Rfs c ρ' H fs gs → D.los ρ.length (fs.map (·.2)) = true → Rfs c ρ H fs gs
  | _, _, .nil, _ => .nil
  | _, _, .cons r t, l => by
    have l' : (D.lo _ _ && D.los _ _) = true := l
    rw [Bool.and_eq_true] at l'
    exact .cons (r.down hp l'.1) (Rfs.down hp t l'.2)
theorem Rkv.lo : ∀ {fs : List (List Int × D)} {gs : List (List Int × Addr × V)}, Rkv c ρ H fs gs → D.los ρ.length (fs.map fun p => .tup (p.1.map .int)) = true ∧ D.los ρ.length (fs.map (·.2)) = true
  | _, _, .nil => ⟨rfl, rfl⟩
  | _, _, .cons r r2 t => by
    refine ⟨?_, ?_⟩
    · show (D.lo _ _ && D.los _ _) = true
      rw [r.lo, (Rkv.lo t).1]
      rfl
    · show (D.lo _ _ && D.los _ _) = true
      rw [r2.lo, (Rkv.lo t).2]
      rfl
theorem Rkv.down (hp : ρ <+: ρ') : ∀ {fs : List (List Int × D)} {gs : List (List Int × Addr × V)}, Rkv c ρ' H fs gs → D.los ρ.length (fs.map fun p => .tup (p.1.map .int)) = true → D.los ρ.length (fs.map (·.2)) = true → Rkv c ρ H fs gs
  | _, _, .nil, _, _ => .nil
  | _, _, .cons r r2 t, l, m => by
    have l' : (D.lo _ _ && D.los _ _) = true := l
    have m' : (D.lo _ _ && D.los _ _) = true := m
    rw [Bool.and_eq_true] at l' m'
    exact .cons (r.down hp l'.1) (r2.down hp m'.1) (Rkv.down hp t l'.2 m'.2)
theorem Rck.lo : ∀ {fs : List (Key × D)} {gs : List (Key × V)}, Rck c ρ H fs gs → D.los ρ.length (fs.map (·.2)) = true
  | _, _, .nil => rfl
  | _, _, .cons r t => by
    show (D.lo _ _ && D.los _ _) = true
    rw [r.lo, Rck.lo t]
    rfl
theorem Rck.down (hp : ρ <+: ρ') : ∀ {fs : List (Key × D)} {gs : List (Key × V)}, Rck c ρ' H fs gs → D.los ρ.length (fs.map (·.2)) = true → Rck c ρ H fs gs
  | _, _, .nil, _ => .nil
  | _, _, .cons r t, l => by
    have l' : (D.lo _ _ && D.los _ _) = true := l
    rw [Bool.and_eq_true] at l'
    exact .cons (r.down hp l'.1) (Rck.down hp t l'.2)
theorem Ro.lo {a : Addr} : ∀ {o : O} {ho : HO}, Ro c ρ H a o ho → O.lo ρ.length o = true
  | .lst _, _, ⟨_, _, r⟩ => r.los
  | .ins _ _, _, ⟨_, _, _, r⟩ => r.lo
  | .dct _, _, ⟨_, _, r⟩ => by
    show (D.los _ _ && D.los _ _) = true
    rw [r.lo.1, r.lo.2]
    rfl
  | .dck _, _, ⟨_, _, r⟩ => r.lo
theorem Ro.down (hp : ρ <+: ρ') {a : Addr} : ∀ {o : O} {ho : HO}, Ro c ρ' H a o ho → O.lo ρ.length o = true → Ro c ρ H a o ho
  | .lst _, _, ⟨vs, e, r⟩, l => ⟨vs, e, r.down hp l⟩
  | .ins _ _, _, ⟨dx, gs, e, r⟩, l => ⟨dx, gs, e, r.down hp l⟩
  | .dct _, _, ⟨ks, e, r⟩, l => by
    have l' : (D.los _ _ && D.los _ _) = true := l
    rw [Bool.and_eq_true] at l'
    exact ⟨ks, e, r.down hp l'.1 l'.2⟩
  | .dck _, _, ⟨ks, e, r⟩, l => ⟨ks, e, r.down hp l⟩
theorem gc_ok {d : D} {A' : Hh} (R : Rel c ρ A H) (R' : Rel c ρ' A' H') (s : St' ρ H ρ' H') : ∃ ρ2, Rel c ρ2 (gc A A' d) H' ∧ St' ρ H ρ2 H' ∧ ∀ v, Rv c ρ' H' d v → Rv c ρ2 H' d v := by
  unfold gc
  split
  · rename_i g
    unfold gcOk at g
    rw [Bool.and_eq_true, Bool.and_eq_true] at g
    obtain ⟨⟨g1, g2⟩, g3⟩ := g
    have g2 := of_decide_eq_true g2
    refine ⟨ρ, ⟨?_, R.nd, fun k o a h1 h2 => ?_⟩, ⟨List.prefix_refl _, fun b h n => absurd h n, s.fr⟩, fun v r => r.down s.pre (by rw [R.len]; exact g1)⟩
    · rw [List.length_take, R.len]
      omega
    · have hk : k < A.length := by rw [← R.len]; exact (List.getElem?_eq_some_iff.mp h2).1
      rw [List.getElem?_take, if_pos hk] at h1
      have h2' : ρ'[k]? = some a := by
        obtain ⟨t, rfl⟩ := s.pre
        rw [List.getElem?_append_left (by rw [R.len]; exact hk)]
        exact h2
      obtain ⟨ho, h3, h4⟩ := R'.obj k o a h1 h2'
      refine ⟨ho, h3, h4.down s.pre ?_⟩
      have g4 := List.all_eq_true.mp g3 k (List.mem_range.mpr hk)
      rw [List.getElem?_eq_getElem hk, h1] at g4
      dsimp only at g4
      rw [Bool.or_eq_true] at g4
      rw [R.len]
      rcases g4 with g4 | g4
      · have e := of_decide_eq_true g4
        obtain ⟨ho2, _, h5⟩ := R.obj k _ a (List.getElem?_eq_getElem hk) h2
        rw [← R.len, ← e]
        exact h5.lo
      · exact g4
  · exact ⟨ρ', R', s, fun v r => r⟩
/-- a block, run from the start of a call -/
theorem end_ok {Q : VK} {E : XK} {r : Option RS} (R0 : Rel c ρ A H) (h : Ld c ρ H [] (fun cls d _ H' => E cls d H') (endD A r) fun d ρ' _ H' => ∀ v, Rv c ρ' H' d v → Q v H') :
    LdS c ρ H { nx := fun _ H' => Q .non H', rt := Q } (fun cls d _ H' => E cls d H') r := by
  revert h
  cases r with
  | none => exact fun h => h.elim
  | some r => cases r with
    | nx σd A1 =>
      intro h ρ1 H1 σ1 R1 s1 _
      obtain ⟨ρ2, R2, s2, k⟩ := gc_ok (d := .non) R0 R1 s1
      exact h ρ2 H1 R2 s2 .non .non
    | bk σd A1 => exact fun h => h.elim
    | ct σd A1 => exact fun h => h.elim
    | rt d A1 =>
      intro h ρ1 H1 v R1 s1 rv
      obtain ⟨ρ2, R2, s2, k⟩ := gc_ok (d := d) R0 R1 s1
      exact h ρ2 H1 R2 s2 v (k v rv)
    | ex x σd A1 =>
      intro h ρ1 H1 σ1 R1 s1 _ cls d hx
      obtain ⟨ρ2, R2, s2, _⟩ := gc_ok (d := .non) R0 R1 s1
      exact h ρ2 H1 R2 s2 cls d hx
theorem start_ok {N : List Str} {ds : List D} {vs : List V} (r : Rvs c ρ H ds vs) (hl : vs.length ≤ N.length) : Rsl c ρ H (startD N.length ds) (L2.start N vs) := by
  refine ⟨?_, fun i d h => ?_⟩
  · unfold startD L2.start
    have := r.length
    simp only [List.length_append, List.length_map, List.length_replicate]
    omega
  · unfold startD at h
    unfold L2.start
    by_cases hi : i < ds.length
    · rw [List.getElem?_append_left (by simpa using hi), List.getElem?_map] at h
      obtain ⟨e, h1, h2⟩ := Option.map_eq_some_iff.mp h
      cases h2
      obtain ⟨v, h3, h4⟩ := r.get h1
      refine ⟨v, ?_, h4⟩
      have hi2 : i < vs.length := by rw [← r.length]; exact hi
      rw [List.getElem?_append_left (by simpa using hi2), List.getElem?_map, h3]
      rfl
    · rw [List.getElem?_append_right (by simpa using hi)] at h
      rw [List.getElem?_replicate] at h
      split at h
      · cases h
      · cases h
end
/-- a def keeps its meaning -/
theorem fn_means {P : Program} {w : World} {K : PySem.W.Frag} {mg : Str → Option Value} {base : Heap} {x qual : Str} {params : Arguments} {body : List Stmt} {scope : Scope} {dvs : List V} {kws : List (Str × V)} {f : Addr} {fd : FuncData} {N ps : List Str} {c : Cn} {Pg : List Fn} {k i : Nat} {F : Fn}
    (Fd : FunD K x qual params body scope dvs kws f fd) (S : FnScope N ps scope) (hF : Pg[i]? = some F) (hn : F.n = N.length) (hp : F.np = ps.length) (hpn : ps.length ≤ N.length)
    (hbody : ∀ (cdv : Value) (A : Around) (outer : List Env) (s : Shared) (H : Hp) (E : XK), Room k (A.deeper (envOfC qual scope s.heap.objs.size f cdv)) →
      PSs (cxOf (L2.CX P w) P w K mg base N qual scope f cdv A outer s H E) body (tS c (fun cls d _ H' => E cls d H') (F.body ⟨callN Pg k⟩))) :
    FnOk P w K mg base (L2.CX P w) (k + 1) f fd ps (spF c (callN Pg (k + 1) i)) := by
  have key : ∀ ds A, callN Pg (k + 1) i ds A = if ds.length = F.np then endD A (F.body ⟨callN Pg k⟩ (startD F.n ds) A) else none := fun ds A => by
    simp only [callN, hF]
  refine Fd.ok S (fun vs H Q E ⟨ρ, A, ds, R, r, h⟩ => ?_) fun cdv A outer s H vs Q E hr ⟨ρ, A', ds, R, r, h⟩ => ?_
  · rw [key] at h
    split at h
    · rename_i e
      rw [← r.length, e, hp]
    · exact h.elim
  · rw [key] at h
    split at h
    · rename_i e
      refine ⟨_, hbody cdv A outer s H E hr, ρ, A', startD F.n ds, R, ?_, end_ok R h⟩
      rw [hn]
      exact start_ok r (by rw [← r.length, e, hp]; exact hpn)
    · exact h.elim
end Z

noncomputable section
set_option maxHeartbeats 2000000
namespace Z
open PySem PySem.Spec PyProof.Rows L2

/-- a callee, by its name -/
def Cal (P : Program) (w : World) (K : PySem.W.Frag) (mg : Str → Option Value) (base : Heap) (c : Cn) (Pg : List Fn) (k : Nat) (x : Str) (i : Nat) : Prop :=
  ∃ f fd ps, mg x = some (.ref f) ∧ PySem.W.keepIn K (.ref f) = true ∧ Binds K fd ps [] ∧ FnOk P w K mg base (L2.CX P w) k f fd ps (spF c (callN Pg k i))
section
variable {X : Cx} {c : Cn} {W : WX} {x : Str} {k i : Nat} {Pg : List Fn} {e : Expr} {es : List Expr} {fs : Ev (List D)} {p pos : Pos}
theorem z_cal (C : Cal X.prog X.w X.K X.mg X.base c Pg k x i) (tk : Takes X W) (hr : Room k X.A) (hg : Gl X x) (ha : PA X (e :: es) (tA c W fs))
    (hdb : (x == ("__debug__" : Str)) = false := by decide) (he : starEach (e :: es) X.env = (false, eval e X.env) :: starEach es X.env := by rfl) (hpl : (backTo pos (starEach es X.env)).any (·.1) = false := by rfl) :
    PE X (.Call (.Name x p) (e :: es) [] pos) (tE c W (zcall ⟨callN Pg k⟩ i fs)) := by
  obtain ⟨f, fd, ps, h1, h2, h3, h4⟩ := C
  exact z_call h4 tk hr hg h1 h2 h3 ha hdb he hpl
end
theorem room_u {k : Nat} {A : Around} (h : Room k A) : A.units + 65 < cLine := by
  have := h.un
  omega
/-- nothing holds of a call that has no room -/
theorem fn_zero {P : Program} {w : World} {K : PySem.W.Frag} {mg : Str → Option Value} {base : Heap} {c : Cn} {Pg : List Fn} {f : Addr} {fd : FuncData} {ps : List Str} {i : Nat} : FnOk P w K mg base (L2.CX P w) 0 f fd ps (spF c (callN Pg 0 i)) :=
  ⟨fun _ _ _ _ ⟨_, _, _, _, _, h⟩ => h.elim, fun _ _ _ _ _ _ _ _ _ _ _ _ _ ⟨_, _, _, _, _, h⟩ => h.elim⟩
section
variable {X : Cx} {c : Cn} {W : WX} {elt tg iter : Expr} {ifs : List Expr} {scope : Scope} {own : List (Str × Nat)} {pos spos p : Pos} {y : Str} {wk : Bool} {us : List Nat} {u : Ev (List D × Wt)} {g : Gv} {ftt : Ev Bool} {fe : Ev D}
/-- a comprehension's list by a name, that stays as it is -/
theorem s_setLcF (i : Nat) (hc : X.calm = true) (hN : X.N.Nodup) (hy : X.N[i]? = some y) (hyl : X.env.scope.names.lookup y = some .local)
    (hsw : swapsWith (.ListComp elt [⟨tg, iter, ifs, 0⟩] scope pos) (some (.Name y p)) spos.line X.env = pure true) (hi : PI X tg iter (tI c W wk u)) (ok : BlkOk X.N X.env.scope scope own)
    (hg : ∀ (s : Shared) (H : Hp) (C : Addr) (cl : List (Str × Addr)) (fp : List Addr), PG (X.blk s H scope (compEnvC scope cl C X.env) fp) tg (tG c wk us g)) (ht : ∀ (s : Shared) (H : Hp) (C : Addr) (cl : List (Str × Addr)) (fp : List Addr), PTs (X.blk s H scope (compEnvC scope cl C X.env) fp) ifs (tT c WN ftt))
    (he : ∀ (s : Shared) (H : Hp) (C : Addr) (cl : List (Str × Addr)) (fp : List Addr), PE (X.blk s H scope (compEnvC scope cl C X.env) fp) elt (tE c WN fe)) (hus : ∀ i ∈ us, i ∈ own.map (·.2)) (hs : ∀ x, foldedSetIterable iter X.env x = pure x := by intro _; rfl) :
    PS X (.Assign [.Name y p] (.ListComp elt [⟨tg, iter, ifs, 0⟩] scope pos) spos) (tS c W (sasg (gnm i) (zfz (zcomp (own.map (·.2)) g u ftt fe)))) := by
  refine ⟨fun pins s σ H D I ⟨ρ, A, σd, R, S, h⟩ => ?_⟩
  refine thn ((ps_setLc hc hN hy hyl hsw hi ok hg ht he hs).run pins s σ H { D with nx := fun σ' H1 => ∃ a vs, H1 a = some (.lst vs) ∧ ∀ ob, D.nx σ' (upd H1 a (.frz ob (.lst vs))) } I ?_) fun f s1 h1 => ?_
  · refine comp_read hus ⟨ρ, A, σd, R, S, ?_⟩
    have h1 := LdS.of R S h
    refine (Ld.bind h1).imp fun xs ρ1 A1 H1 R1 s1 h2 a vs n rvs => ⟨a, vs, upd_same, fun ob => ?_⟩
    rw [upd_upd]
    obtain ⟨R2, s2, _⟩ := R1.laid (ho := .frz ob (.lst vs)) n
    have h3 := h2 ρ1 _ R2 s2
    exact h3 ρ1 _ _ R2 .refl (((S.to R s1).to R1 s2).set (.lst (.inl ⟨ob, upd_same⟩) (rvs.to R1 s2)) i)
  · cases f with
    | next =>
      obtain ⟨σ', H', I', a, vs, ha, q⟩ := h1
      obtain ⟨z, its, n, rv, hob⟩ := I'.hok a _ ha
      exact ⟨σ', _, I'.write (x := a) (e := a) (t' := s1.toks) (h' := s1.heap) (by rw [ha]; trivial) (.inl rfl) (fun b u _ h => h) ⟨_, hob⟩ (o := .frz _ (.lst vs)) ⟨hob, z, its, n, rv, hob⟩, q _⟩
    | ret v => exact h1
    | brk => exact h1
    | cont => exact h1
end
theorem law_start {K : PySem.W.Frag} {H : Hp} {a : Addr} {ns : List Int} {eA cA : Nat → Addr} {m : List D → M D} {P : Program} {w : World} (hO : Only H) (hS : SqL K H a (ns.map V.int)) (h : ∃ A', m [.lst (ns.map .int)] [] = some (.ok (.bl true) A')) :
    spF ⟨K, cA, eA, P, w⟩ m [.ref a] H (fun v _ => v = .bl true) fun _ _ _ => False := by
  obtain ⟨A', h⟩ := h
  refine ⟨[], [], [.lst (ns.map .int)], ⟨rfl, .nil, fun n o a e => by simp at e⟩, .cons (.lst ?_ (.of_ints ns)) .nil, ?_⟩
  · rcases hS with (h1 | ⟨o, h1⟩) | h1
    · rcases hO a with h2 | ⟨o, xs, h2⟩
      · rw [h1] at h2; cases h2
      · rw [h1] at h2; cases h2
    · exact .inl ⟨o, h1⟩
    · exact .inr h1
  · rw [h]
    intro ρ' H' _ _ v rv
    cases rv
    rfl
theorem walkZ {l : PySem.W.OpenLaw} {q : Program} {loose : List Str} {XP : (Str → Option Value) → Heap → Prop} {YP : World → Heap → Prop} {d : DefRec} {n k : Nat} {x : Str}
    (most : l.most = some n) (small : n ≤ sizeLine) (plain : d.params.defaults = []) (room : Room k callerA)
    (go : ∀ (w : World) (mg : Str → Option Value) (fa : Addr) (h : Heap), YP w h → h.Ns mainGlobals mg → mg d.name = some (.ref fa) →
      ∃ (K : PySem.W.Frag) (fd : FuncData) (sp : Sp), K.In h ∧ (∀ (s : Shared) (v : Value), BindsTo s fd ⟨[v], []⟩ [(x, v)]) ∧
        (∀ (H : Hp) (a : Addr) (ns : List Int), ns.length ≤ n → Only H → SqL K H a (ns.map V.int) → sp [.ref a] H (fun v _ => v = .bl true) fun _ _ _ => False) ∧
        ∀ b : Heap, K.In b → b.Ns mainGlobals mg → FnOk l.prog w K mg b (L2.CX l.prog w) k fa fd [x] sp) :
    PySem.W.WalkO q loose XP YP l.row.toRowW d [] (fun f vs => PySem.call f vs) := by
  refine Att.attach_call most plain ?_
  intro w s0 s1 mg mb fa o pm cd doc a vs ns G Y ho hd hcd hn hobj hin hlen hgen
  obtain ⟨K, fd, sp, k1, k2, k3, k4⟩ := go w mg fa _ Y G.T.g hn
  refine law_call k1 G.T.g G.T.b G.T.builtins G.T.nolimit hgen hobj hin (Nat.le_trans hlen small) room k4 k2 (fun H hO hS => k3 H a ns hlen hO hS) ?_
  rintro H e s2 ⟨_, _, _, _, _, _, _, _, _, _, _, _, z⟩
  exact z
end Z

noncomputable section
set_option maxHeartbeats 2000000
namespace Z
open PySem
theorem andThen_ok {α β : Type} (a : α) (A : Hh) (f : α → Hh → Option (R β)) : R.andThen (some (.ok a A)) f = f a A := rfl
theorem of_ok {α : Type} (σ : Sl) (a : α) (A : Hh) (f : α → Hh → Option RS) : RS.of σ (some (.ok a A)) f = f a A := rfl
theorem sthen_nx (σ : Sl) (A : Hh) (t : Sv) : RS.andThen (some (.nx σ A)) t = t σ A := rfl
theorem sthen_rt (d : D) (A : Hh) (t : Sv) : RS.andThen (some (.rt d A)) t = some (.rt d A) := rfl
theorem sthen_bk (σ : Sl) (A : Hh) (t : Sv) : RS.andThen (some (.bk σ A)) t = some (.bk σ A) := rfl
theorem sthen_ct (σ : Sl) (A : Hh) (t : Sv) : RS.andThen (some (.ct σ A)) t = some (.ct σ A) := rfl
theorem gc_len {A A' : Hh} {d : D} (h : A'.length = A.length) : gc A A' d = A' := by
  unfold gc
  split
  · rw [← h, List.take_length]
  · rfl
theorem gc_self (A : Hh) (d : D) : gc A A d = A := gc_len rfl
/-- what was made is dropped -/
theorem gc_drop {A A' B : Hh} {d : D} (hl : A'.length = A.length) (hd : D.lo A.length d = true) (ho : ∀ (i : Nat) o, A'[i]? = some o → A[i]? = some o ∨ O.lo A.length o = true) : gc A (A' ++ B) d = A' := by
  unfold gc
  have : gcOk A (A' ++ B) d = true := by
    unfold gcOk
    rw [hd, Bool.true_and, Bool.and_eq_true]
    refine ⟨decide_eq_true (by rw [List.length_append]; omega), List.all_eq_true.mpr fun i hi => ?_⟩
    have hi' : i < A.length := List.mem_range.mp hi
    rw [List.getElem?_eq_getElem hi', List.getElem?_append_left (by omega), List.getElem?_eq_getElem (by omega)]
    rcases ho i _ (List.getElem?_eq_getElem (by omega)) with h | h
    · rw [List.getElem?_eq_getElem hi'] at h
      have h2 := Option.some.inj h
      rw [h2]
      simp
    · simp [h]
  rw [if_pos this, ← hl, List.take_left]
theorem gc_app {A B : Hh} {d : D} (hd : D.lo A.length d = true) : gc A (A ++ B) d = A := gc_drop rfl hd fun i o h => .inl h
mutual
/-- no object is named -/
def D.flat : D → Bool
  | .tup xs => D.flats xs
  | .lst xs => D.flats xs
  | .ref _ => false
  | _ => true
def D.flats : List D → Bool
  | [] => true
  | x :: xs => D.flat x && D.flats xs
end
mutual
theorem D.flat_lo (n : Nat) : ∀ d : D, d.flat = true → D.lo n d = true
  | .non, _ => rfl
  | .bl _, _ => rfl
  | .int _, _ => rfl
  | .str _, _ => rfl
  | .tup xs, h => D.flats_lo n xs h
  | .lst xs, h => D.flats_lo n xs h
  | .exc _, _ => rfl
  | .emp, _ => rfl
theorem D.flats_lo (n : Nat) : ∀ xs : List D, D.flats xs = true → D.los n xs = true
  | [], _ => rfl
  | x :: xs, h => by
    have h' : (D.flat x && D.flats xs) = true := h
    rw [Bool.and_eq_true] at h'
    show (D.lo n x && D.los n xs) = true
    rw [D.flat_lo n x h'.1, D.flats_lo n xs h'.2]
    rfl
end
theorem flats_all : ∀ {xs : List D}, (∀ x ∈ xs, x.flat = true) → D.flats xs = true
  | [], _ => rfl
  | x :: xs, h => by
    show (D.flat x && D.flats xs) = true
    rw [h x (List.mem_cons_self ..), flats_all fun y hy => h y (List.mem_cons_of_mem _ hy)]
    rfl

mutual
def D.dep : D → Nat
  | .tup xs => D.deps xs + 1
  | .lst xs => D.deps xs + 1
  | _ => 0
def D.deps : List D → Nat
  | [] => 0
  | x :: xs => max (D.dep x) (D.deps xs)
end
mutual
/-- data without bools, texts, objects -/
def D.nob : D → Bool
  | .non => true
  | .int _ => true
  | .tup xs => D.nobs xs
  | .lst xs => D.nobs xs
  | _ => false
def D.nobs : List D → Bool
  | [] => true
  | x :: xs => D.nob x && D.nobs xs
end
mutual
theorem nob_py : ∀ d : D, d.nob = true → ∃ p, d.py = some p ∧ p.canLay0 = true ∧ p.depth = d.dep
  | .non, _ => ⟨_, rfl, by simp [PyData.canLay0], by simp [PyData.depth, D.dep]⟩
  | .int _, _ => ⟨_, rfl, by simp [PyData.canLay0], by simp [PyData.depth, D.dep]⟩
  | .tup xs, h => by
    obtain ⟨ps, e, h1, h2⟩ := nobs_py xs h
    exact ⟨.tuple ps, by simp [D.py, e], by simp [PyData.canLay0, h1], by simp [PyData.depth, D.dep, h2]⟩
  | .lst xs, h => by
    obtain ⟨ps, e, h1, h2⟩ := nobs_py xs h
    exact ⟨.list ps, by simp [D.py, e], by simp [PyData.canLay0, h1], by simp [PyData.depth, D.dep, h2]⟩
theorem nobs_py : ∀ xs : List D, D.nobs xs = true → ∃ ps, D.pys xs = some ps ∧ PyData.canLayAll0 ps = true ∧ PyData.depthAll ps = D.deps xs
  | [], _ => ⟨[], rfl, by simp [PyData.canLayAll0], by simp [PyData.depthAll, D.deps]⟩
  | x :: xs, h => by
    have h' : (D.nob x && D.nobs xs) = true := h
    rw [Bool.and_eq_true] at h'
    obtain ⟨p, e, h1, h2⟩ := nob_py x h'.1
    obtain ⟨ps, e', h3, h4⟩ := nobs_py xs h'.2
    exact ⟨p :: ps, by simp [D.pys, e, e'], by simp [PyData.canLayAll0, h1, h3], by simp [PyData.depthAll, D.deps, h2, h4]⟩
end
mutual
theorem nob_eqv : ∀ (x y : D) (p q : PyData), x.nob = true → y.nob = true → x.py = some p → y.py = some q → PyData.eqv p q = D.deq x y
  | .non, y, p, q, _, hy, e1, e2 => by
    cases e1
    cases y with
    | non => cases e2; rfl
    | int j => cases e2; rfl
    | tup ys => obtain ⟨z, e, _⟩ := nobs_py ys hy; simp only [D.py, e, Option.map_some, Option.some.injEq] at e2; subst e2; rfl
    | lst ys => obtain ⟨z, e, _⟩ := nobs_py ys hy; simp only [D.py, e, Option.map_some, Option.some.injEq] at e2; subst e2; rfl
    | bl _ => cases hy
    | str _ => cases hy
    | ref _ => cases hy
    | exc _ => cases hy
    | emp => cases hy
  | .int i, y, p, q, _, hy, e1, e2 => by
    cases e1
    cases y with
    | non => cases e2; rfl
    | int j => cases e2; simp only [PyData.eqv, D.deq]; rfl
    | tup ys => obtain ⟨z, e, _⟩ := nobs_py ys hy; simp only [D.py, e, Option.map_some, Option.some.injEq] at e2; subst e2; rfl
    | lst ys => obtain ⟨z, e, _⟩ := nobs_py ys hy; simp only [D.py, e, Option.map_some, Option.some.injEq] at e2; subst e2; rfl
    | bl _ => cases hy
    | str _ => cases hy
    | ref _ => cases hy
    | exc _ => cases hy
    | emp => cases hy
  | .tup xs, y, p, q, hx, hy, e1, e2 => by
    obtain ⟨ps, e, _⟩ := nobs_py xs hx
    simp only [D.py, e, Option.map_some, Option.some.injEq] at e1
    subst e1
    cases y with
    | non => cases e2; rfl
    | int j => cases e2; rfl
    | tup ys =>
      obtain ⟨z, e', _⟩ := nobs_py ys hy
      simp only [D.py, e', Option.map_some, Option.some.injEq] at e2
      subst e2
      rw [PyData.eqv, nobs_eqv xs ys ps z hx hy e e']
      rfl
    | lst ys => obtain ⟨z, e', _⟩ := nobs_py ys hy; simp only [D.py, e', Option.map_some, Option.some.injEq] at e2; subst e2; rfl
    | bl _ => cases hy
    | str _ => cases hy
    | ref _ => cases hy
    | exc _ => cases hy
    | emp => cases hy
  | .lst xs, y, p, q, hx, hy, e1, e2 => by
    obtain ⟨ps, e, _⟩ := nobs_py xs hx
    simp only [D.py, e, Option.map_some, Option.some.injEq] at e1
    subst e1
    cases y with
    | non => cases e2; rfl
    | int j => cases e2; rfl
    | lst ys =>
      obtain ⟨z, e', _⟩ := nobs_py ys hy
      simp only [D.py, e', Option.map_some, Option.some.injEq] at e2
      subst e2
      rw [PyData.eqv, nobs_eqv xs ys ps z hx hy e e']
      rfl
    | tup ys => obtain ⟨z, e', _⟩ := nobs_py ys hy; simp only [D.py, e', Option.map_some, Option.some.injEq] at e2; subst e2; rfl
    | bl _ => cases hy
    | str _ => cases hy
    | ref _ => cases hy
    | exc _ => cases hy
    | emp => cases hy
  | .bl _, _, _, _, hx, _, _, _ => by cases hx
  | .str _, _, _, _, hx, _, _, _ => by cases hx
  | .ref _, _, _, _, hx, _, _, _ => by cases hx
  | .exc _, _, _, _, hx, _, _, _ => by cases hx
  | .emp, _, _, _, hx, _, _, _ => by cases hx
theorem nobs_eqv : ∀ (xs ys : List D) (ps qs : List PyData), D.nobs xs = true → D.nobs ys = true → D.pys xs = some ps → D.pys ys = some qs → PyData.eqvAll ps qs = D.deqs xs ys
  | [], [], ps, qs, _, _, e1, e2 => by cases e1; cases e2; rfl
  | [], y :: ys, ps, qs, _, hy, e1, e2 => by
    cases e1
    obtain ⟨z, e', _⟩ := nobs_py (y :: ys) hy
    rw [e'] at e2
    cases e2
    cases hz : D.py y with
    | none => simp [D.pys, hz] at e'
    | some p => cases hz2 : D.pys ys with
      | none => simp [D.pys, hz, hz2] at e'
      | some ps => simp only [D.pys, hz, hz2, Option.some.injEq] at e'; subst e'; rfl
  | x :: xs, [], ps, qs, hx, _, e1, e2 => by
    cases e2
    cases hz : D.py x with
    | none => simp [D.pys, hz] at e1
    | some p => cases hz2 : D.pys xs with
      | none => simp [D.pys, hz, hz2] at e1
      | some ps => simp only [D.pys, hz, hz2, Option.some.injEq] at e1; subst e1; rfl
  | x :: xs, y :: ys, ps, qs, hx, hy, e1, e2 => by
    have hx' : (D.nob x && D.nobs xs) = true := hx
    have hy' : (D.nob y && D.nobs ys) = true := hy
    rw [Bool.and_eq_true] at hx' hy'
    obtain ⟨p, k1, _⟩ := nob_py x hx'.1
    obtain ⟨ps', k2, _⟩ := nobs_py xs hx'.2
    obtain ⟨q, k3, _⟩ := nob_py y hy'.1
    obtain ⟨qs', k4, _⟩ := nobs_py ys hy'.2
    simp only [D.pys, k1, k2, Option.some.injEq] at e1
    simp only [D.pys, k3, k4, Option.some.injEq] at e2
    subst e1 e2
    rw [PyData.eqvAll, nob_eqv x y p q hx'.1 hy'.1 k1 k3, nobs_eqv xs ys ps' qs' hx'.2 hy'.2 k2 k4]
    rfl
end
theorem eqD_nob {A : Hh} {x y : D} (hx : x.nob = true) (hy : y.nob = true) (dx : x.dep ≤ 64) (dy : y.dep ≤ 64) : eqD A x y = some (decide (x = y)) := by
  obtain ⟨p, k1, k2, k3⟩ := nob_py x hx
  obtain ⟨q, k4, k5, k6⟩ := nob_py y hy
  have hp : SeqAt.shaped p = true := by unfold SeqAt.shaped; rw [k2, k3]; simpa using dx
  have hq : SeqAt.shaped q = true := by unfold SeqAt.shaped; rw [k5, k6]; simpa using dy
  have key : eqP (pyA A x) (pyA A y) = some (decide (x = y)) := by
    have e1 : pyA A x = some p := by cases x <;> first | (simp [D.nob] at hx; done) | exact k1
    have e2 : pyA A y = some q := by cases y <;> first | (simp [D.nob] at hy; done) | exact k4
    rw [e1, e2]
    simp only [eqP, hp, hq, Bool.and_true, if_true, nob_eqv x y p q hx hy k1 k4]
    congr 1
    rw [Bool.eq_iff_iff, decide_eq_true_eq]
    exact D.deq_iff x y
  unfold eqD
  split
  · rename_i i j; simp
  · cases hx
  · cases hx
  · exact key

theorem tupsOf_tups : ∀ ts : List (List Int), tupsOf (ts.map tupD) = some ts
  | [] => rfl
  | t :: ts => by
    rw [List.map_cons]
    show (match intsOf (t.map D.int), tupsOf (ts.map tupD) with | some n, some ns => some (n :: ns) | _, _ => none) = _
    rw [intsOf_ints, tupsOf_tups ts]
theorem sortD_tups {ts : List (List Int)} (h : ∀ t ∈ ts, t ≠ []) : sortD (ts.map tupD) = some ((ts.mergeSort leL).map tupD) := by
  cases ts with
  | nil => simp [sortD, intsOf]
  | cons t ts =>
    have e1 : intsOf ((t :: ts).map tupD) = none := rfl
    have e2 := tupsOf_tups (t :: ts)
    unfold sortD
    rw [e1]
    dsimp only
    rw [e2]
    dsimp only
    rw [if_pos]
    refine List.all_eq_true.mpr fun u hu => ?_
    have := h u hu
    cases u with
    | nil => exact absurd rfl this
    | cons _ _ => rfl
theorem sortD_ints (ns : List Int) : sortD (ns.map .int) = some ((ns.mergeSort leZ).map .int) := by
  unfold sortD
  rw [intsOf_ints]
theorem compL_map {σ : Sl} {g : Gv} {c : Ev Bool} {e : Ev D} {A : Hh} (s : D → Sl) (p : D → Bool) (h : D → D) : ∀ (xs acc : List D), (∀ x ∈ xs, g x σ A = some (.ok (s x) A) ∧ c (s x) A = some (.ok (p x) A) ∧ (p x = true → e (s x) A = some (.ok (h x) A))) →
    acc.length + xs.length < SZ → compL σ [] g c e xs acc A = some (.ok (acc ++ (xs.filter p).map h) A)
  | [], acc, _, _ => by simp [compL, wOk]
  | x :: xs, acc, hx, hz => by
    obtain ⟨h1, h2, h3⟩ := hx x (List.mem_cons_self ..)
    have ih := fun acc => compL_map s p h xs acc fun y hy => hx y (List.mem_cons_of_mem _ hy)
    rw [List.length_cons] at hz
    cases q : p x with
    | false =>
      simp only [compL, wOk, List.all_nil, if_true, h1, h2, q]
      rw [ih acc (by omega), List.filter_cons, q]
      rfl
    | true =>
      simp only [compL, wOk, List.all_nil, if_true, h1, h2, q, h3 q]
      rw [if_pos (by omega), ih _ (by rw [List.length_append, List.length_singleton]; omega), List.filter_cons, q]
      simp
/-- a list watched: the same, while the heap stays -/
theorem compL_mapW {σ : Sl} {w : Wt} {g : Gv} {c : Ev Bool} {e : Ev D} {A : Hh} (hw : wOk w A = true) (s : D → Sl) (p : D → Bool) (h : D → D) : ∀ (xs acc : List D), (∀ x ∈ xs, g x σ A = some (.ok (s x) A) ∧ c (s x) A = some (.ok (p x) A) ∧ (p x = true → e (s x) A = some (.ok (h x) A))) →
    acc.length + xs.length < SZ → compL σ w g c e xs acc A = some (.ok (acc ++ (xs.filter p).map h) A)
  | [], acc, _, _ => by simp [compL, hw]
  | x :: xs, acc, hx, hz => by
    obtain ⟨h1, h2, h3⟩ := hx x (List.mem_cons_self ..)
    have ih := fun acc => compL_mapW hw s p h xs acc fun y hy => hx y (List.mem_cons_of_mem _ hy)
    rw [List.length_cons] at hz
    cases q : p x with
    | false =>
      simp only [compL, hw, if_true, h1, h2, q]
      rw [ih acc (by omega), List.filter_cons, q]
      rfl
    | true =>
      simp only [compL, hw, if_true, h1, h2, q, h3 q]
      rw [if_pos (by omega), ih _ (by rw [List.length_append, List.length_singleton]; omega), List.filter_cons, q]
      simp
/-- a loop that goes through: I tells what holds ahead of each turn -/
theorem forL_go {w : Wt} {g : Gv} {b : Sv} (I : List D → Sl → Hh → Prop) (hw : ∀ xs σ A, I xs σ A → wOk w A = true)
    (step : ∀ x xs σ A, I (x :: xs) σ A → ∃ σ2 A2, g x σ A = some (.ok σ2 A2) ∧ ∃ σ3 A3, (b σ2 A2 = some (.nx σ3 A3) ∨ b σ2 A2 = some (.ct σ3 A3)) ∧ I xs σ3 A3) :
    ∀ xs σ A, I xs σ A → ∃ σ' A', forL w g b xs σ A = some (.nx σ' A') ∧ I [] σ' A'
  | [], σ, A, h => ⟨σ, A, by simp [forL, hw _ _ _ h], h⟩
  | x :: xs, σ, A, h => by
    obtain ⟨σ2, A2, h1, σ3, A3, h2, h3⟩ := step x xs σ A h
    obtain ⟨σ', A', h4, h5⟩ := forL_go I hw step xs σ3 A3 h3
    refine ⟨σ', A', ?_, h5⟩
    rcases h2 with h2 | h2
    · simp only [forL, hw _ _ _ h, if_true, h1, h2, h4]
    · simp only [forL, hw _ _ _ h, if_true, h1, h2, h4]
/-- a loop that leaves the heap alone -/
theorem forL_pure {g : Gv} {b : Sv} (I : List D → Sl → Prop) (step : ∀ x xs σ, I (x :: xs) σ → ∃ σ2 σ3, (∀ A, g x σ A = some (.ok σ2 A)) ∧ (∀ A, b σ2 A = some (.nx σ3 A)) ∧ I xs σ3) :
    ∀ xs σ, I xs σ → ∃ σ', (∀ A, forL [] g b xs σ A = some (.nx σ' A)) ∧ I [] σ'
  | [], σ, h => ⟨σ, fun A => rfl, h⟩
  | x :: xs, σ, h => by
    obtain ⟨σ2, σ3, h1, h2, h3⟩ := step x xs σ h
    obtain ⟨σ', h4, h5⟩ := forL_pure I step xs σ3 h3
    exact ⟨σ', fun A => by simp only [forL, wOk, List.all_nil, if_true, h1, h2, h4], h5⟩
/-- the law's way: a while that ends -/
theorem swhile_go {c : Ev Bool} {b : Sv} {σ : Sl} {A : Hh} {r : RS} {n : Nat} (h : whileN c b n σ A = some r) : swhile c b σ A = some r := by
  have mono : ∀ (n m : Nat) (σ : Sl) (A : Hh) (r : RS), whileN c b n σ A = some r → n ≤ m → whileN c b m σ A = some r := by
    intro n
    induction n with
    | zero => intro m σ A r h; cases h
    | succ n ih =>
      intro m σ A r h hm
      obtain ⟨m, rfl⟩ : ∃ k, m = k + 1 := ⟨m - 1, by omega⟩
      simp only [whileN] at h ⊢
      cases hc : c σ A with
      | none => rw [hc] at h; cases h
      | some rc => cases rc with
        | ex x A1 => rw [hc] at h; exact h
        | ok k A1 =>
          rw [hc] at h
          simp only [of_ok] at h ⊢
          cases k with
          | false => exact h
          | true =>
            simp only [if_true] at h ⊢
            cases hb : b σ A1 with
            | none => rw [hb] at h; cases h
            | some rb =>
              rw [hb] at h
              cases rb with
              | nx σ2 A2 => exact ih m σ2 A2 r h (by omega)
              | ct σ2 A2 => exact ih m σ2 A2 r h (by omega)
              | bk σ2 A2 => exact h
              | rt d A2 => exact h
              | ex x σ2 A2 => exact h
  have hx : ∃ n, (whileN c b n σ A).isSome = true := ⟨n, by rw [h]; rfl⟩
  unfold swhile
  rw [dif_pos hx]
  have hs := hx.choose_spec
  cases q : whileN c b hx.choose σ A with
  | none => rw [q] at hs; cases hs
  | some r2 =>
    rcases Nat.le_total n hx.choose with hl | hl
    · rw [mono n _ σ A r h hl] at q
      exact q.symm
    · rw [mono _ n σ A r2 q hl] at h
      exact h
theorem seq_tup (A : Hh) (xs : List D) : seqD A (.tup xs) = some (xs, []) := rfl
theorem seq_lst (A : Hh) (xs : List D) : seqD A (.lst xs) = some (xs, []) := rfl
theorem seq_ref {A : Hh} {n : Nat} {xs : List D} (h : A[n]? = some (.lst xs)) : seqD A (.ref n) = some (xs, [(n, xs)]) := by simp only [seqD, h]
theorem lst_lst (A : Hh) (xs : List D) : lstD A (.lst xs) = some xs := rfl
theorem lst_ref {A : Hh} {n : Nat} {xs : List D} (h : A[n]? = some (.lst xs)) : lstD A (.ref n) = some xs := by simp only [lstD, h]
theorem ty_non (A : Hh) : tyD A .non = some .non := rfl
theorem ty_bl (A : Hh) (b : Bool) : tyD A (.bl b) = some .bl := rfl
theorem ty_int (A : Hh) (i : Int) : tyD A (.int i) = some .int := rfl
theorem ty_str (A : Hh) (x : Str) : tyD A (.str x) = some .str := rfl
theorem ty_tup (A : Hh) (xs : List D) : tyD A (.tup xs) = some .tup := rfl
theorem ty_lst (A : Hh) (xs : List D) : tyD A (.lst xs) = some .lst := rfl
theorem ty_ref {A : Hh} {n : Nat} {xs : List D} (h : A[n]? = some (.lst xs)) : tyD A (.ref n) = some .lst := by simp only [tyD, h]
theorem tru_non (A : Hh) : truD A .non = some false := rfl
theorem tru_bl (A : Hh) (b : Bool) : truD A (.bl b) = some b := rfl
theorem tru_int (A : Hh) (i : Int) : truD A (.int i) = some (decide (i ≠ 0)) := rfl
theorem tru_tup (A : Hh) (xs : List D) : truD A (.tup xs) = some (!xs.isEmpty) := rfl
theorem tru_lst (A : Hh) (xs : List D) : truD A (.lst xs) = some (!xs.isEmpty) := rfl
theorem tru_ref {A : Hh} {n : Nat} {xs : List D} (h : A[n]? = some (.lst xs)) : truD A (.ref n) = some (!xs.isEmpty) := by simp only [truD, h]
theorem len_tup (A : Hh) (xs : List D) : biD .len [.tup xs] A = some (.int xs.length) := rfl
theorem len_lst (A : Hh) (xs : List D) : biD .len [.lst xs] A = some (.int xs.length) := rfl
theorem len_ref {A : Hh} {n : Nat} {xs : List D} (h : A[n]? = some (.lst xs)) : biD .len [.ref n] A = some (.int xs.length) := by simp only [biD, seq_ref h, Option.map_some]
theorem ix_int (A : Hh) (x : D) (i : Int) : ixD A x (.int i) = (seqD A x).bind fun p => L2.atI p.1 i := by
  unfold ixD
  cases seqD A x <;> rfl
theorem at_nat (xs : List D) (i : Nat) : L2.atI xs (i : Int) = xs[i]? := by
  unfold L2.atI L2.ixN
  simp
  split
  · rfl
  · rename_i h
    rw [List.getElem?_eq_none (by omega)]
    rfl
theorem at_0 (xs : List D) : L2.atI xs 0 = xs[0]? := at_nat xs 0
theorem at_1 (xs : List D) : L2.atI xs 1 = xs[1]? := at_nat xs 1
theorem at_2 (xs : List D) : L2.atI xs 2 = xs[2]? := at_nat xs 2
theorem at_3 (xs : List D) : L2.atI xs 3 = xs[3]? := at_nat xs 3
theorem at_4 (xs : List D) : L2.atI xs 4 = xs[4]? := at_nat xs 4
theorem add_ii (i j : Int) : bopD .add (.int i) (.int j) = ok (.int (i + j)) := rfl
theorem sub_ii (i j : Int) : bopD .sub (.int i) (.int j) = ok (.int (i - j)) := rfl
theorem mul_ii (i j : Int) (A : Hh) : bopD .mul (.int i) (.int j) A = if small i && small j then some (.ok (.int (i * j)) A) else none := rfl
theorem fdiv_ii (i j : Int) (A : Hh) : bopD .fdiv (.int i) (.int j) A = if decide (0 < j) && small j then some (.ok (.int (i / j)) A) else none := rfl
theorem mod_ii (i j : Int) (A : Hh) : bopD .mod (.int i) (.int j) A = if decide (0 < j) then some (.ok (.int (i % j)) A) else none := rfl
theorem pow_ii (i j : Int) (A : Hh) : bopD .pow (.int i) (.int j) A = if decide (0 ≤ j) && decide (j ≤ 1000000) && decide (i.natAbs < 2 ^ 64) then some (.ok (.int (i ^ j.toNat)) A) else none := rfl
theorem add_tt (xs ys : List D) (A : Hh) : bopD .add (.tup xs) (.tup ys) A = if xs.length + ys.length ≤ SZ then some (.ok (.tup (xs ++ ys)) A) else none := rfl
theorem lt_ii (i j : Int) (A : Hh) : copD .lt (.int i) (.int j) A = some (decide (i < j)) := rfl
theorem le_ii (i j : Int) (A : Hh) : copD .le (.int i) (.int j) A = some (decide (i ≤ j)) := rfl
theorem gt_ii (i j : Int) (A : Hh) : copD .gt (.int i) (.int j) A = some (decide (j < i)) := rfl
theorem ge_ii (i j : Int) (A : Hh) : copD .ge (.int i) (.int j) A = some (decide (j ≤ i)) := rfl
theorem eq_ii (i j : Int) (A : Hh) : copD .eq (.int i) (.int j) A = some (decide (i = j)) := rfl
theorem ne_ii (i j : Int) (A : Hh) : copD .ne (.int i) (.int j) A = some (!decide (i = j)) := rfl
theorem eq_dd (x y : D) (A : Hh) : copD .eq x y A = eqD A x y := rfl
theorem ne_dd (x y : D) (A : Hh) : copD .ne x y A = (eqD A x y).map (!·) := rfl
theorem isN_d (x : D) (A : Hh) : copD .isN x .non A = some (D.deq x .non) := rfl
theorem notN_d (x : D) (A : Hh) : copD .notN x .non A = some (!D.deq x .non) := rfl
theorem wt_tup (xs ys : List D) : wtD (.tup xs) ys = [] := rfl
/-- a while's turn -/
theorem while_0 {c : Ev Bool} {b : Sv} {σ : Sl} {A A1 : Hh} {n : Nat} (h : c σ A = some (.ok false A1)) : whileN c b (n + 1) σ A = some (.nx σ A1) := by simp only [whileN, h, of_ok]; rfl
theorem while_1 {c : Ev Bool} {b : Sv} {σ σ2 : Sl} {A A1 A2 : Hh} {n : Nat} (h : c σ A = some (.ok true A1)) (h2 : b σ A1 = some (.nx σ2 A2) ∨ b σ A1 = some (.ct σ2 A2)) : whileN c b (n + 1) σ A = whileN c b n σ2 A2 := by
  simp only [whileN, h, of_ok, if_true]
  rcases h2 with h2 | h2 <;> rw [h2]
theorem mod_pos {j : Int} (h : 0 < j) (i : Int) (A : Hh) : bopD .mod (.int i) (.int j) A = some (.ok (.int (i % j)) A) := by rw [mod_ii, decide_eq_true h]; rfl
theorem mul_sm {i j : Int} (h : small i = true) (h2 : small j = true) (A : Hh) : bopD .mul (.int i) (.int j) A = some (.ok (.int (i * j)) A) := by rw [mul_ii, h, h2]; rfl
theorem fdiv_pos {j : Int} (h : 0 < j) (h2 : small j = true) (i : Int) (A : Hh) : bopD .fdiv (.int i) (.int j) A = some (.ok (.int (i / j)) A) := by rw [fdiv_ii, decide_eq_true h, h2]; rfl
end Z

noncomputable section
set_option maxHeartbeats 2000000
namespace L2
open PySem PySem.Spec PyProof.Rows
section
variable {X : Cx} {pins : List (Addr × Obj)} {σ : L2.St} {H : Hp} {s sI : Shared}
/-- an object that came while X ran is known from now on -/
theorem Inv.track (I : Inv X pins σ H s) {a : Addr} {oe : Obj} {vs : Array Value} (ha : s.heap.get? a = some oe) (hd : oe.data = .fields vs) (na : H a = none) (nL : a ≠ X.env.locals) (hp : ∀ p ∈ X.pn ++ pins, p.1 ≠ a)
    (h0 : ∀ o, X.s_0.heap.get? a = some o → a ∈ X.ex) : Inv X pins σ (upd H a (.frz oe (.ext fun _ => True))) s := by
  have nc : ∀ x c, X.env.cells.lookup x = some c → c ≠ a := fun x c e z => by
    subst z
    obtain ⟨v, o, h1, h2⟩ := I.cell x c e
    rw [ha] at h1
    cases h1
    rw [hd] at h2
    cases h2
  refine ⟨I.ok, I.os, I.bare, ⟨I.base.keep, I.base.slot, fun b o e n hx => ?_, I.base.there, fun b xs e => ?_, fun b o u e => ?_, fun b ps e => ?_⟩, I.loc, I.cell, ?_, fun x c e => ?_, fun p hp' => ?_, fun b u e => ?_, I.len⟩
  · rw [upd_ne (fun z => hx (by rw [z]; rw [z] at e; exact h0 _ e))]
    exact I.base.free b o e n hx
  · have := I.base.tups b xs e
    rw [upd_ne (ne_of_none this na)]
    exact this
  · have := I.base.frzs b o u e
    rw [upd_ne (ne_of_none this na)]
    exact this
  · obtain ⟨m, this⟩ := I.base.tbls b ps e
    exact ⟨m, by rw [upd_ne (ne_of_none this na)]; exact this⟩
  · rw [upd_ne (Ne.symm nL)]
    exact I.free
  · rw [upd_ne (nc x c e)]
    exact I.freeC x c e
  · obtain ⟨h1, h2, h3⟩ := I.pin p hp'
    exact ⟨h1, by rw [upd_ne (hp p hp')]; exact h2, h3⟩
  · by_cases hb : b = a
    · subst hb
      rw [upd_same] at e
      cases e
      exact ⟨ha, True.intro, ⟨_, ha⟩, fun _ _ _ _ => True.intro⟩
    · rw [upd_ne hb] at e
      exact (I.hok b u e).stay (fun _ _ _ q => q) (fun c q => by rw [upd_ne (ne_of_none q na)]; exact q) fun c xs q => by rw [upd_ne (ne_of_none q na)]; exact q
theorem Inv.suiteT {a : Addr} (I : Inv X pins σ H s) : Inv (X.suite a (X.pn ++ pins)) [] σ H s :=
  ⟨I.ok.suite _ _, I.os, I.bare, I.base, I.loc, I.cell, I.free, I.freeC, fun p hp => by
    rw [List.append_nil] at hp
    exact I.pin p hp, I.hok, I.len⟩
theorem Inv.unsuiteT {a : Addr} {pn' : List (Addr × Obj)} (I : Inv (X.suite a (X.pn ++ pins)) pn' σ H s) (ok : X.Ok) : Inv X pins σ H s :=
  ⟨ok, I.os, I.bare, I.base, I.loc, I.cell, I.free, I.freeC, fun p hp => I.pin p (List.mem_append_left _ hp), I.hok, I.len⟩
end
/-- what the clause 'except x as n' wishes of an exception of the body: the error is known -/
def wAsT (K : PySem.W.Frag) (c : Value) (i : Nat) (ts : TS) (Wout : WX) (D : Ends) : WX := fun cls d σ H =>
  ∃ b, PySem.W.exmOne K cls c = some b ∧ (b = true → ∀ a oe, H a = none → Zc cls d oe → (∃ vs, oe.data = .fields vs) → ts { nx := fun σ' H' => D.nx (σ'.set i none) H', rt := D.rt, bk := fun σ' H' => D.bk (σ'.set i none) H', ct := fun σ' H' => D.ct (σ'.set i none) H' } (σ.set i (some (.ref a))) (upd H a (.frz oe (.ext fun _ => True)))) ∧
    (b = false → Wout cls d σ H)
section
variable {X : Cx} {x n : Str} {c : Value} {i : Nat} {body suite : List Stmt} {b₀ : Stmt} {np pos pos' : Pos} {tb : WX → TS} {ts : TS} {Wout : WX}
theorem ps_try_asT (hs : X.stack = X.env :: X.outer) (hf : X.env.frame = some X.env.locals) (hex : X.ex = []) (hN : X.N.Nodup) (hi : X.N[i]? = some n) (hln : X.env.kindOf n = some .local) (hc : Names X x c) (tk : Takes X Wout)
    (hb : ∀ (W : WX) (pn : List (Addr × Obj)) (xe : Value → Shared → Prop), Takes (X.tr pn xe) W → PassesOwn (model X.prog X.w) X.A X.env xe → PSs (X.tr pn xe) body (tb W))
    (hsu : ∀ (a : Addr) (pn : List (Addr × Obj)), PSs (X.suite a pn) (b₀ :: suite) ts) :
    PS X (.Try body [.ExceptHandler (some (.Name x np)) (some n) (b₀ :: suite) pos'] [] [] pos) (fun D σ H => tb (wAsT X.K c i ts Wout D) D σ H) := by
  refine ⟨fun pins s σ H D I h => ?_⟩
  have ok := I.ok
  have hfr : X.A.frames = some (X.env :: X.outer) := by rw [ok.frames, hs]
  have hloc : Loc X.env.scope n := .inl hln
  refine wpAny_Try_except ?_
  refine wpAny_mono ((hb (wAsT X.K c i ts Wout D) (X.pn ++ pins) (fun e s₁ => wpAny (model X.prog X.w) X.A (noteFrame e X.env) (fun _ s₂ => wpAny (model X.prog X.w) X.A (setFlight e none) (fun _ s₃ =>
    wpAny (model X.prog X.w) X.A (handleBy e X.env [.ExceptHandler (some (.Name x np)) (some n) (b₀ :: suite) pos']) (SP X pins D) X.xe s₃) X.xe s₂) X.xe s₁) (fun u s' xx => ?_) PassesOwn.looking).run [] s σ H D (I.toTry _) h) (fun f s1 hsp => ?_) (fun e s1 he => he)
  · -- the catch
    obtain ⟨a, B, sI, pins', σ', H', cls, d, rfl, J', nb, up, sky, na, os, ag, b, hb1, hyes, hno⟩ := xx
    have J : Inv X pins σ' H' sI := J'.ofTry ok
    have sky' : Sky B (X.env :: X.outer) a (Zc cls d) X.env.locals s'.heap := by rw [← hs]; exact sky
    show wpAny (model X.prog X.w) X.A (noteFrame (.ref a) X.env) _ _ _
    refine Sky.land Zc.steady hfr hf sky' fun h3 fl3 up3 => ?_
    have J3 : Inv X pins σ' H' { s' with heap := h3 } := J.landed nb fl3.1 (up.trans up3) os ag
    obtain ⟨oe3, vs3, he3, hz3, hd3⟩ := fl3.there
    have notFr : ∀ {h : Heap} {o : Obj} {vs : Array Value}, h.FunFrames B (X.env :: X.outer) → h.get? a = some o → o.data = .fields vs → a ∉ frs (X.env :: X.outer) := fun {h o vs} ff e dd hm => by
      obtain ⟨_, o', e', hnf⟩ := ff.mem hm
      rw [e] at e'; cases e'
      exact hnf _ dd
    have nfr := notFr fl3.2.2.1 he3 hd3
    have nL : a ≠ X.env.locals := fun z => nfr (List.mem_filterMap.mpr ⟨X.env, List.mem_cons_self, by rw [hf, z]⟩)
    have nF : a ∉ X.fs := fun hm => by
      obtain ⟨e, he, q⟩ := List.mem_filterMap.mp hm
      exact nfr (List.mem_filterMap.mpr ⟨e, List.mem_cons_of_mem _ he, q⟩)
    have newI : sI.heap.get? a = none := by
      cases q : sI.heap.get? a with
      | none => rfl
      | some o =>
        have := nb a o q (by rw [hs]; exact nfr)
        rw [fl3.2.1] at this
        cases this
    have hp : ∀ p ∈ X.pn ++ pins, p.1 ≠ a := fun p hp z => by
      have := (J.pin p hp).1
      rw [z, newI] at this
      cases this
    have h0 : ∀ o, X.s_0.heap.get? a = some o → a ∈ X.ex := fun o e => by
      obtain ⟨o', e'⟩ := J.base.there a o e (by rw [hex]; exact List.not_mem_nil)
      rw [newI] at e'
      cases e'
    have S3 := J3.suite he3 hd3 na nL nF
    refine wpAny_handleBy_cons (codeAny_handlers_test ?_) (by intro q; cases q)
    have LT : PySem.W.Looks (model X.prog X.w) h3 (typeOf (.ref a)) cls := fun A Q E s k q => wpAny_typeOf_ref (k _ _ he3) (by rw [hz3.1]; exact q)
    have LM := PySem.W.exm_one (M := model X.prog X.w) (J3.kIn) LT hb1
    have test : ∀ {Q : Value → Shared → Prop} {E : Value → Shared → Prop}, Q c { s' with heap := h3 } → wpAny (model X.prog X.w) (X.A.mark (some (.ref a))) (eval (.Name x np) X.env) Q E { s' with heap := h3 } := fun {Q E} q => by
      obtain ⟨hg, hdbg, hm | ⟨hm, hv, hnn⟩⟩ := hc
      · exact ld_glob (X := X.suite a ((a, oe3) :: (X.pn ++ pins))) S3 hg hm q hdbg
      · exact ld_blt (X := X.suite a ((a, oe3) :: (X.pn ++ pins))) S3 hg hm hv q hnn hdbg
    refine test (LM.here ?_)
    cases b with
    | true =>
      refine codeAny_handlers_suite_as ?_
      refine HandSPX.lands_againZ fl3 fun h4 fl4 up4 => ?_
      have J4 : Inv X pins σ' H' { s' with heap := h4 } := J.landed nb fl4.1 ((up.trans up3).trans up4) os ag
      obtain ⟨oe4, vs4, he4, hz4, hd4⟩ := fl4.there
      have S4 : Inv (X.suite a (X.pn ++ pins)) [] σ' (upd H' a (.frz oe4 (.ext fun _ => True))) { s' with heap := h4 } := (J4.track he4 hd4 na nL hp h0).suiteT
      refine store_ok (X := X.suite a (X.pn ++ pins)) (v := .ref a) S4 hN hi hloc rfl (fun s5 S5 => ?_) (.inr hln)
      refine wpAny_mono ((hsu a (X.pn ++ pins)).run [] s5 _ _ _ S5 (hyes rfl a oe4 na hz4 ⟨_, hd4⟩)) (fun f s6 hsp => ?_) (fun _ _ z => False.elim z)
      have end_ : ∀ {σ6 : St} {H6 : Hp} {Q : Shared → Prop}, Inv (X.suite a (X.pn ++ pins)) [] σ6 H6 s6 → (∀ s7, Inv X pins (σ6.set i none) H6 s7 → Q s7) →
          wpAny (model X.prog X.w) X.A (do bindName X.env n .none; unbindBehindTheSuite X.env n pos') (fun _ s7 => Q s7) X.xe s6 := fun {σ6 H6 Q} S6 hq => gone_ok (S6.unsuiteT ok) hN hi hln hq
      cases f with
      | next =>
        obtain ⟨σ6, H6, S6, q6⟩ := hsp
        exact end_ S6 fun s7 J7 => ⟨_, _, J7, q6⟩
      | brk =>
        obtain ⟨σ6, H6, S6, q6⟩ := hsp
        exact end_ S6 fun s7 J7 => ⟨_, _, J7, q6⟩
      | cont =>
        obtain ⟨σ6, H6, S6, q6⟩ := hsp
        exact end_ S6 fun s7 J7 => ⟨_, _, J7, q6⟩
      | ret u =>
        obtain ⟨v6, σ6, H6, S6, r6, q6⟩ := hsp
        exact end_ S6 fun s7 J7 => ⟨_, _, _, J7, r6, q6⟩
    | false =>
      show wpAny _ X.A (handleBy (.ref a) X.env []) _ _ _
      refine wpAny_handleBy_nil ?_
      obtain ⟨k1, k2, k3, oe, vs, T, oT, ts', he, hz, hd, h1, hr⟩ := id fl3
      unfold PySem.passOn
      refine wpAny_bind (wpAny_field he hd h1 ?_)
      rw [if_neg (show ¬ ((Value.ref T == Value.none) = true) from by simp)]
      have fin : wpAny (model X.prog X.w) X.A (setFlight (.ref a) X.env.frame) (fun _ s4 => wpAny (model X.prog X.w) X.A (throw (.ref a) : Sem Flow) (SP X pins D) X.xe s4) X.xe { s' with heap := h3 } := by
        rw [hf]
        refine HandSPX.setFlight_upZ fl3 fun h4 hh4 up4 => wpAny_throw (tk _ _ ?_)
        exact ⟨a, B, sI, pins, σ', H', cls, d, rfl, J, nb, (up.trans up3).trans up4, .inr (.inr (by rw [hs]; exact hh4)), na, os, ag, hno rfl⟩
      first
        | exact wpAny_bind (wpAny_pure (wpAny_bind fin))
        | exact wpAny_bind fin
  · cases f with
    | next =>
      obtain ⟨σ', H', J', q⟩ := hsp
      exact wpAny_execs_nil ⟨σ', H', J'.ofTry ok, q⟩
    | brk =>
      obtain ⟨σ', H', J', q⟩ := hsp
      exact ⟨σ', H', J'.ofTry ok, q⟩
    | cont =>
      obtain ⟨σ', H', J', q⟩ := hsp
      exact ⟨σ', H', J'.ofTry ok, q⟩
    | ret u =>
      obtain ⟨v, σ', H', J', r, q⟩ := hsp
      exact ⟨v, σ', H', J'.ofTry ok, r, q⟩
end
end L2

namespace Z
open PySem PySem.Spec PyProof.Rows L2
/-- n is m, or under it -/
def subE (n m : Nat) : Bool := n == m || m == 0
def excCB (K : PySem.W.Frag) (D : Addr) : Bool :=
  He.eqO (PySem.W.findIn K (.ref D) "__getattribute__") (some (some (.builtin "BaseException.__getattribute__"))) && (He.eqO (PySem.W.findIn K (.ref D) "__getattr__") (some none) &&
  (decide (PySem.W.subIn K (.ref D) (.type "BaseException") = some true) && (PySem.W.hasDictIn K D && (He.eqO (PySem.W.findIn K (.ref D) "__class__") (some (some (.builtin "object.__class__"))) &&
  (He.eqO (PySem.W.specialIn K (.builtin "object.__class__") "__get__") (some (some (.builtin "getset_descriptor.__get__"))) && (decide (PySem.W.takesIn K (.builtin "object.__class__") = some true) && decide (PySem.W.mroIn K D (.type "object") = some true)))))))
theorem excCB_ok {K : PySem.W.Frag} {D : Addr} (h : excCB K D = true) : ExcC K D := by
  unfold excCB at h
  simp only [Bool.and_eq_true, decide_eq_true_eq] at h
  obtain ⟨h1, h2, h3, h4, h5, h6, h7, h8⟩ := h
  exact ⟨He.eqO_ok h1, He.eqO_ok h2, h3, h4, He.eqO_ok h5, He.eqO_ok h6, h7, h8⟩
def eAt (K : PySem.W.Frag) (ns : List Str) (n : Nat) : Addr := He.ga K (ns.getD n Str.empty)
/-- the facts of all own exceptions -/
def exB (ns : List Str) (K : PySem.W.Frag) : Bool := (List.range ns.length).all fun n => excCB K (eAt K ns n) && (decide (PySem.W.kitOne K (.ref (eAt K ns n)) (.type "ValueError") = some true) &&
  ((List.range ns.length).all fun m => decide (PySem.W.kitOne K (.ref (eAt K ns n)) (.ref (eAt K ns m)) = some (subE n m)) && decide (PySem.W.exmOne K (.ref (eAt K ns n)) (.ref (eAt K ns m)) = some (subE n m))))
structure ExF (K : PySem.W.Frag) (eA : Nat → Addr) (N : Nat) : Prop where
  cc : ∀ n, n < N → ExcC K (eA n)
  ve : ∀ n, n < N → PySem.W.kitOne K (.ref (eA n)) (.type "ValueError") = some true
  own : ∀ n m, n < N → m < N → PySem.W.kitOne K (.ref (eA n)) (.ref (eA m)) = some (subE n m)
  exm : ∀ n m, n < N → m < N → PySem.W.exmOne K (.ref (eA n)) (.ref (eA m)) = some (subE n m)
theorem exB_ok {ns : List Str} {K : PySem.W.Frag} (h : exB ns K = true) : ExF K (eAt K ns) ns.length := by
  have h1 : ∀ n, n < ns.length → excCB K (eAt K ns n) = true ∧ PySem.W.kitOne K (.ref (eAt K ns n)) (.type "ValueError") = some true ∧ ∀ m, m < ns.length → PySem.W.kitOne K (.ref (eAt K ns n)) (.ref (eAt K ns m)) = some (subE n m) ∧ PySem.W.exmOne K (.ref (eAt K ns n)) (.ref (eAt K ns m)) = some (subE n m) := fun n hn => by
    have := List.all_eq_true.mp h n (List.mem_range.mpr hn)
    simp only [Bool.and_eq_true, decide_eq_true_eq] at this
    refine ⟨this.1, this.2.1, fun m hm => ?_⟩
    have := List.all_eq_true.mp this.2.2 m (List.mem_range.mpr hm)
    simpa only [Bool.and_eq_true, decide_eq_true_eq] using this
  exact ⟨fun n hn => excCB_ok (h1 n hn).1, fun n hn => (h1 n hn).2.1, fun n m hn hm => ((h1 n hn).2.2 m hm).1, fun n m hn hm => ((h1 n hn).2.2 m hm).2⟩

/-- a class that can be raised, by its name -/
def Rsb (K : PySem.W.Frag) (mg : Str → Option Value) (c : Cn) (x : Str) (n : Nat) : Prop := mg x = some (.ref (c.eA n)) ∧ PySem.W.excIn K (c.eA n) He.veBase "ValueError.__new__" = true ∧ PySem.W.keepIn K (.ref (c.eA n)) = true ∧
  PySem.W.subIn K (.ref (c.eA n)) (.type "BaseException") = some true ∧ PySem.W.typeIn K (.ref (c.eA n)) = some (.type "type")
theorem Rsb.of {K : PySem.W.Frag} {mg : Str → Option Value} {c : Cn} {x : Str} {n : Nat} (g : mg x = some (.ref (c.eA n))) (e : c.eA n = He.ga K x) (f : (He.Fa.exc x).ok K = true) : Rsb K mg c x n := by
  obtain ⟨h1, h2, h3, h4⟩ := He.exc_ok f
  rw [← e] at h1 h2 h3 h4
  exact ⟨g, h1, h2, h3, h4⟩
abbrev AlZ : Type := He.AlD × Bool
def obsZ (fa : List He.Fa) (fn : List He.DefD) (ex : PySem.W.Frag → Bool) (K : PySem.W.Frag) : AlZ := (He.obsD fa fn K, ex K)
def valZ (fn : List He.DefD) : AlZ := (He.valD fn, true)
structure SaysZ (fa : List He.Fa) (fn : List He.DefD) (ex : PySem.W.Frag → Bool) (K : PySem.W.Frag) : Prop where
  d : He.SaysD fa fn K
  more : ex K = true
def obsZG (n : Nat) (fa : List He.Fa) (fn : List He.DefD) (ex : PySem.W.Frag → Bool) (g : Addr → Option Obj) : AlZ := obsZ fa fn ex (He.frG g (He.asD g n))
def hookZ (n : Nat) (fa : List He.Fa) (fn : List He.DefD) (ex : PySem.W.Frag → Bool) : PySem.W.Hook where
  α := AlZ
  obs := fun s => obsZG n fa fn ex s.heap.get?
  val := fun _ => valZ fn
  says := fun _ h => ∃ K : PySem.W.Frag, K.In h ∧ SaysZ fa fn ex K
  of := fun _ _ e => ⟨_, He.frG_in, ⟨congrArg (fun z : AlZ => z.1) e, congrArg (fun z : AlZ => z.2) e⟩⟩
  keeps := fun _ _ _ ⟨K, hK, c⟩ k => ⟨K, PySem.W.Frag.In.keeps hK k, c⟩
theorem obsZG_eq {n : Nat} {fa : List He.Fa} {fn : List He.DefD} {ex : PySem.W.Frag → Bool} {g : Addr → Option Obj} {s : Shared} (h : ∀ a, g a = s.heap.get? a) : obsZG n fa fn ex g = (hookZ n fa fn ex).obs s := by
  have e : g = s.heap.get? := funext h
  rw [e] <;> rfl

def sraise (n : Nat) : Sv := fun σ A => some (.ex ⟨n⟩ σ A)
def stry (m i N : Nat) (b s : Sv) : Sv := fun σ A => match b σ A with
  | some (.ex x σ1 A1) => if x.c < N then
      (if subE x.c m = true then (match s (σ1.set i (some (.exc x.c))) A1 with
        | some (.nx σ2 A2) => some (.nx (σ2.set i none) A2)
        | some (.bk σ2 A2) => some (.bk (σ2.set i none) A2)
        | some (.ct σ2 A2) => some (.ct (σ2.set i none) A2)
        | some (.rt d A2) => some (.rt d A2)
        | _ => none) else some (.ex x σ1 A1)) else none
  | r => r
section
variable {X : Cx} {c : Cn} {W : WX} {x n : Str} {m : Str} {k i N : Nat} {j : Nat} {p p2 np pos pos' pos2 : Pos} {body suite : List Stmt} {b₀ : Stmt} {fb fs : Sv}
theorem s_raise (hc : X.calm = true) (tk : Takes X W) (hg : Gl X x) (r : Rsb X.K X.mg c x k) (hdb : (x == ("__debug__" : Str)) = false := by decide) :
    PS X (.Raise (some (.Call (.Name x p) [.Constant (.str m) j p2] [] pos)) none pos') (tS c W (sraise k)) :=
  (ps_raise hc tk (pmk_own PySem.F.excBase_ValueError r.2.1 r.1 r.2.2.1 (raises_own r.2.2.2.1 r.2.2.2.2) hg hdb)).zm fun D σ H ⟨ρ, A, σd, R, S, h⟩ => h ρ H σ R .refl S _ _ ⟨rfl, rfl⟩
theorem s_try (hs : X.stack = X.env :: X.outer) (hf : X.env.frame = some X.env.locals) (hex : X.ex = []) (hN : X.N.Nodup) (hi : X.N[i]? = some n) (hln : X.env.kindOf n = some .local) (hg : Gl X x) (hm : X.mg x = some (.ref (c.eA k))) (hdb : (x == ("__debug__" : Str)) = false) (F : ExF X.K c.eA N) (hk : k < N) (tk : Takes X W)
    (hb : ∀ (W : WX) (pn : List (Addr × Obj)) (xe : Value → Shared → Prop), Takes (X.tr pn xe) W → PassesOwn (model X.prog X.w) X.A X.env xe → PSs (X.tr pn xe) body (tS c W fb))
    (hsu : ∀ (a : Addr) (pn : List (Addr × Obj)), PSs (X.suite a pn) (b₀ :: suite) (tS c WN fs)) :
    PS X (.Try body [.ExceptHandler (some (.Name x np)) (some n) (b₀ :: suite) pos'] [] [] pos) (tS c W (stry k i N fb fs)) :=
  (ps_try_asT hs hf hex hN hi hln (x := x) (c := .ref (c.eA k)) ⟨hg, hdb, .inl hm⟩ tk (tb := fun W => tS c W fb) hb hsu).zm fun D σ H ⟨ρ, A, σd, R, S, h⟩ => ⟨ρ, A, σd, R, S, by
    unfold stry at h
    revert h
    cases fb σd A with
    | none => exact fun h => h
    | some r => cases r with
      | nx σd A => exact fun h => h
      | bk σd A => exact fun h => h
      | ct σd A => exact fun h => h
      | rt d A => exact fun h => h
      | ex y σ1 A1 =>
        intro h ρ1 H1 σ1' R1 s1 S1 cls d hx
        dsimp only at h
        split at h
        · rename_i hy
          obtain ⟨e1, e2⟩ := hx
          refine ⟨subE y.c k, by rw [e1]; exact F.exm y.c k hy hk, fun hb a oe na hz hfd => ?_, fun hb => ?_⟩
          · rw [if_pos hb] at h
            obtain ⟨R2, s2, _⟩ := R1.laid (ho := .frz oe (.ext fun _ => True)) na
            have re : Rv c ρ1 (upd H1 a (.frz oe (.ext fun _ => True))) (.exc y.c) (.ref a) := .exc upd_same ⟨by rw [hz.1, e1], by rw [hz.2, e2], hfd⟩
            refine ⟨ρ1, A1, σ1.set i (some (.exc y.c)), R2, (S1.to R1 s2).set re i, ?_⟩
            have h2 := LdS.to (LdS.to h s1) s2
            revert h2
            cases fs (σ1.set i (some (.exc y.c))) A1 with
            | none => exact fun h => h
            | some r => cases r with
              | nx σ2 A2 => exact fun h ρ3 H3 σ3 R3 s3 S3 => h ρ3 H3 _ R3 s3 (S3.setNone i)
              | bk σ2 A2 => exact fun h ρ3 H3 σ3 R3 s3 S3 => h ρ3 H3 _ R3 s3 (S3.setNone i)
              | ct σ2 A2 => exact fun h ρ3 H3 σ3 R3 s3 S3 => h ρ3 H3 _ R3 s3 (S3.setNone i)
              | rt d A2 => exact fun h => h
              | ex z σ2 A2 => exact fun h => h.elim
          · rw [if_neg (by rw [hb]; decide)] at h
            exact h ρ1 H1 σ1' R1 s1 S1 cls d ⟨e1, e2⟩
        · exact h.elim⟩
end

/-- classes asked: m's; ValueError -/
inductive Tcl where | own (m : Nat) | ve
def tclB (n : Nat) : Tcl → Bool
  | .own m => subE n m
  | .ve => true
def Tcl.v (c : Cn) : Tcl → Value
  | .own m => .ref (c.eA m)
  | .ve => .type "ValueError"
def Tcl.x (c : Cn) : Tcl → V
  | .own m => .ref (c.eA m)
  | .ve => .ty "ValueError"
def Tcl.lt (N : Nat) : Tcl → Bool
  | .own m => decide (m < N)
  | .ve => true
theorem Tcl.cls (c : Cn) (t : Tcl) : ClsV (t.x c) (t.v c) := by cases t with
  | own m => exact .own _
  | ve => exact .ty _
def zisx (N : Nat) (ts : List Tcl) (a : Ev D) : Ev D := fun σ => mb (a σ) fun x A => match x with
  | .exc n => if n < N then some (.ok (.bl (ts.any (tclB n))) A) else none
  | _ => none
/-- isinstance(x, ..) of an error that is known -/
def rIsX (K : PySem.W.Frag) : List V → Hp → VK → Prop := fun xs H Q => ∃ (a C : Addr) (o : Obj) (u : HO) (c : V) (cv : Value) (b : Bool), xs = [.ref a, c] ∧ H a = some (.frz o u) ∧ (o.cls = .ref C ∧ o.dict = none ∧ ∃ vs, o.data = .fields vs) ∧ ExcC K C ∧ ClsV c cv ∧ PySem.W.kitOne K (.ref C) cv = some b ∧ Q (.bl b) H
def rIsXT (K : PySem.W.Frag) : List V → Hp → VK → Prop := fun xs H Q => ∃ (a C tp : Addr) (o : Obj) (u : HO) (cs : List V) (us : List Value) (b : Bool), xs = [.ref a, .ref tp] ∧ H a = some (.frz o u) ∧ (o.cls = .ref C ∧ o.dict = none ∧ ∃ vs, o.data = .fields vs) ∧ ExcC K C ∧ H tp = some (.tup cs) ∧ Paired ClsV cs us ∧ PySem.W.kitAny K (.ref C) us = some b ∧ Q (.bl b) H
section
variable {X : Cx}
theorem inst_of {o : Obj} {C a : Addr} {h : Heap} (e : h.get? a = some o) (ho : o.cls = .ref C ∧ o.dict = none ∧ ∃ vs, o.data = .fields vs) : PySem.W.InstAt h a o C none := by
  obtain ⟨oc, od, oda, osl⟩ := o
  obtain ⟨h1, h2, vs, h3⟩ := ho
  dsimp only at h1 h2 h3
  subst h1 h2 h3
  exact ⟨e, rfl, rfl, trivial⟩
theorem call_isX : CallR X (.builtin "isinstance") (rIsX X.K) := by
  intro pins s σ H xs us Q I r ⟨a, C, o, u, c, cv, b, e1, ha, ho, hC, hc, hk, q⟩
  subst e1
  obtain ⟨u1, u2, rfl, r1, r2⟩ := vals2 r
  cases (show u1 = Value.ref a from r1)
  have e2 := hc.eq r2
  subst e2
  obtain ⟨hob, _⟩ := I.hok a _ ha
  exact PySem.W.kia_one (PySem.W.handS_kitx_exc hC.hg hC.hk hC.hs hC.hd hC.ha hC.hn hC.ht hC.hm) I.kIn (inst_of hob ho) hk (fun z => nomatch z) fun tk => ⟨.bl b, H, I.tok tk, rfl, q⟩
theorem call_isXT : CallR X (.builtin "isinstance") (rIsXT X.K) := by
  intro pins s σ H xs us Q I r ⟨a, C, tp, o, u, cs, ws, b, e1, ha, ho, hC, hT, hc, hk, q⟩
  subst e1
  obtain ⟨u1, u2, rfl, r1, r2⟩ := vals2 r
  cases (show u1 = Value.ref a from r1)
  cases (show u2 = Value.ref tp from r2)
  obtain ⟨hob, _⟩ := I.hok a _ ha
  obtain ⟨_, its, rv, o2, h1, h2, n, h3⟩ := (show ObjOk X.prog X.w H s.heap tp (.tup cs) from I.hok tp _ hT)
  have e3 := ClsV.all hc rv
  subst e3
  obtain ⟨oc, od, dt, sl⟩ := o2
  simp only at h2 h3
  subst h2 h3
  exact PySem.W.kia_tup (PySem.W.handS_kitx_exc hC.hg hC.hk hC.hs hC.hd hC.ha hC.hn hC.ht hC.hm) I.kIn (inst_of hob ho) h1 hk (fun z => nomatch z) fun tk => ⟨.bl b, H, I.tok tk, rfl, q⟩
end
theorem kit_tcl {c : Cn} {K : PySem.W.Frag} {N n : Nat} (F : ExF K c.eA N) (hn : n < N) {t : Tcl} (ht : t.lt N = true) : PySem.W.kitOne K (.ref (c.eA n)) (t.v c) = some (tclB n t) := by
  cases t with
  | own m => exact F.own n m hn (of_decide_eq_true ht)
  | ve => exact F.ve n hn
theorem kit_tcls {c : Cn} {K : PySem.W.Frag} {N n : Nat} (F : ExF K c.eA N) (hn : n < N) : ∀ {ts : List Tcl}, ts.all (·.lt N) = true → PySem.W.kitAny K (.ref (c.eA n)) (ts.map (·.v c)) = some (ts.any (tclB n))
  | [], _ => rfl
  | t :: ts, h => by
    rw [List.all_cons, Bool.and_eq_true] at h
    rw [List.map_cons, PySem.W.kitAny, kit_tcl F hn h.1, List.any_cons]
    cases tclB n t with
    | true => rfl
    | false => exact kit_tcls F hn h.2
theorem tcls_cls (c : Cn) : ∀ ts : List Tcl, Paired ClsV (ts.map (·.x c)) (ts.map (·.v c))
  | [] => .nil
  | t :: ts => .cons (t.cls c) (tcls_cls c ts)
/-- a class by its name -/
def PCl (X : Cx) (c : Cn) (e : Expr) (t : Tcl) : Prop := PE X e fun _ H Q => Q (t.x c) H
section
variable {X : Cx} {c : Cn} {W : WX} {e : Expr} {x : Str} {m N : Nat} {fa : Ev D} {p p2 pos : Pos} {ts : List Tcl} {es : List Expr}
theorem pcl_own (hg : Gl X x) (hm : X.mg x = some (.ref (c.eA m))) (hd : (x == ("__debug__" : Str)) = false := by decide) : PCl X c (.Name x p) (.own m) := pe_glob (v := .ref (c.eA m)) hg hm rfl hd
theorem pcl_ve (hg : Gl X "ValueError") (hm : X.mg "ValueError" = none) : PCl X c (.Name "ValueError" p) .ve := pe_bltn hg hm (by decide +kernel) (show RelV (.ty "ValueError") (.type "ValueError") from rfl) (by decide) (by decide)
inductive PCls (X : Cx) (c : Cn) : List Expr → List Tcl → Prop where
  | nil : PCls X c [] []
  | cons {e : Expr} {t : Tcl} {es : List Expr} {ts : List Tcl} : PCl X c e t → starEach (e :: es) X.env = (false, eval e X.env) :: starEach es X.env → PCls X c es ts → PCls X c (e :: es) (t :: ts)
theorem PCls.pa : ∀ {es : List Expr} {ts : List Tcl}, PCls X c es ts → PA X es fun _ H Q => Q (ts.map (·.x c)) H
  | _, _, .nil => ⟨fun pos pins s σ H Q I h => pa_nil.run pos pins s σ H Q I h⟩
  | _, _, .cons h hs t => ⟨fun pos pins s σ H Q I h0 => (pa_cons h (PCls.pa t) hs).run pos pins s σ H Q I h0⟩
theorem z_isx (hK : c.K = X.K) (F : ExF X.K c.eA N) {t : Tcl} (ht : t.lt N = true) (hg : Gl X "isinstance") (hm : X.mg "isinstance" = none) (h : PE X e (tE c W fa)) {e2 : Expr} (h2 : PCl X c e2 t)
    (na : starEach [e, e2] X.env = (false, eval e X.env) :: starEach [e2] X.env := by rfl) (nb : starEach [e2] X.env = (false, eval e2 X.env) :: starEach [] X.env := by rfl)
    (hpl : (backTo pos (starEach [e2] X.env)).any (·.1) = false := by rfl) :
    PE X (.Call (.Name "isinstance" p) [e, e2] [] pos) (tE c W (zisx N [t] fa)) :=
  (pe_callB call_isX hg hm boot_isinstance (pa_cons h (pa1 h2 nb) na) (he := na) (hpl := hpl)).zm fun σ H Q ⟨ρ, A, σd, R, S, h⟩ =>
    show tE c W fa σ H _ from one R S h fun x v ρ1 A1 H1 R1 s1 S1 rv h1 => by
    cases rv <;> first | exact False.elim h1 | skip
    rename_i n a o u ha ho
    dsimp only at h1
    obtain ⟨hn, h3⟩ := iteP R1 h1
    refine ⟨a, c.eA n, o, u, t.x c, t.v c, tclB n t, rfl, ha, ho, F.cc n hn, t.cls c, kit_tcl F hn ht, ?_⟩
    have := h3 _ (.bl _)
    simpa using this
theorem z_isxt {kt : Nat} (hK : c.K = X.K) (F : ExF X.K c.eA N) (ht : ts.all (·.lt N) = true) (hg : Gl X "isinstance") (hm : X.mg "isinstance" = none) (h : PE X e (tE c W fa)) (h2 : PCls X c es ts) (hl : ts.length ≤ 100)
    (na : starEach [e, .Tuple es kt p2] X.env = (false, eval e X.env) :: starEach [.Tuple es kt p2] X.env := by rfl) (nb : starEach [.Tuple es kt p2] X.env = (false, eval (.Tuple es kt p2) X.env) :: starEach [] X.env := by rfl)
    (hpl : (backTo pos (starEach [.Tuple es kt p2] X.env)).any (·.1) = false := by rfl) :
    PE X (.Call (.Name "isinstance" p) [e, .Tuple es kt p2] [] pos) (tE c W (zisx N ts fa)) :=
  (pe_callB call_isXT hg hm boot_isinstance (pa_cons h (pa1 (pe_tup h2.pa) nb) na) (he := na) (hpl := hpl)).zm fun σ H Q ⟨ρ, A, σd, R, S, h⟩ =>
    show tE c W fa σ H _ from one R S h fun x v ρ1 A1 H1 R1 s1 S1 rv h1 => by
    cases rv <;> first | exact False.elim h1 | skip
    rename_i n a o u ha ho
    dsimp only at h1
    obtain ⟨hn, h3⟩ := iteP R1 h1.later
    refine ⟨by rw [List.length_map, sizeLine_eq]; omega, fun q nq => ?_⟩
    obtain ⟨R2, s2, _⟩ := R1.laid (ho := .tup (ts.map (·.x c))) nq
    refine ⟨a, c.eA n, q, o, u, ts.map (·.x c), ts.map (·.v c), ts.any (tclB n), rfl, by rw [upd_ne (ne_of_none ha nq)]; exact ha, ho, F.cc n hn, upd_same, tcls_cls c ts, kit_tcls F hn ht, h3 ρ1 _ R2 s2 _ (.bl _)⟩
end
end Z

noncomputable section
set_option maxHeartbeats 4000000
namespace EnT
open PySem PySem.Spec PyProof.Rows
open AutoSeq1 (wpAny_loadPart')
theorem meets_enumerate_newT (l : Addr) (items : Array Value) (n : Nat) (dct : Option Addr) (sl : Array (Option Value)) :
    Meets (Builtin.«enumerate.__new__» ⟨[.type "enumerate", .ref l], []⟩) (fun _ R s => s.heap.get? l = some { cls := .type "tuple", dict := dct, data := .seq items n, slots := sl } ∧
      R (.ok (.ret (.ref (s.heap.push { cls := .type "tuple_iterator", data := .fields #[.ref l, .int 0 0] }).objs.size)))
        { s with heap := (s.heap.push { cls := .type "tuple_iterator", data := .fields #[.ref l, .int 0 0] }).push { cls := .type "enumerate", data := .fields #[.none, .bool false, .ref s.heap.objs.size, rawInt 0, .none, .none] } }) :=
  .of_wp fun prog w A R s h => by
    obtain ⟨hp, g, d, tk, os⟩ := s; obtain ⟨hl, h⟩ := h
    have hsub := sub_enumerate
    have hL : Heap.IsTuple (Shared.heap ⟨hp, g, d, tk, os⟩) l items := ⟨_, hl, rfl, n, rfl⟩
    wp_walk using wpAny_loadPart' hl
    refine wpAny_stack_any fun st => wpAny_pure ?_
    split
    · rename_i c _ _ _ _ _
      cases (c == Value.type "enumerate")
      · wp_walk using wpAny_loadPart' hl, wpAny_pyIter_tuple hL
        exact ⟨_, rfl, h⟩
      · wp_walk using wpAny_loadPart' hl, wpAny_pyIter_tuple hL
        exact ⟨_, rfl, h⟩
    · wp_walk using wpAny_loadPart' hl, wpAny_pyIter_tuple hL
      exact ⟨_, rfl, h⟩
section
variable {prog : Program} {w : World} {A : Around} {E : Value → Shared → Prop} {s : Shared}
theorem call_enumerate_tuple {l : Addr} {items : Array Value} {Q : Value → Shared → Prop} (hL : s.heap.IsTuple l items)
    (h : ∀ h', IsEnum h' (s.heap.objs.size + 1) s.heap.objs.size 0 .none → h'.IsTupleIter s.heap.objs.size l 0 → h'.objs.size = s.heap.objs.size + 2 →
      (∀ b o, s.heap.get? b = some o → h'.get? b = some o) → Q (.ref (s.heap.objs.size + 1)) { s with heap := h' }) :
    wpAny (model prog w) A (call (.type "enumerate") [.ref l]) Q E s := by
  obtain ⟨⟨c, dct, dt, sl⟩, hl, hc, n, hd⟩ := hL
  replace hc : c = .type "tuple" := hc
  replace hd : dt = .seq items n := hd
  subst hc hd
  refine callType_new F.called_enumerate (by decide) (F.typeCall_enumerate_1 _) (F.newCall_enumerate_1 _) (fun obj => F.args_object_init_2 obj _) F.entry_enumerate_new
    (meets_enumerate_newT l items n dct sl) ⟨hl, ?_⟩
  have hz : (s.heap.push { cls := .type "tuple_iterator", data := .fields #[.ref l, .int 0 0] }).objs.size = s.heap.objs.size + 1 := Heap.size_push ..
  show _ ∧ _
  rw [hz]
  have he : IsEnum ((s.heap.push { cls := .type "tuple_iterator", data := .fields #[.ref l, .int 0 0] }).push
      { cls := .type "enumerate", data := .fields #[.none, .bool false, .ref s.heap.objs.size, rawInt 0, .none, .none] }) (s.heap.objs.size + 1) s.heap.objs.size 0 .none := by
    have := Heap.get?_push_size (s.heap.push { cls := .type "tuple_iterator", data := .fields #[.ref l, .int 0 0] })
      (o := { cls := .type "enumerate", data := .fields #[.none, .bool false, .ref s.heap.objs.size, rawInt 0, .none, .none] }) rfl
    rw [hz] at this; exact this
  refine ⟨⟨_, he, rfl⟩, h _ he ⟨_, Heap.get?_push_of_some _ (Heap.get?_push_size _ rfl), rfl, rfl⟩ (by rw [Heap.size_push, hz]) fun b o x => Heap.get?_push_of_some _ (Heap.get?_push_of_some _ x)⟩
end
end EnT
namespace L2
open PySem PySem.Spec PyProof.Rows
/-- the tuple at a, each item in a new pair -/
def IteT (K : PySem.W.Frag) (a : Addr) : It :=
  ⟨fun i H => ∃ (xs : List V) (x : V), SqT K H a xs ∧ xs[i]? = some x, fun i H v H' => ∃ T x, v = .ref T ∧ H T = none ∧ H' = upd H T (.tup [.int (i : Nat), x]) ∧ ∀ xs, SqT K H a xs → xs[i]? = some x, fun i H => ∃ xs : List V, SqT K H a xs ∧ xs.length ≤ i⟩
theorem turn_enumT {P : Program} {w : World} {K : PySem.W.Frag} {elts : List Expr} {kk : Nat} {tpos : Pos} (a e it : Addr) :
    Turn P w K (.Tuple elts kk tpos) (IteT K a) [e, it] e (fun i h => (∃ old, IsEnum h e it ((i : Nat) : Int) old) ∧ h.IsTupleIter it a i ∧ e ≠ it ∧ a ≠ it ∧ a ≠ e) where
  mem := by simp
  obj := fun i h st b hb => by
    obtain ⟨⟨old, he⟩, ⟨o, ho, hc, hd⟩, _⟩ := st
    have e' : b = e ∨ b = it := by simpa using hb
    rcases e' with z | z
    · rw [z]; exact ⟨_, he, fun v q => nomatch q⟩
    · rw [z]; exact ⟨o, ho, fun v q => by rw [hd] at q; cases q⟩
  keep := fun i h h' st k => let ⟨⟨old, he⟩, hi, hne⟩ := st; ⟨⟨old, k e (by simp) _ he⟩, hi.at fun o q => k it (by simp) o q, hne⟩
  item := by
    intro X hP hw hK hc i pins s σ H E I hf st hg
    subst hP hw hK
    obtain ⟨⟨old, he⟩, hit, hne, hai, hae⟩ := st
    obtain ⟨xs, x, hq, hx⟩ := hg
    obtain ⟨its, rv, p, hz⟩ := I.tuple hq
    obtain ⟨u, hu, ru⟩ := rv.get hx
    have hel : e < s.heap.objs.size := Heap.lt_size he
    have hil : it < s.heap.objs.size := by obtain ⟨_, q, _⟩ := hit; exact Heap.lt_size q
    have D := Draws.tuple (prog := X.prog) (w := X.w) (A := X.A.in1) (by simpa using I.ok.hd hc) it a hai its.toArray
    have hlt : i < its.toArray.size := (Array.getElem?_eq_some_iff.mp (show its.toArray[i]? = some u by simpa using hu)).1
    refine wpAny_pyNext_enum_itemD D he ⟨hit, p⟩ hlt hne (by simp [hne, Ne.symm hae]) fun y h' tk hy ho hst hT hsz hk => ?_
    have ey : y = u := by
      have hy' : its.toArray[i]? = some y := hy
      rw [show its.toArray[i]? = some u by simpa using hu] at hy'
      exact (Option.some.inj hy').symm
    subst ey
    refine ⟨_, rfl, wpAny_letOwnedTupleGo_enum (s := { s with heap := h', toks := tk + 1 }) ho fun h'' he' sb => ?_⟩
    have hT2 : h''.get? s.heap.objs.size = some { cls := .type "tuple", data := .seq #[.int i tk, y] } := (sb.2 _ (Nat.ne_of_gt hel)).trans hT
    have new : ObjOk X.prog X.w (upd H s.heap.objs.size (.tup [.int (i : Nat), x])) h'' s.heap.objs.size (.tup [.int (i : Nat), x]) :=
      ⟨by show 2 ≤ sizeLine; decide, [.int i tk, y], .cons ⟨_, rfl⟩ (.cons ru .nil), ⟨_, hT2, rfl, _, rfl⟩⟩
    have I1 : Inv X pins σ (upd H s.heap.objs.size (.tup [.int (i : Nat), x])) { s with heap := h'', toks := tk + 1 } :=
      I.turnedNew (ch := [e, it]) (fun b ob hb q => (sb.2 b (fun z => hb (by simp [z]))).trans (hk b ob (fun z => hb (by simp [z])) (fun z => hb (by simp [z])) q)) hf (Nat.le_refl _) new
    refine ⟨.ref s.heap.objs.size, _, I1, rfl, ⟨_, x, rfl, I.hok.fresh (Nat.le_refl _), rfl, fun ys hy => by rw [I.tuple_inj hy hq]; exact hx⟩, ⟨⟨y, ?_⟩, hst.1.at fun o q => (sb.2 it (Ne.symm hne)).trans q, hne, hai, hae⟩, fun b hb => ?_⟩
    · have e1 : ((i + 1 : Nat) : Int) = (i : Int) + 1 := by omega
      rw [e1]; exact he'
    · have hb' : b < s.heap.objs.size := by
        have e' : b = e ∨ b = it := by simpa using hb
        rcases e' with z | z
        · rw [z]; exact hel
        · rw [z]; exact hil
      rw [upd_ne (Nat.ne_of_lt hb')]
      exact (hf b hb).1
  done := by
    intro X hP hw hK hc i pins s σ H E I hf st hg
    subst hP hw hK
    obtain ⟨⟨old, he⟩, hit, hne, hai, hae⟩ := st
    obtain ⟨xs, hq, hx⟩ := hg
    obtain ⟨its, rv, p, hz⟩ := I.tuple hq
    obtain ⟨f0, f1, f2, f3, f4, f5⟩ := hf it (by simp)
    have hl := rv.length
    have hT : s.TypeIs (.ref e) "enumerate" := ⟨_, he, rfl⟩
    unfold pyNext
    refine wpAny_bind (wpAny_attempt (wpAny_callSpecial?_slot (name := Str.ofString "__next__") hT PySem.F.slot_enumerate_next
      (wpAny_call_entry PySem.F.slot_enumerate_next hT PySem.F.entry_enumerate_next ?_ (PySem.F.args_enumerate_next_1 _))))
    show wpAny _ _ (field (.ref e) 2 >>= _) _ _ _
    refine wpAny_bind (wpAny_field he rfl (x := .ref it) rfl ?_)
    refine wpAny_bind (wpAny_nextOf_tuple_end (by simpa using I.ok.hd hc) hit p (by simp; omega) fun h' x he' hx' => ?_)
    obtain ⟨o, ho, hcl⟩ := hx'
    refine wpAny_bind (wpAny_isInstance (T := "StopIteration") (b := true) ⟨o, ho, hcl⟩ isSubtype_stop ?_)
    exact wpAny_pure ⟨rfl, I.turned (t' := s.toks) (fun b o hb q => he' b o hb q) f0 f1 f3 f4 f5⟩
  self := fun A i s Q E st h => let ⟨⟨_, he⟩, _⟩ := st; wpAny_pyIter_enum he h
def iEnumA (K : PySem.W.Frag) (ta : TA) : TI := fun σ H R => ta σ H fun vs H1 => ∃ a xs, vs = [.ref a] ∧ ((SqL K H1 a xs ∧ R (Ite K a) H1) ∨ (SqT K H1 a xs ∧ R (IteT K a) H1))
theorem pi_enumA {X : Cx} {e : Expr} {ta : TA} {p pos tpos : Pos} {elts : List Expr} {kk : Nat} (hg : Gl X "enumerate") (hm : X.mg "enumerate" = none) (ha : PA X [e] ta) (hs : starEach [e] X.env = [(false, eval e X.env)] := by rfl) :
    PI X (.Tuple elts kk tpos) (.Call (.Name "enumerate" p) [e] [] pos) (iEnumA X.K ta) := by
  refine ⟨fun pins s σ H R I h => ?_⟩
  refine Call_ (ld_blt I hg hm boot_enumerate (PyProof.Rows.callWith_type1 (thn (ha.run pos pins s σ H _ I h) fun us s1 ⟨vs, H1, I1, r1, q1⟩ => ?_) hs rfl))
  obtain ⟨a, xs, ex, q1⟩ := q1
  subst ex
  cases r1 with
  | cons r rr =>
    cases rr
    cases r
    have fresh2 : ∀ b ∈ [s1.heap.objs.size + 1, s1.heap.objs.size], FpOk X pins H1 b := fun b hb => by
      have e' : b = s1.heap.objs.size + 1 ∨ b = s1.heap.objs.size := by simpa using hb
      have hle : s1.heap.objs.size ≤ b := by
        rcases e' with z | z
        · rw [z]; exact Nat.le_add_right _ _
        · rw [z]; exact Nat.le_refl _
      exact I1.fpOk hle (I1.hok.fresh hle)
    rcases q1 with ⟨hq, q⟩ | ⟨hq, q⟩
    · obtain ⟨its, rv, p', hz⟩ := I1.list hq
      refine call_enumerate_list p'.isList fun h' he hit hsz hk => wpAny_pyIter_enum he ?_
      have I2 : Inv X pins σ H1 { s1 with heap := h' } := I1.kept (t' := s1.toks) hk
      exact ⟨s1.heap.objs.size + 1, [s1.heap.objs.size + 1, s1.heap.objs.size], _, _, H1, rfl, I2, turn_enum a (s1.heap.objs.size + 1) s1.heap.objs.size, ⟨⟨.none, he⟩, hit, Nat.succ_ne_self _⟩, fresh2, q⟩
    · obtain ⟨its, rv, p', hz⟩ := I1.tuple hq
      have hal : a < s1.heap.objs.size := by obtain ⟨_, q, _⟩ := id p'; exact Heap.lt_size q
      refine EnT.call_enumerate_tuple (show s1.heap.IsTuple a its.toArray from p') fun h' he hit hsz hk => wpAny_pyIter_enum he ?_
      have I2 : Inv X pins σ H1 { s1 with heap := h' } := I1.kept (t' := s1.toks) hk
      exact ⟨s1.heap.objs.size + 1, [s1.heap.objs.size + 1, s1.heap.objs.size], _, _, H1, rfl, I2, turn_enumT a (s1.heap.objs.size + 1) s1.heap.objs.size, ⟨⟨.none, he⟩, hit, Nat.succ_ne_self _, Nat.ne_of_lt hal, Nat.ne_of_lt (Nat.lt_succ_of_lt hal)⟩, fresh2, q⟩
end L2
namespace Z
open PySem PySem.Spec PyProof.Rows L2
section
variable {c : Cn} {ρ ρ' : List Addr} {A : Hh} {H H' : Hp} {σd : Sl} {σ : L2.St} {W : WX}
theorem enum_at {xs : List D} {i : Nat} {d : D} (h : (enumD xs)[i]? = some d) : ∃ x, xs[i]? = some x ∧ d = .tup [.int (i : Nat), x] := by
  unfold enumD at h
  rw [List.getElem?_map] at h
  obtain ⟨z, h1, h2⟩ := Option.map_eq_some_iff.mp h
  rw [List.getElem?_zipIdx] at h1
  obtain ⟨x, h3, h4⟩ := Option.map_eq_some_iff.mp h1
  subst h4 h2
  exact ⟨x, h3, by simp⟩
theorem enumD_len (xs : List D) : (enumD xs).length = xs.length := by simp [enumD]
theorem walk_el {a : Addr} {xs : List D} {w : Wt} {ρ0 : List Addr} {A0 : Hh} {H0 : Hp} (h : LstAt c ρ0 H0 a xs w) (R0 : Rel c ρ0 A0 H0) : Walk c ρ0 H0 (Ite c.K a) (enumD xs) w true := fun ρ A H R s hw => by
  obtain ⟨vs, hq, r⟩ := (h.later R0 s R hw).sq
  refine ⟨fun i d hd => ?_, vs, hq, by rw [enumD_len, r.length]; exact Nat.le_refl _⟩
  obtain ⟨x, hx, rfl⟩ := enum_at hd
  obtain ⟨v, hv, rv⟩ := r.get hx
  refine ⟨⟨vs, v, hq, hv⟩, fun z H' ⟨T, x', e1, n, e2, k1⟩ => ?_⟩
  have e3 := k1 vs hq
  rw [hv] at e3
  cases e3
  subst e1 e2
  have := pair_ok R n (Rv.int (i : Nat)) rv
  simpa using this
theorem walk_et {a : Addr} {vs : List V} {xs : List D} {ρ0 : List Addr} {A0 : Hh} {H0 : Hp} (h : FzT c.K H0 a vs) (r0 : Rvs c ρ0 H0 xs vs) (R0 : Rel c ρ0 A0 H0) : Walk c ρ0 H0 (IteT c.K a) (enumD xs) [] true := fun ρ A H R s hw => by
  have hq := (R0.fzt s.fr _ _ h).sq
  have r := r0.to R0 s
  refine ⟨fun i d hd => ?_, vs, hq, by rw [enumD_len, r.length]; exact Nat.le_refl _⟩
  obtain ⟨x, hx, rfl⟩ := enum_at hd
  obtain ⟨v, hv, rv⟩ := r.get hx
  refine ⟨⟨vs, v, hq, hv⟩, fun z H' ⟨T, x', e1, n, e2, k1⟩ => ?_⟩
  have e3 := k1 vs hq
  rw [hv] at e3
  cases e3
  subst e1 e2
  have := pair_ok R n (Rv.int (i : Nat)) rv
  simpa using this
end
section
variable {X : Cx} {c : Cn} {W : WX} {tg e a b : Expr} {elts : List Expr} {kk : Nat} {p pos tpos : Pos} {fa fb : Ev D} {qa : Ev (List D)} {ua ub : Ev (List D × Wt)}
theorem i_enum (hK : c.K = X.K) (hg : Gl X "enumerate") (hm : X.mg "enumerate" = none) (h : PE X e (tE c W fa)) (hs : starEach [e] X.env = (false, eval e X.env) :: starEach [] X.env := by rfl) :
    PI X (.Tuple elts kk tpos) (.Call (.Name "enumerate" p) [e] [] pos) (tI c W true (zenum (zof fa))) :=
  (pi_enumA hg hm (pa1 h hs) hs).zm fun σ H R ⟨ρ, A, σd, Rl, S, hl⟩ => by
    have e0 : zenum (zof fa) σd = mb (fa σd) fun x => mb (fun A => (seqD A x).map fun p => .ok p A) fun p => ok (enumD p.1, p.2) := by
      unfold zenum zof
      rw [mb_mb]
    rw [e0] at hl
    refine show tE c W fa σ H _ from one Rl S hl fun x v ρ1 A1 H1 R1 s1 S1 rv h1 => ?_
    obtain ⟨q, e, h2⟩ := mapL (g := fun p => p) R1 (Ld.bind h1)
    have h3 := h2 ρ1 H1 R1 .refl
    obtain ⟨a, vs, rfl, hst, rvs⟩ := seqD_ok R1 rv e
    refine ⟨a, vs, rfl, ?_⟩
    rcases hst.cases rvs with ⟨ht, hw⟩ | hl2
    · refine .inr ⟨by rw [← hK]; exact ht.sq, ?_⟩
      have := h3 _ (by rw [hw]; exact walk_et ht rvs R1)
      rw [hK] at this
      exact this
    · obtain ⟨us, hq, r2⟩ := hl2.sq
      rcases hst.sq with h5 | h5
      · refine .inl ⟨by rw [← hK]; exact h5, ?_⟩
        have := h3 _ (walk_el hl2 R1)
        rw [hK] at this
        exact this
      · rcases hst with ⟨h6 | h6 | h6, hw⟩ | ⟨n, h6, h7, hw⟩
        · refine .inr ⟨by rw [← hK]; exact h5, ?_⟩
          have := h3 _ (by rw [hw]; exact walk_et h6 rvs R1)
          rw [hK] at this
          exact this
        · refine .inl ⟨by rw [← hK]; exact h6.sq, ?_⟩
          have := h3 _ (walk_el hl2 R1)
          rw [hK] at this
          exact this
        · refine .inl ⟨by rw [← hK]; exact .of h6.1, ?_⟩
          have := h3 _ (walk_el hl2 R1)
          rw [hK] at this
          exact this
        · refine .inl ⟨by rw [← hK]; exact .of h7, ?_⟩
          have := h3 _ (walk_el hl2 R1)
          rw [hK] at this
          exact this
end
end Z

noncomputable section
set_option maxHeartbeats 4000000
namespace CatS
open PySem PySem.Spec PyProof.Rows
open AutoSeq1 (wpAny_loadPart')
theorem list_add_any (l : Addr) (items : Array Value) (n : Nat) (b : Addr) (items2 : Array Value) (n2 : Nat) (d1 d2 : Option Addr) (s1 s2 : Array (Option Value)) (hc0 : items.size + items2.size ≤ sizeLine) :
    Meets (Builtin.«list.__add__» ⟨[.ref l, .ref b], []⟩) (fun _ R s => s.heap.get? l = some { cls := .type "list", dict := d1, data := .seq items n, slots := s1 } ∧ s.heap.get? b = some { cls := .type "list", dict := d2, data := .seq items2 n2, slots := s2 } ∧ R (.ok (.ret (Value.ref s.heap.objs.size))) { s with heap := s.heap.push { cls := Value.type "list", data := Data.seq (items ++ items2) }, toks := s.toks }) :=
  .of_wp fun prog w A R s h => by obtain ⟨hp, g, d, tk, os⟩ := s; obtain ⟨hl, hb, h⟩ := h; have f1 := AutoSeq1.idx_int; have f2 := sub_tuple_tuple; have f3 := sub_list_list; have f4 := sub_tuple_list; have f5 := sub_list_tuple; wp_walk using wpAny_loadPart' hl, wpAny_loadPart' hb; exact ⟨_, rfl, h⟩
end CatS
namespace L2
open PySem PySem.Spec PyProof.Rows
section
variable {X : Cx}
def rCatS (K : PySem.W.Frag) : R2 := fun x y H Q => ∃ l b xs zs, x = .ref l ∧ y = .ref b ∧ SqL K H l xs ∧ SqL K H b zs ∧ xs.length + zs.length ≤ sizeLine ∧ ∀ p, H p = none → Q (.ref p) (upd H p (.lst (xs ++ zs)))
theorem op_catS : OpR X (binaryOp .Add) (rCatS X.K) := by
  intro pins s σ H x y v u Q I rx ry h
  obtain ⟨l, b, xs, zs, rfl, rfl, hH, hB, hz, q⟩ := h
  cases rx
  cases ry
  obtain ⟨its, r, ⟨⟨c1, d1, t1, sl1⟩, n1, e1, k1, _, g1⟩, hl⟩ := I.list hH
  obtain ⟨its2, r2, ⟨⟨c2, d2, t2, sl2⟩, n2, e2, k2, _, g2⟩, hl2⟩ := I.list hB
  simp only at k1 g1 k2 g2
  subst k1 g1 k2 g2
  have ln1 := r.length
  have ln2 := r2.length
  refine concat_meets ⟨_, e1, rfl⟩ ⟨_, e2, rfl⟩ noFill_list_add seq_list_add PySem.F.slot_list_add PySem.F.entry_list_add (PySem.F.args_list_add_2 _ _) (CatS.list_add_any l its.toArray n1 b its2.toArray n2 d1 d2 sl1 sl2 (by rw [List.size_toArray, List.size_toArray]; omega)) ⟨e1, e2, ?_⟩
  have ea : its.toArray ++ its2.toArray = (its ++ its2).toArray := by simp
  rw [ea]
  exact ⟨.ref _, _, I.lnew (t' := s.toks) (r.append r2) (by rw [List.length_append]; omega), rfl, q _ I.fresh⟩
theorem reads_items {ds : List PyData} {its : List Value} {as : List Addr} {h : Heap} (hxs : PyData.canLayAll0 ds = true) (h4 : ReadsAll h its ds as) {j : Nat} (hj : j < its.length) : ∃ z, ds[j]? = some z ∧ SeqAt.readOf h its[j] = z := by
  have hmap : its.map (SeqAt.readOf h) = ds := SeqAt.readsAll_map ds its as hxs h4
  refine ⟨SeqAt.readOf h its[j], ?_, rfl⟩
  rw [← hmap, List.getElem?_map, List.getElem?_eq_getElem hj]
  rfl
/-- xs.count(y), data -/
def rCntD (K : PySem.W.Frag) : V → List V → Hp → VK → Prop := fun x xs H Q => ∃ (a : Addr) (y : V) (d : PyData) (ds : List PyData) (vs : List V), x = V.ref a ∧ xs = [y] ∧ SqL K H a vs ∧ DpAll K H vs ds ∧ Dp K H y d ∧
  SeqAt.shaped (.list ds) = true ∧ SeqAt.shaped d = true ∧ Q (.int ((ds.countP fun z => PyData.eqv z d : Nat) : Int)) H
def rCntDT (K : PySem.W.Frag) : V → List V → Hp → VK → Prop := fun x xs H Q => ∃ (a : Addr) (y : V) (d : PyData) (ds : List PyData) (vs : List V), x = V.ref a ∧ xs = [y] ∧ SqT K H a vs ∧ DpAll K H vs ds ∧ Dp K H y d ∧
  SeqAt.shaped (.list ds) = true ∧ SeqAt.shaped d = true ∧ Q (.int ((ds.countP fun z => PyData.eqv z d : Nat) : Int)) H
theorem cnt_at {ds : List PyData} {its : List Value} {as : List Addr} {h : Heap} {d : PyData} (hxs : PyData.canLayAll0 ds = true) (h4 : ReadsAll h its ds as) : its.countP (fun u => PyData.eqv (SeqAt.readOf h u) d) = ds.countP fun z => PyData.eqv z d := by
  rw [← SeqAt.readsAll_map ds its as hxs h4, List.countP_map]
  rfl
theorem mt_cntD (hu : X.A.units + 65 < cLine) : MtR X "list.count" (rCntD X.K) := by
  intro pins s σ H x xs v us Q I rx rxs h
  obtain ⟨a, y, d, ds, vs, rfl, rfl, hs, hds, hy, sl, sd, q⟩ := h
  cases rx
  cases rxs with
  | cons ry rt =>
    rename_i uy ut
    cases rt
    obtain ⟨bs, r1⟩ := Dp.reads I d y uy hy ry
    have hxs : PyData.canLayAll0 ds = true := SeqAt.canLay_of_shaped sl
    have hroom : X.A.units + 1 + min (PyData.depthAll ds) d.depth < cLine := room_in_shaped sd hu
    obtain ⟨its, rv, ⟨⟨cls, dd, data, sls⟩, n, ho, hc, hdn, hdt⟩, hlen⟩ := I.list hs
    simp only at hc hdt
    subst hc hdt
    obtain ⟨as, h4⟩ := Dp.readsAll I ds _ its hds rv
    rw [← cnt_at (d := d) hxs h4] at q
    refine call_meets PySem.F.slot_list_count ⟨_, ho, rfl⟩ PySem.F.entry_list_count (PySem.F.args_list_count_2 _ _)
      (SeqAt.list_countAt a its.toArray n dd sls uy (fun u => PyData.eqv (SeqAt.readOf s.heap u) d)) ⟨ho, SeqAt.items_eqAt (vs := its.toArray) (show ReadsAll s.heap its.toArray.toList ds as from h4) r1 hxs (SeqAt.canLay_of_shaped sd) hroom, ?_⟩
    exact ⟨.int _, H, I.tok _, ⟨_, rfl⟩, by simpa using q⟩
theorem mt_cntDT (hu : X.A.units + 65 < cLine) : MtR X "tuple.count" (rCntDT X.K) := by
  intro pins s σ H x xs v us Q I rx rxs h
  obtain ⟨a, y, d, ds, vs, rfl, rfl, hs, hds, hy, sl, sd, q⟩ := h
  cases rx
  cases rxs with
  | cons ry rt =>
    rename_i uy ut
    cases rt
    obtain ⟨bs, r1⟩ := Dp.reads I d y uy hy ry
    have hxs : PyData.canLayAll0 ds = true := SeqAt.canLay_of_shaped sl
    have hroom : X.A.units + 1 + min (PyData.depthAll ds) d.depth < cLine := room_in_shaped sd hu
    obtain ⟨its, rv, ⟨⟨cls, dd, data, sls⟩, ho, hc, n, hdt⟩, hlen⟩ := I.tuple hs
    simp only at hc hdt
    subst hc hdt
    obtain ⟨as, h4⟩ := Dp.readsAll I ds _ its hds rv
    rw [← cnt_at (d := d) hxs h4] at q
    refine call_meets PySem.F.slot_tuple_count ⟨_, ho, rfl⟩ PySem.F.entry_tuple_count (PySem.F.args_tuple_count_2 _ _)
      (SeqAt.tuple_countAt a its.toArray n dd sls uy (fun u => PyData.eqv (SeqAt.readOf s.heap u) d)) ⟨ho, SeqAt.items_eqAt (vs := its.toArray) (show ReadsAll s.heap its.toArray.toList ds as from h4) r1 hxs (SeqAt.canLay_of_shaped sd) hroom, ?_⟩
    exact ⟨.int _, H, I.tok _, ⟨_, rfl⟩, by simpa using q⟩
/-- t.index(y), data -/
def rIdxDT (K : PySem.W.Frag) : V → List V → Hp → VK → Prop := fun x xs H Q => ∃ (a : Addr) (y : V) (d : PyData) (ds : List PyData) (vs : List V) (j : Nat), x = V.ref a ∧ xs = [y] ∧ SqT K H a vs ∧ DpAll K H vs ds ∧ Dp K H y d ∧
  SeqAt.shaped (.list ds) = true ∧ SeqAt.shaped d = true ∧ ds.findIdx? (fun z => PyData.eqv z d) = some j ∧ Q (.int (j : Nat)) H
theorem mt_idxDT (hu : X.A.units + 65 < cLine) : MtR X "tuple.index" (rIdxDT X.K) := by
  intro pins s σ H x xs v us Q I rx rxs h
  obtain ⟨a, y, d, ds, vs, j, rfl, rfl, hs, hds, hy, sl, sd, hj, q⟩ := h
  cases rx
  cases rxs with
  | cons ry rt =>
    rename_i uy ut
    cases rt
    obtain ⟨bs, r1⟩ := Dp.reads I d y uy hy ry
    have hxs : PyData.canLayAll0 ds = true := SeqAt.canLay_of_shaped sl
    have hroom : X.A.units + 1 + min (PyData.depthAll ds) d.depth < cLine := room_in_shaped sd hu
    obtain ⟨its, rv, ⟨⟨cls, dd, data, sls⟩, ho, hc, n, hdt⟩, hlen⟩ := I.tuple hs
    simp only at hc hdt
    subst hc hdt
    obtain ⟨as, h4⟩ := Dp.readsAll I ds _ its hds rv
    obtain ⟨j1, j2, j3⟩ := List.findIdx?_eq_some_iff_getElem.mp hj
    have hl : its.length = ds.length := SeqAt.ReadsAll.length ds its as h4
    have hjl : j < its.toArray.size := by simp; omega
    refine call_meets PySem.F.slot_tuple_index ⟨_, ho, rfl⟩ PySem.F.entry_tuple_index (PySem.F.args_tuple_index_2 _ _)
      (TI.tuple_indexAt a its.toArray n dd sls uy (fun u => PyData.eqv (SeqAt.readOf s.heap u) d) j hjl ?_ ?_) ⟨ho, SeqAt.items_eqAt (vs := its.toArray) (show ReadsAll s.heap its.toArray.toList ds as from h4) r1 hxs (SeqAt.canLay_of_shaped sd) hroom, ⟨.int (j : Nat), H, I.tok _, ⟨_, rfl⟩, q⟩⟩
    · obtain ⟨z, h5, h6⟩ := reads_items hxs h4 (j := j) (by omega)
      rw [List.getElem?_eq_getElem j1] at h5
      cases h5
      show PyData.eqv (SeqAt.readOf s.heap its[j]) d = true
      rw [h6]
      exact j2
    · intro m hm hmj
      obtain ⟨z, h5, h6⟩ := reads_items hxs h4 (j := m) (by omega)
      rw [List.getElem?_eq_getElem (by omega)] at h5
      cases h5
      show PyData.eqv (SeqAt.readOf s.heap its[m]) d = false
      rw [h6]
      simpa using j3 m hmj
def rIdxDL (K : PySem.W.Frag) : V → List V → Hp → VK → Prop := fun x xs H Q => ∃ (a : Addr) (y : V) (d : PyData) (ds : List PyData) (vs : List V) (j : Nat), x = V.ref a ∧ xs = [y] ∧ SqL K H a vs ∧ DpAll K H vs ds ∧ Dp K H y d ∧
  SeqAt.shaped (.list ds) = true ∧ SeqAt.shaped d = true ∧ ds.findIdx? (fun z => PyData.eqv z d) = some j ∧ Q (.int (j : Nat)) H
theorem mt_idxDL (hu : X.A.units + 65 < cLine) : MtR X "list.index" (rIdxDL X.K) := by
  intro pins s σ H x xs v us Q I rx rxs ⟨a, y, d, ds, vs, j, e1, e2, hs, hds, hy, sl, sd, hj, q⟩
  obtain ⟨j1, j2, j3⟩ := List.findIdx?_eq_some_iff_getElem.mp hj
  refine mt_indexD hu pins s σ H x xs v us Q I rx rxs ⟨a, y, d, ds, j, ds[j], e1, e2, .lst hs hds, hy, sl, sd, List.getElem?_eq_getElem j1, j2, fun m z hm e => ?_, q⟩
  obtain ⟨hm2, e3⟩ := List.getElem?_eq_some_iff.mp e
  subst e3
  simpa using j3 m hm
end
end L2
namespace Z
open PySem PySem.Spec PyProof.Rows L2

/-- {} that stays empty -/
def zemp : Ev D := fun _ => ok .emp
/-- lists side by side -/
def zcatL (a b : Ev D) : Ev (List D) := fun σ => mb (a σ) fun x => mb (b σ) fun y A => match lstD A x, lstD A y with
  | some xs, some ys => if xs.length + ys.length ≤ SZ then some (.ok (xs ++ ys) A) else none
  | _, _ => none
def cntP (xs : List D) (y : D) : Option D := match D.pys xs, D.py y with
  | some ps, some p => if SeqAt.shaped (.list ps) && SeqAt.shaped p then some (.int ((ps.countP fun z => PyData.eqv z p : Nat) : Int)) else none
  | _, _ => none
def idxP (xs : List D) (y : D) : Option D := match D.pys xs, D.py y with
  | some ps, some p => if SeqAt.shaped (.list ps) && SeqAt.shaped p then (ps.findIdx? fun z => PyData.eqv z p).map fun j => .int (j : Nat) else none
  | _, _ => none
/-- a method of a list that only looks -/
def zlkL (m : List D → D → Option D) (o e : Ev D) : Ev D := fun σ => mb (o σ) fun x => mb (fun A => (lstD A x).map fun _ => .ok () A) fun _ => mb (e σ) fun y A => match lstD A x with
  | some xs => (m xs y).map fun d => .ok d A
  | none => none
/-- .. of a tuple -/
def zlkT (m : List D → D → Option D) (o e : Ev D) : Ev D := fun σ => mb (o σ) fun x => match x with
  | .tup xs => mb (e σ) fun y A => (m xs y).map fun d => .ok d A
  | _ => fun _ => none
def zstr (a : Ev D) : Ev D := fun σ => mb (a σ) fun x => match x with
  | .int i => fun A => if i.natAbs < 10 ^ 100 then some (.ok (.str (toString i)) A) else none
  | _ => fun _ => none
section
variable {X : Cx} {c : Cn} {W : WX} {a b d e o tg : Expr} {fa fb fd fo : Ev D} {qa qb : Ev (List D)} {pos p p1 p2 apos cpos : Pos} {x : Str} {es : List Expr} {fs : Ev (List D)}
theorem z_emp : PE X (.Dict [] [] pos) (tE c W zemp) := ⟨fun pins s σ H Q I ⟨ρ, A, σd, R, S, hl⟩ => by
  refine thn (pe_dnewK.run pins s σ H (fun x H1 => ∃ a, x = .ref a ∧ H1 a = some (.dK []) ∧ ∀ ob : Obj, ob.dict = none → Q (.ref a) (upd H1 a (.frz ob (.dK [])))) I ?_) fun v s1 ⟨x, H1, I1, r, a, e, ha, q⟩ => ?_
  · intro a n
    refine ⟨a, rfl, upd_same, fun ob hob => ?_⟩
    rw [upd_upd]
    obtain ⟨R2, s2, _⟩ := R.laid (ho := .frz ob (.dK [])) n
    exact hl ρ _ R2 s2 _ (.emp upd_same hob)
  · subst e
    obtain ⟨z, hsys, vs, kv, hd⟩ := I1.hok a _ ha
    obtain ⟨ob, es, ep, ho, hex, hr⟩ := id hd
    exact ⟨.ref a, _, I1.write (x := a) (e := a) (t' := s1.toks) (h' := s1.heap) (by rw [ha]; trivial) (.inl rfl) (fun b u _ h => h) ⟨_, ho⟩ (o := .frz ob (.dK [])) ⟨ho, z, hsys, vs, kv, hd⟩, r, q ob hex.2.1⟩⟩
theorem z_catL (hK : c.K = X.K) (ha : PE X a (tE c W fa)) (hb : PE X b (tE c W fb)) : PE X (.BinOp a .Add b pos) (tN c W (zcatL fa fb)) :=
  (pe_op op_catS ha hb).zm fun σ H Q ⟨ρ, A, σd, R, S, h⟩ => two R S h fun x y v u ρ2 A2 H2 R2 s2 S2 rv ru h2 => by
    split at h2
    · rename_i xs ys e1 e2
      obtain ⟨a1, vs, rfl, hs, rvs⟩ := lstD_ok R2 rv e1
      obtain ⟨a2, us, rfl, hs2, rus⟩ := lstD_ok R2 ru e2
      obtain ⟨hz, h3⟩ := iteP R2 h2
      have l1 := rvs.length
      have l2 := rus.length
      have := SZ_le
      exact ⟨a1, a2, vs, us, rfl, rfl, by rw [← hK]; exact hs, by rw [← hK]; exact hs2, by omega, fun p n => h3 p _ n (rvs.append rus)⟩
    · exact h2.elim
theorem lk_dat {ρ : List Addr} {A : Hh} {H : Hp} {xs : List D} {y : D} {vs : List V} {u : V} {ps : List PyData} {p : PyData} (rvs : Rvs c ρ H xs vs) (ru : Rv c ρ H y u) (e1 : D.pys xs = some ps) (e2 : D.py y = some p) : DpAll c.K H vs ps ∧ Dp c.K H u p := ⟨rvs.dp e1, ru.dp e2⟩
theorem mL_ok {m : List D → D → Option D} {r : V → List V → Hp → VK → Prop} {id : String} {name : Str} (hm : MtR X id r) (slot : Slot "list" name id) (hty : typeOf (.builtin id) = pure (.type "method_descriptor")) (hK : c.K = X.K)
    (ok : ∀ ρ A H xs y (a : Addr) vs u d (Q : VK), Rel c ρ A H → SqL c.K H a vs → Rvs c ρ H xs vs → Rv c ρ H y u → m xs y = some d → (∀ v, Rv c ρ H d v → Q v H) → r (.ref a) [u] H Q)
    (ho : PE X o (tE c W fo)) (ha : PE X e (tE c W fa)) (hbase : attributeBase o name X.env (eval o X.env) = eval o X.env := by rfl)
    (hfew : ((backTo cpos (starEach [e] X.env)).all (fun x => !x.1) && (backToKw cpos (keywordEach [] X.env)).all (fun x => x.1.isSome)
      && decide (([e]).length + ([] : List Keyword).length + (if ([] : List Keyword).isEmpty then 0 else 1) < 30)) = true := by rfl)
    (hline : (apos.endLine == cpos.line) = true := by rfl) (hs : starEach [e] X.env = (false, eval e X.env) :: starEach [] X.env := by rfl) (hplain : (backTo cpos (starEach [] X.env)).any (·.1) = false := by rfl) :
    PE X (.Call (.Attribute o name apos) [e] [] cpos) (tE c W (zlkL m fo fa)) :=
  (pe_bm PySem.F.plainAttrs_list slot hty hm ho (pa1 ha hs) hbase hfew hline hs hplain).zm fun σ H Q ⟨ρ, A, σd, R, S, h⟩ => show tE c W fo σ H _ from one R S h fun x v ρ1 A1 H1 R1 s1 S1 rv h1 => by
    obtain ⟨q, e, h2⟩ := mapL (g := fun _ => ()) R1 (Ld.bind h1)
    rw [← hK]
    refine ⟨lst_ty R1 rv e, show tE c W fa σ H1 _ from one R1 S1 h2 fun y u ρ2 A2 H2 R2 s2 S2 ru h3 => ?_⟩
    split at h3
    · rename_i xs e2
      obtain ⟨a1, vs, rfl, hs, rvs⟩ := lstD_ok R2 (rv.to R1 s2) e2
      obtain ⟨d, e3, h4⟩ := mapL (g := fun d => d) R2 h3
      exact ok ρ2 A2 H2 xs y a1 vs u d Q R2 hs rvs ru e3 h4
    · exact h3.elim
theorem mT_ok {m : List D → D → Option D} {r : V → List V → Hp → VK → Prop} {id : String} {name : Str} (hm : MtR X id r) (slot : Slot "tuple" name id) (hty : typeOf (.builtin id) = pure (.type "method_descriptor")) (hK : c.K = X.K)
    (ok : ∀ ρ A H xs y (a : Addr) vs u d (Q : VK), Rel c ρ A H → SqT c.K H a vs → Rvs c ρ H xs vs → Rv c ρ H y u → m xs y = some d → (∀ v, Rv c ρ H d v → Q v H) → r (.ref a) [u] H Q)
    (ho : PE X o (tE c W fo)) (ha : PE X e (tE c W fa)) (hbase : attributeBase o name X.env (eval o X.env) = eval o X.env := by rfl)
    (hfew : ((backTo cpos (starEach [e] X.env)).all (fun x => !x.1) && (backToKw cpos (keywordEach [] X.env)).all (fun x => x.1.isSome)
      && decide (([e]).length + ([] : List Keyword).length + (if ([] : List Keyword).isEmpty then 0 else 1) < 30)) = true := by rfl)
    (hline : (apos.endLine == cpos.line) = true := by rfl) (hs : starEach [e] X.env = (false, eval e X.env) :: starEach [] X.env := by rfl) (hplain : (backTo cpos (starEach [] X.env)).any (·.1) = false := by rfl) :
    PE X (.Call (.Attribute o name apos) [e] [] cpos) (tE c W (zlkT m fo fa)) :=
  (pe_mG (fun pins σ H s x v => tyT_ok) PySem.F.plainAttrs_tuple slot hty hm ho (pa1 ha hs) hbase hfew hline hs hplain).zm fun σ H Q ⟨ρ, A, σd, R, S, h⟩ => show tE c W fo σ H _ from one R S h fun x v ρ1 A1 H1 R1 s1 S1 rv h1 => by
    cases rv <;> first | exact False.elim h1 | skip
    rename_i a1 xs vs t rr
    rw [← hK]
    refine ⟨⟨_, _, rfl, t⟩, show tE c W fa σ H1 _ from one R1 S1 (h1 : Ld c ρ1 H1 σ W (mb (fa σd) (fun y A => (m xs y).map fun d => .ok d A) A1) _) fun y u ρ2 A2 H2 R2 s2 S2 ru h3 => ?_⟩
    have rv2 := (Rv.tup t rr).to R1 s2
    cases rv2 with
    | tup t2 r2 =>
      obtain ⟨d, e3, h4⟩ := mapL (g := fun d => d) R2 h3
      exact ok ρ2 A2 H2 xs y a1 _ u d Q R2 t2.sq r2 ru e3 h4
theorem cntP_ok {xs : List D} {y d : D} (h : cntP xs y = some d) : ∃ ps p, D.pys xs = some ps ∧ D.py y = some p ∧ SeqAt.shaped (.list ps) = true ∧ SeqAt.shaped p = true ∧ d = .int ((ps.countP fun z => PyData.eqv z p : Nat) : Int) := by
  unfold cntP at h
  split at h
  · rename_i ps p e1 e2
    split at h
    · rename_i hz
      rw [Bool.and_eq_true] at hz
      cases h
      exact ⟨ps, p, e1, e2, hz.1, hz.2, rfl⟩
    · cases h
  · cases h
theorem idxP_ok {xs : List D} {y d : D} (h : idxP xs y = some d) : ∃ ps p j, D.pys xs = some ps ∧ D.py y = some p ∧ SeqAt.shaped (.list ps) = true ∧ SeqAt.shaped p = true ∧ ps.findIdx? (fun z => PyData.eqv z p) = some j ∧ d = .int (j : Nat) := by
  unfold idxP at h
  split at h
  · rename_i ps p e1 e2
    split at h
    · rename_i hz
      rw [Bool.and_eq_true] at hz
      obtain ⟨j, e3, e4⟩ := Option.map_eq_some_iff.mp h
      exact ⟨ps, p, j, e1, e2, hz.1, hz.2, e3, e4.symm⟩
    · cases h
  · cases h
theorem z_cntL (hK : c.K = X.K) (hu : X.A.units + 65 < cLine) (ho : PE X o (tE c W fo)) (ha : PE X e (tE c W fa)) (hbase : attributeBase o "count" X.env (eval o X.env) = eval o X.env := by rfl)
    (hfew : ((backTo cpos (starEach [e] X.env)).all (fun x => !x.1) && (backToKw cpos (keywordEach [] X.env)).all (fun x => x.1.isSome)
      && decide (([e]).length + ([] : List Keyword).length + (if ([] : List Keyword).isEmpty then 0 else 1) < 30)) = true := by rfl)
    (hline : (apos.endLine == cpos.line) = true := by rfl) (hs : starEach [e] X.env = (false, eval e X.env) :: starEach [] X.env := by rfl) (hplain : (backTo cpos (starEach [] X.env)).any (·.1) = false := by rfl) :
    PE X (.Call (.Attribute o "count" apos) [e] [] cpos) (tE c W (zlkL cntP fo fa)) :=
  mL_ok (mt_cntD hu) PySem.F.slot_list_count PySem.F.type_list_count hK (fun ρ A H xs y a vs u d Q R hs rvs ru h q => by
    obtain ⟨ps, p, e1, e2, h1, h2, rfl⟩ := cntP_ok h
    rw [hK] at hs
    exact ⟨a, u, p, ps, vs, rfl, rfl, hs, by rw [← hK]; exact rvs.dp e1, by rw [← hK]; exact ru.dp e2, h1, h2, q _ (.int _)⟩) ho ha hbase hfew hline hs hplain
theorem z_cntT (hK : c.K = X.K) (hu : X.A.units + 65 < cLine) (ho : PE X o (tE c W fo)) (ha : PE X e (tE c W fa)) (hbase : attributeBase o "count" X.env (eval o X.env) = eval o X.env := by rfl)
    (hfew : ((backTo cpos (starEach [e] X.env)).all (fun x => !x.1) && (backToKw cpos (keywordEach [] X.env)).all (fun x => x.1.isSome)
      && decide (([e]).length + ([] : List Keyword).length + (if ([] : List Keyword).isEmpty then 0 else 1) < 30)) = true := by rfl)
    (hline : (apos.endLine == cpos.line) = true := by rfl) (hs : starEach [e] X.env = (false, eval e X.env) :: starEach [] X.env := by rfl) (hplain : (backTo cpos (starEach [] X.env)).any (·.1) = false := by rfl) :
    PE X (.Call (.Attribute o "count" apos) [e] [] cpos) (tE c W (zlkT cntP fo fa)) :=
  mT_ok (mt_cntDT hu) PySem.F.slot_tuple_count PySem.F.type_tuple_count hK (fun ρ A H xs y a vs u d Q R hs rvs ru h q => by
    obtain ⟨ps, p, e1, e2, h1, h2, rfl⟩ := cntP_ok h
    rw [hK] at hs
    exact ⟨a, u, p, ps, vs, rfl, rfl, hs, by rw [← hK]; exact rvs.dp e1, by rw [← hK]; exact ru.dp e2, h1, h2, q _ (.int _)⟩) ho ha hbase hfew hline hs hplain
theorem z_idxL (hK : c.K = X.K) (hu : X.A.units + 65 < cLine) (ho : PE X o (tE c W fo)) (ha : PE X e (tE c W fa)) (hbase : attributeBase o "index" X.env (eval o X.env) = eval o X.env := by rfl)
    (hfew : ((backTo cpos (starEach [e] X.env)).all (fun x => !x.1) && (backToKw cpos (keywordEach [] X.env)).all (fun x => x.1.isSome)
      && decide (([e]).length + ([] : List Keyword).length + (if ([] : List Keyword).isEmpty then 0 else 1) < 30)) = true := by rfl)
    (hline : (apos.endLine == cpos.line) = true := by rfl) (hs : starEach [e] X.env = (false, eval e X.env) :: starEach [] X.env := by rfl) (hplain : (backTo cpos (starEach [] X.env)).any (·.1) = false := by rfl) :
    PE X (.Call (.Attribute o "index" apos) [e] [] cpos) (tE c W (zlkL idxP fo fa)) :=
  mL_ok (mt_idxDL hu) PySem.F.slot_list_index PySem.F.type_list_index hK (fun ρ A H xs y a vs u d Q R hs rvs ru h q => by
    obtain ⟨ps, p, j, e1, e2, h1, h2, h3, rfl⟩ := idxP_ok h
    rw [hK] at hs
    exact ⟨a, u, p, ps, vs, j, rfl, rfl, hs, by rw [← hK]; exact rvs.dp e1, by rw [← hK]; exact ru.dp e2, h1, h2, h3, q _ (.int _)⟩) ho ha hbase hfew hline hs hplain
theorem z_idxT (hK : c.K = X.K) (hu : X.A.units + 65 < cLine) (ho : PE X o (tE c W fo)) (ha : PE X e (tE c W fa)) (hbase : attributeBase o "index" X.env (eval o X.env) = eval o X.env := by rfl)
    (hfew : ((backTo cpos (starEach [e] X.env)).all (fun x => !x.1) && (backToKw cpos (keywordEach [] X.env)).all (fun x => x.1.isSome)
      && decide (([e]).length + ([] : List Keyword).length + (if ([] : List Keyword).isEmpty then 0 else 1) < 30)) = true := by rfl)
    (hline : (apos.endLine == cpos.line) = true := by rfl) (hs : starEach [e] X.env = (false, eval e X.env) :: starEach [] X.env := by rfl) (hplain : (backTo cpos (starEach [] X.env)).any (·.1) = false := by rfl) :
    PE X (.Call (.Attribute o "index" apos) [e] [] cpos) (tE c W (zlkT idxP fo fa)) :=
  mT_ok (mt_idxDT hu) PySem.F.slot_tuple_index PySem.F.type_tuple_index hK (fun ρ A H xs y a vs u d Q R hs rvs ru h q => by
    obtain ⟨ps, p, j, e1, e2, h1, h2, h3, rfl⟩ := idxP_ok h
    rw [hK] at hs
    exact ⟨a, u, p, ps, vs, j, rfl, rfl, hs, by rw [← hK]; exact rvs.dp e1, by rw [← hK]; exact ru.dp e2, h1, h2, h3, q _ (.int _)⟩) ho ha hbase hfew hline hs hplain
theorem log2_lt {n : Nat} (h : n < 10 ^ 100) : n.log2 < 1920 := by
  by_cases e : n = 0
  · subst e; decide
  · rw [Nat.log2_lt e]
    exact Nat.lt_trans h (by decide +kernel)
theorem z_str1 (hg : Gl X "str") (hm : X.mg "str" = none) (h : PE X e (tE c W fa)) (hs : starEach [e] X.env = (false, eval e X.env) :: starEach [] X.env := by rfl) (hpl : (backTo pos (starEach [] X.env)).any (·.1) = false := by rfl) :
    PE X (.Call (.Name "str" p) [e] [] pos) (tE c W (zstr fa)) :=
  (pe_callTy call_str_int hg hm boot_str (pa1 h hs) (he := hs) (hpl := hpl)).zm fun σ H Q ⟨ρ, A, σd, R, S, h⟩ => arg1 <| one R S h fun x v ρ1 A1 H1 R1 s1 S1 rv h1 => by
    cases rv <;> first | exact False.elim h1 | skip
    dsimp only at h1
    obtain ⟨hz, h2⟩ := iteP R1 h1
    exact ⟨_, rfl, log2_lt hz, h2 _ (.str _)⟩
end
end Z

noncomputable section
set_option maxHeartbeats 2000000
namespace L2
open PySem PySem.Spec PyProof.Rows
section
variable {X : Cx} {pins : List (Addr × Obj)} {σ : St} {H : Hp} {s : Shared} {pos p : Pos} {a : Addr}
theorem dct_new {P : Program} {w : World} {h : Heap} {ks : List (List Int × Addr × V)} {xs : List (List Int × Addr × Value)} (kv : Z.KvX ks xs) (d : Z.DctX P w a xs h) : ObjOk P w H h a (Z.DctO P w a ks) := by
  obtain ⟨nd, lo, o, es, ep, ho, hc, hd, he⟩ := id d
  refine ⟨⟨xs, kv, d⟩, ⟨o, ho⟩, fun h1 h2 ⟨ys, kv', nd', lo', o', es', ep', ho', r'⟩ k => ⟨ys, kv', nd', lo', o', es', ep', k o' ho', r'⟩⟩
/-- {}, an object -/
def tDNewI (P : Program) (w : World) : TE := fun _ H Q => ∀ p, H p = none → Q (.ref p) (upd H p (Z.DctO P w p []))
theorem pe_dnewI : PE X (.Dict [] [] pos) (tDNewI X.prog X.w) := ⟨fun pins s σ H Q I h =>
  wpAny_Dict_empty ⟨.ref s.heap.objs.size, _, I.laid (a := s.heap.objs.size) (o := Z.DctO X.prog X.w s.heap.objs.size []) (t' := s.toks) (fun _ _ q => Heap.get?_push_of_some _ q) (Nat.le_refl _)
    (dct_new (xs := []) .nil ⟨List.nodup_nil, beq_eq_false_iff_ne.mpr (Ne.symm (Nat.ne_of_lt I.big)), _, #[], 0, Heap.get?_push_size _ rfl, ⟨rfl, rfl, rfl⟩, rfl, rfl⟩), rfl, h _ (I.hok.fresh (Nat.le_refl _))⟩⟩
/-- sorted(d) -/
def rSortDT (K : PySem.W.Frag) (P : Program) (w : World) : List V → Hp → VK → Prop := fun vs H Q => ∃ (a : Addr) (ks : List (List Int × Addr × V)), vs = [V.ref a] ∧ H a = some (Z.DctO P w a ks) ∧ ks.length ≤ sizeLine ∧ (∀ q ∈ ks, SqT K H q.2.1 (q.1.map V.int) ∧ q.1 ≠ []) ∧
  ∀ (ys : List V) (p : Addr), ys.Perm (ks.map fun q => V.ref q.2.1) → ys.Pairwise (fun x y => ∀ n m, TupJ K H x n → TupJ K H y m → HT.lexLt m n = false) → H p = none → Q (.ref p) (upd H p (.lst ys))
theorem kvx_ref : ∀ {ks : List (List Int × Addr × V)} {xs : List (List Int × Addr × Value)}, Z.KvX ks xs → xs.map (fun q => (q.1, q.2.1)) = ks.map fun q => (q.1, q.2.1)
  | _, _, .nil => rfl
  | _, _, .cons ⟨e1, e2, _⟩ t => by
    rw [List.map_cons, List.map_cons, kvx_ref t, ← e1, ← e2]
theorem keys_refs {acc : Array Value} {es : Array DictEntry} {P : Program} {w : World} {xs : List (List Int × Addr × Value)} (he : es.toList = xs.map (entryOfKey (tupleKind (intKind P w)))) (h1 : acc.size = es.size) (h2 : ∀ i v, acc[i]? = some v → ∃ hi : i < es.size, v = es[i].key) :
    acc.toList = (xs.map fun q => q.2.1).map Value.ref := by
  have hl : es.size = xs.length := by rw [← Array.length_toList, he, List.length_map]
  apply List.ext_getElem?
  intro i
  rw [Array.getElem?_toList, List.getElem?_map, List.getElem?_map]
  by_cases hi : i < xs.length
  · have e1 : acc[i]? = some (acc[i]'(by omega)) := Array.getElem?_eq_getElem (by omega)
    obtain ⟨hj, e2⟩ := h2 i _ e1
    have e3 : es[i]? = some es[i] := Array.getElem?_eq_getElem hj
    rw [← Array.getElem?_toList, he, List.getElem?_map, List.getElem?_eq_getElem hi] at e3
    have e4 := Option.some.inj e3
    rw [e1, e2, ← e4, List.getElem?_eq_getElem hi]
    rfl
  · rw [List.getElem?_eq_none (by omega), Array.getElem?_eq_none (by omega)]
    rfl
theorem cr_sortDT (hcalm : X.calm = true) : CallR X (.builtin "sorted") (rSortDT X.K X.prog X.w) := by
  intro pins s σ H vs us Q I r h
  obtain ⟨a, ks, rfl, ha, hz, hk, q⟩ := h
  rw [Vals.ref1 r]
  obtain ⟨⟨xs, kv, nd, lo, o, es, ep, ho, hc, hd, he⟩, _, _⟩ := (show ObjOk X.prog X.w H s.heap a (Z.DctO X.prog X.w a ks) from I.hok a _ ha)
  have kr := kvx_ref kv
  have hxl : xs.length = ks.length := by have := congrArg List.length kr; simpa using this
  have hsz : es.size = xs.length := by rw [← Array.length_toList, he, List.length_map]
  have er : (xs.map fun q => q.2.1) = ks.map fun q => q.2.1 := by
    have := congrArg (List.map (·.2)) kr
    rw [List.map_map, List.map_map] at this
    exact this
  refine Calls.call_function_entry PyProof.Rows.kind_sorted PyProof.Rows.plain_sorted PyProof.Rows.entry_sorted (PyProof.Rows.args_sorted1 _) ?_
  unfold Builtin.«sorted»
  refine wpAny_bind (m := checkCount "sorted" 1 1 _) (wpAny_pure ?_)
  refine wpAny_bind (PySem.W.kdu_collect (A := X.A.in1) (PySem.KdlSrc.rawDict (es := es) (ep := ep) lo) (I.ok.hd hcalm) ⟨o, ho, hc, hd⟩ (by omega) fun h' tk acc hk' hacc => ?_)
  have hal : acc.toList = (ks.map fun q => q.2.1).map Value.ref := by rw [← er]; exact keys_refs he hacc.1 hacc.2
  obtain ⟨as, has⟩ : ∃ as, as = ks.map fun q => q.2.1 := ⟨_, rfl⟩
  rw [← has] at hal
  have hlen0 : (as.map Value.ref).length ≤ sizeLine := by rw [List.length_map, has, List.length_map]; exact hz
  have I1 : Inv X pins σ H { s with heap := h', toks := tk } := I.kept hk'
  have hK : ∀ v ∈ as.map Value.ref, SrtL.IsTI h' v (SrtL.kOf h' v) ∧ SrtL.kOf h' v ≠ [] := fun v hv => by
    obtain ⟨b, hb, rfl⟩ := List.mem_map.mp hv
    rw [has] at hb
    obtain ⟨qq, hq, rfl⟩ := List.mem_map.mp hb
    obtain ⟨ht, hne⟩ := hk qq hq
    have := tupJ_raw I1 ht
    rw [SrtL.kOf_eq this]
    exact ⟨this, hne⟩
  rw [hal]
  refine wpAny_bind (wpAny_newList ?_ hlen0)
  have hoL : (h'.push (seqObj "list" (as.map Value.ref).toArray 0)).get? h'.objs.size = some (seqObj "list" (as.map Value.ref).toArray 0) := Heap.get?_push_size _ rfl
  show wpAny _ _ _ _ _ { s with heap := h'.push (seqObj "list" (as.map Value.ref).toArray 0), toks := tk }
  refine wpAny_bind (wpAny_holding (wpAny_call_entry PyProof.Rows.slot_list_sort ⟨_, hoL, rfl⟩ PyProof.Rows.entry_list_sort
    (SrtO.list_sort_ord (s := { s with heap := h'.push (seqObj "list" (as.map Value.ref).toArray 0), toks := tk }) (SrtL.swo_k (SrtL.kOf h')) hoL hlen0 (fun h2 => ?_) fun out h1 h2 => ⟨_, rfl, ?_⟩) (PyProof.Rows.args_list_sort _)))
  · refine SrtL.tups_sortable (by omega) (fun v hm => ⟨(hK v hm).1.keeps fun b o e _ => Heap.get?_push_of_some _ e, (hK v hm).2⟩) fun o e => ?_
    have e' : some o = some (seqObj "list" (as.map Value.ref).toArray 0) := e.symm.trans hoL
    cases e'
    intro c
    exact absurd (Value.type.inj c) (by decide)
  · obtain ⟨ep', he'⟩ := PyProof.Rows.sortedHeap_at (vs := as.map Value.ref) (out := out.toArray) hoL
    have hp := h2.perm
    have hp3 : (out.map rA).Perm as := by
      have := hp.map rA
      rw [List.map_map] at this
      have e : (rA ∘ Value.ref) = id := rfl
      rwa [e, List.map_id] at this
    have eo : out = (out.map rA).map Value.ref := by
      rw [List.map_map]
      refine (List.map_id' out).symm.trans (List.map_congr_left fun v hv => ?_)
      obtain ⟨b, _, rfl⟩ := List.mem_map.mp (hp.mem_iff.mp hv)
      rfl
    have hlen : ((out.map rA).map V.ref).length ≤ sizeLine := by
      rw [List.length_map, hp3.length_eq]
      rw [List.length_map] at hlen0
      exact hlen0
    refine wpAny_pure ⟨_, rfl, .ref h'.objs.size, upd H h'.objs.size (.lst ((out.map rA).map V.ref)), I1.laid (t' := tk) (fun b u e => ?_) (Nat.le_refl _)
      (show ObjOk X.prog X.w _ _ _ (.lst ((out.map rA).map V.ref)) from ⟨hlen, out, ep', ?_, he'⟩), rfl, q _ _ ?_ ?_ (I1.hok.fresh (Nat.le_refl _))⟩
    · have hb : b < h'.objs.size := Heap.lt_size e
      rw [PyProof.Rows.sortedHeap_old (Nat.ne_of_lt hb) (by rw [size_push']; exact Nat.lt_succ_of_lt hb)]
      exact Heap.get?_push_of_some _ e
    · have := vals_refsZ (out.map rA)
      rw [← eo] at this
      exact this
    · have := hp3.map V.ref
      rw [has] at this
      have e : ks.map (fun q => V.ref q.2.1) = (ks.map fun q => q.2.1).map V.ref := by rw [List.map_map]; rfl
      rw [e]
      exact this
    · rw [List.pairwise_map, List.pairwise_map]
      refine List.Pairwise.imp_of_mem (fun {u v} hu hv huv n m hn hm => ?_) h1
      obtain ⟨t, et, ht⟩ := hn
      obtain ⟨t', et', ht'⟩ := hm
      obtain ⟨b, hb, rfl⟩ := List.mem_map.mp (hp.mem_iff.mp hu)
      obtain ⟨b', hb', rfl⟩ := List.mem_map.mp (hp.mem_iff.mp hv)
      cases et
      cases et'
      have huv' : HT.lexLt (SrtL.kOf h' (.ref b')) (SrtL.kOf h' (.ref b)) = false := huv
      rw [SrtL.kOf_eq (v := .ref b) (tupJ_raw I1 ht), SrtL.kOf_eq (v := .ref b') (tupJ_raw I1 ht')] at huv'
      exact huv'
/-- d[k] = v -/
def kvPut (ks : List (List Int × Addr × V)) (k : List Int) (b : Addr) (v : V) : List (List Int × Addr × V) := if ks.any (fun q => q.1 == k) then ks.map (fun q => if q.1 = k then (q.1, q.2.1, v) else q) else ks ++ [(k, b, v)]
def rSetDT (K : PySem.W.Frag) (P : Program) (w : World) : V → V → V → Hp → (Hp → Prop) → Prop := fun o i v H Q => ∃ (a b : Addr) (ks : List (List Int × Addr × V)) (k : List Int), o = .ref a ∧ i = .ref b ∧ H a = some (Z.DctO P w a ks) ∧ ks.length < sizeLine ∧
  (∀ q ∈ ks, SqT K H q.2.1 (q.1.map V.int)) ∧ SqT K H b (k.map V.int) ∧ Q (upd H a (Z.DctO P w a (kvPut ks k b v)))
theorem kvx_put {ks : List (List Int × Addr × V)} {xs : List (List Int × Addr × Value)} {k : List Int} {b : Addr} {v : V} {u : Value} (h : Z.KvX ks xs) (r : RelV v u) : Z.KvX (kvPut ks k b v) (storedH xs k b u) := by
  have e1 : ∀ {ks : List (List Int × Addr × V)} {xs : List (List Int × Addr × Value)}, Z.KvX ks xs → (atKey xs k).isSome = ks.any (fun q => q.1 == k) := by
    intro ks xs h
    induction h with
    | nil => rfl
    | @cons p q ks xs h t ih =>
      obtain ⟨q1, q2⟩ := q
      have h1 : p.1 = q1 := h.1
      rw [List.any_cons, h1, ← ih]
      unfold atKey
      by_cases e : q1 = k
      · simp [e]
      · simp [e]
  have e2 : ∀ {ks : List (List Int × Addr × V)} {xs : List (List Int × Addr × Value)}, Z.KvX ks xs → Z.KvX (ks.map (fun q => if q.1 = k then (q.1, q.2.1, v) else q)) (xs.map (putAt k u)) := by
    intro ks xs h
    induction h with
    | nil => exact .nil
    | @cons p q ks xs h t ih =>
      refine .cons ?_ ih
      unfold putAt
      dsimp only
      rw [← h.1]
      by_cases e : p.1 = k
      · rw [if_pos e, if_pos e]
        exact ⟨rfl, h.2.1, r⟩
      · rw [if_neg e, if_neg e]
        exact h
  have e3 : ∀ {ks : List (List Int × Addr × V)} {xs : List (List Int × Addr × Value)}, Z.KvX ks xs → Z.KvX (ks ++ [(k, b, v)]) (xs ++ [(k, b, u)]) := by
    intro ks xs h
    induction h with
    | nil => exact .cons ⟨rfl, rfl, r⟩ .nil
    | cons h t ih => exact .cons h ih
  unfold kvPut storedH
  rw [e1 h]
  by_cases q : ks.any (fun q => q.1 == k) = true
  · rw [if_pos q, if_pos q]
    exact e2 h
  · rw [if_neg q, if_neg q]
    exact e3 h
theorem mem_kvx {ks : List (List Int × Addr × V)} {xs : List (List Int × Addr × Value)} (h : Z.KvX ks xs) : ∀ x ∈ xs, ∃ q ∈ ks, q.1 = x.1 ∧ q.2.1 = x.2.1 := by
  induction h with
  | nil => intro x hx; cases hx
  | @cons p q ks xs h t ih =>
    intro x hx
    rcases List.mem_cons.mp hx with e | e
    · subst e
      exact ⟨p, List.mem_cons_self .., h.1, h.2.1⟩
    · obtain ⟨q, h1, h2⟩ := ih x e
      exact ⟨q, List.mem_cons_of_mem _ h1, h2⟩
theorem set_dctT (hu : X.A.units + 64 < cLine) : PSet X (rSetDT X.K X.prog X.w) := by
  intro pins s σ H o i v ov iv u Q I ro ri rv h
  obtain ⟨a, b, ks, k, rfl, rfl, ha, hz, hk, hb, q⟩ := h
  cases ro
  cases ri
  obtain ⟨⟨xs, kv, nd, lo, ob, es, ep, ho, hc, hd, he⟩, _, _⟩ := (show ObjOk X.prog X.w H s.heap a (Z.DctO X.prog X.w a ks) from I.hok a _ ha)
  have hxl : xs.length = ks.length := by have := congrArg List.length (kvx_ref kv); simpa using this
  have his : ∀ x ∈ xs, (tupleKind (intKind X.prog X.w)).is s.heap x.1 x.2.1 := fun x hx => by
    obtain ⟨qq, h1, h2, h3⟩ := mem_kvx kv x hx
    rw [← h2, ← h3]
    exact I.isT (hk qq h1)
  refine wpAny_setItem_heap (knd := tupleKind (intKind X.prog X.w)) (xs := xs) (by show X.A.units + 1 < cLine; omega) (I.isT hb) ⟨ob, es, ep, ho, hc, hd, he, his, nd⟩ (fun h' hm sb => ?_) (by omega)
  obtain ⟨o2, es2, ep2, ho2, hc2, hd2, he2, _, nd2⟩ := hm
  refine ⟨_, I.write (x := a) (e := a) (t' := s.toks + (tupleKind (intKind X.prog X.w)).draws k) (h' := h') (by rw [ha]; trivial) (.inl rfl) (fun c u hcn e => ?_) ⟨o2, ho2⟩ (o := Z.DctO X.prog X.w a (kvPut ks k b v)) (dct_new (kvx_put kv rv) ⟨nd2, lo, o2, es2, ep2, ho2, hc2, hd2, he2⟩), q⟩
  first | exact (sb.2 c hcn).trans e | exact sb.get hcn e | (rw [sb c hcn]; exact e)
end
end L2
namespace Z
open PySem PySem.Spec PyProof.Rows L2
/-- {}, a new object -/
def znewI : Ev D := fun _ => alloc (.dct [])
def dPut (kvs : List (List Int × D)) (k : List Int) (d : D) : List (List Int × D) := if kvs.any (fun p => p.1 == k) then kvs.map (fun p => if p.1 = k then (p.1, d) else p) else kvs ++ [(k, d)]
def setI (A : Hh) (x y d : D) : Option Hh := match x, y with
  | .ref n, .tup xs => match A[n]?, intsOf xs with
    | some (.dct kvs), some k => if kvs.length < SZ then some (A.set n (.dct (dPut kvs k d))) else none
    | _, _ => none
  | _, _ => none
/-- d[k] = v, k a tuple of ints -/
def gsubI (o i : Ev D) : Gv := fun d σ => mb (o σ) fun x => mb (i σ) fun y A => (setI A x y d).map fun A' => .ok σ A'
def keysI (A : Hh) : D → Option (List (List Int))
  | .ref n => match A[n]? with
    | some (.dct kvs) => if kvs.length ≤ SZ ∧ (kvs.all fun p => !p.1.isEmpty) = true then some (kvs.map (·.1)) else none
    | _ => none
  | _ => none
/-- sorted(d) -/
def zsortD (o : Ev D) : Ev (List D) := fun σ => mb (o σ) fun x A => (keysI A x).map fun ts => .ok ((ts.mergeSort leL).map tupD) A
section
variable {X : Cx} {c : Cn} {W : WX} {a b d e o i tg : Expr} {fa fb fd fo fi : Ev D} {pos p : Pos} {ρ : List Addr} {H : Hp}
theorem z_newI (hP : c.P = X.prog ∧ c.w = X.w) : PE X (.Dict [] [] pos) (tE c W znewI) :=
  pe_dnewI.zm fun σ H Q ⟨ρ, A, σd, R, S, h⟩ => fun p n => by
    obtain ⟨R2, s2⟩ := R.made (o := .dct []) (ho := DctO c.P c.w p []) n ⟨[], rfl, .nil⟩
    rw [← hP.1, ← hP.2]
    refine h _ _ R2 s2 _ (.ref ?_)
    rw [← R.len, List.getElem?_append_right (Nat.le_refl _), Nat.sub_self]
    rfl
theorem Rkv.sz : ∀ {kvs : List (List Int × D)} {ks : List (List Int × Addr × V)}, Rkv c ρ H kvs ks → ks.length = kvs.length
  | _, _, .nil => rfl
  | _, _, .cons _ _ t => by rw [List.length_cons, List.length_cons, Rkv.sz t]
theorem tupK {k : List Int} {ka : Addr} (r : Rv c ρ H (.tup (k.map .int)) (.ref ka)) : SqT c.K H ka (k.map V.int) := by
  cases r with
  | tup h t => rw [← t.ints (intsOf_ints k)]; exact h.sq
theorem Rkv.keys : ∀ {kvs : List (List Int × D)} {ks : List (List Int × Addr × V)}, Rkv c ρ H kvs ks → ∀ q ∈ ks, SqT c.K H q.2.1 (q.1.map V.int) ∧ ∃ p ∈ kvs, p.1 = q.1
  | _, _, .nil, _, hq => absurd hq List.not_mem_nil
  | _, _, .cons r _ t, q, hq => by
    rcases List.mem_cons.mp hq with e | e
    · subst e
      exact ⟨tupK r, _, List.mem_cons_self .., rfl⟩
    · obtain ⟨h1, p, h2, h3⟩ := Rkv.keys t q e
      exact ⟨h1, p, List.mem_cons_of_mem _ h2, h3⟩
theorem Rkv.refs : ∀ {kvs : List (List Int × D)} {ks : List (List Int × Addr × V)}, Rkv c ρ H kvs ks → Rvs c ρ H ((kvs.map (·.1)).map tupD) (ks.map fun q => V.ref q.2.1)
  | _, _, .nil => .nil
  | _, _, .cons r _ t => .cons r (Rkv.refs t)
theorem Rkv.put {kvs : List (List Int × D)} {ks : List (List Int × Addr × V)} {k : List Int} {d : D} {b : Addr} {v : V} (h : Rkv c ρ H kvs ks) (rk : Rv c ρ H (.tup (k.map .int)) (.ref b)) (rd : Rv c ρ H d v) : Rkv c ρ H (dPut kvs k d) (kvPut ks k b v) := by
  have e1 : ∀ {kvs : List (List Int × D)} {ks : List (List Int × Addr × V)}, Rkv c ρ H kvs ks → kvs.any (fun p => p.1 == k) = ks.any (fun q => q.1 == k) := by
    intro kvs ks h
    induction h with
    | nil => rfl
    | cons _ _ _ ih => rw [List.any_cons, List.any_cons, ih]
  have e2 : ∀ {kvs : List (List Int × D)} {ks : List (List Int × Addr × V)}, Rkv c ρ H kvs ks → Rkv c ρ H (kvs.map (fun p => if p.1 = k then (p.1, d) else p)) (ks.map (fun q => if q.1 = k then (q.1, q.2.1, v) else q)) := by
    intro kvs ks h
    induction h with
    | nil => exact .nil
    | @cons k0 d0 ka v0 kvs ks r r2 t ih =>
      rw [List.map_cons, List.map_cons]
      dsimp only
      by_cases e : k0 = k
      · rw [if_pos e, if_pos e]
        exact .cons r rd ih
      · rw [if_neg e, if_neg e]
        exact .cons r r2 ih
  have e3 : ∀ {kvs : List (List Int × D)} {ks : List (List Int × Addr × V)}, Rkv c ρ H kvs ks → Rkv c ρ H (kvs ++ [(k, d)]) (ks ++ [(k, b, v)]) := by
    intro kvs ks h
    induction h with
    | nil => exact .cons rk rd .nil
    | cons r r2 t ih => exact .cons r r2 ih
  unfold dPut kvPut
  rw [e1 h]
  by_cases q : ks.any (fun q => q.1 == k) = true
  · rw [if_pos q, if_pos q]
    exact e2 h
  · rw [if_neg q, if_neg q]
    exact e3 h
theorem Rel.dct (R : Rel c ρ A H) {n : Nat} {v : V} {kvs : List (List Int × D)} (hA : A[n]? = some (.dct kvs)) (r : Rv c ρ H (.ref n) v) : ∃ a ks, v = .ref a ∧ ρ[n]? = some a ∧ H a = some (DctO c.P c.w a ks) ∧ Rkv c ρ H kvs ks := by
  cases r with
  | ref h =>
    obtain ⟨ho, h1, ks, e, h3⟩ := R.obj _ _ _ hA h
    subst e
    exact ⟨_, ks, rfl, h, h1, h3⟩
theorem g_subI (hK : c.K = X.K) (hP : c.P = X.prog ∧ c.w = X.w) (hu : X.A.units + 65 < cLine) (ho : PE X o (tE c WN fo)) (hi : PE X i (tE c WN fi))
    (ha : ∀ v, assign (.Subscript o i pos) X.env v = (do
      let ov ← holding [v] (eval o X.env)
      let iv ← holding [v, ov] (eval i X.env)
      standAt pos
      holding [v, ov, iv] (setItem ov iv v)
      release [v, ov, iv] []) := by intro _; rfl) : PG X (.Subscript o i pos) (tG c false [] (gsubI fo fi)) :=
  (pg_sub ho hi (set_dctT (by omega)) ha).zm fun v σ H Q ⟨d, ρ, A, σd, R, S, r, h⟩ => by
    have r' : Rv c ρ H d v := by simpa using r
    refine show tE c WN fo σ H _ from one R S h fun x xv ρ1 A1 H1 R1 s1 S1 rx h1 => show tE c WN fi σ H1 _ from one R1 S1 h1 fun y yv ρ2 A2 H2 R2 s2 S2 ry h2 => ?_
    have rx2 := rx.to R1 s2
    have rv2 := (r'.to R s1).to R1 s2
    cases q : setI A2 x y d with
    | none => rw [q] at h2; exact h2.elim
    | some A3 =>
      rw [q] at h2
      unfold setI at q
      split at q
      · rename_i n xs
        split at q
        · rename_i kvs k hA hk
          split at q
          · rename_i hz
            cases q
            obtain ⟨a, ks, rfl, h3, h4, h5⟩ := R2.dct hA rx2
            have ex := intsOf_map hk
            subst ex
            obtain ⟨b, us, rfl, _⟩ : ∃ b us, yv = .ref b ∧ SqT c.K H2 b us := by
              cases ry with
              | tup h t => exact ⟨_, _, rfl, h.sq⟩
            obtain ⟨R3, s3⟩ := R2.wrote (o := .dct (dPut kvs k d)) h3 (ho := DctO c.P c.w a (kvPut ks k b v)) ⟨_, rfl, h5.put ry rv2⟩
            have hl := h5.sz
            have := SZ_le
            refine ⟨a, b, ks, k, rfl, rfl, by rw [h4, hP.1, hP.2], by omega, fun q hq => by rw [← hK]; exact (h5.keys q hq).1, by rw [← hK]; exact tupK ry, ?_⟩
            rw [← hP.1, ← hP.2]
            exact h2 _ _ R3 s3 σ (S2.to R2 s3) (Same.refl _ _)
          · cases q
        · cases q
      · cases q
theorem z_sortD (hK : c.K = X.K) (hP : c.P = X.prog ∧ c.w = X.w) (hcm : X.calm = true) (hg : Gl X "sorted") (hm : X.mg "sorted" = none) (h : PE X e (tE c W fo)) (hs : starEach [e] X.env = (false, eval e X.env) :: starEach [] X.env := by rfl) (hpl : (backTo pos (starEach [] X.env)).any (·.1) = false := by rfl) :
    PE X (.Call (.Name "sorted" p) [e] [] pos) (tN c W (zsortD fo)) :=
  (pe_callB (cr_sortDT hcm) hg hm boot_sorted (pa1 h hs) (he := hs) (hpl := hpl)).zm fun σ H Q ⟨ρ, A, σd, R, S, h⟩ => arg1 <| one R S h fun x xv ρ1 A1 H1 R1 s1 S1 rx h1 => by
    cases q : keysI A1 x with
    | none => rw [q] at h1; exact h1.elim
    | some ts =>
      rw [q] at h1
      unfold keysI at q
      split at q
      · rename_i n
        split at q
        · rename_i kvs hA
          split at q
          · rename_i hz
            cases q
            obtain ⟨a, ks, rfl, h3, h4, h5⟩ := R1.dct hA rx
            have hl := h5.sz
            have := SZ_le
            refine ⟨a, ks, rfl, by rw [h4, hP.1, hP.2], by omega, fun q hq => ?_, fun ys p pm pw n => ?_⟩
            · obtain ⟨k1, pp, k2, k3⟩ := h5.keys q hq
              refine ⟨by rw [← hK]; exact k1, fun z => ?_⟩
              have := List.all_eq_true.mp hz.2 pp k2
              rw [k3, z] at this
              cases this
            · obtain ⟨zs, py, ry⟩ := h5.refs.perm pm
              obtain ⟨ms, e5, pms⟩ := perm_tups py
              subst e5
              have pw3 := tups_pwL ry (by rw [hK]; exact pw)
              rw [uniq_tups pms pw3] at ry
              exact (h1 _ _ R1 .refl) p ys n ry
          · cases q
        · cases q
      · cases q
end
end Z

noncomputable section
set_option maxHeartbeats 2000000
namespace L2
open PySem PySem.Spec PyProof.Rows
section
variable {X : Cx} {pins : List (Addr × Obj)} {σ : St} {H : Hp} {s : Shared} {pos p p1 p2 p3 : Pos}
/-- a tuple of texts that the module keeps -/
def tupSB (x : Str) (zs : List Str) (K : PySem.W.Frag) : Bool := match K.lookup (He.ga K x) with
  | some ⟨c, d, .seq its _, _⟩ => decide (c = .type "tuple") && (d.isNone && (decide (its.size ≤ 1000) && He.relAll (zs.map V.str) its.toList))
  | _ => false
def TupSF (K : PySem.W.Frag) (a : Addr) (zs : List Str) : Prop := ∃ (o : Obj) (its : Array Value) (n : Nat), K.lookup a = some o ∧ o.cls = .type "tuple" ∧ o.dict = none ∧ o.data = .seq its n ∧ its.size ≤ sizeLine ∧ Vals (zs.map V.str) its.toList
theorem tupSB_ok {x : Str} {zs : List Str} {K : PySem.W.Frag} (h : tupSB x zs K = true) : TupSF K (He.ga K x) zs := by
  unfold tupSB at h
  split at h
  · rename_i c d its n sl e
    simp only [Bool.and_eq_true, decide_eq_true_eq] at h
    exact ⟨_, its, n, e, h.1, Option.isNone_iff_eq_none.mp h.2.1, rfl, by rw [sizeLine_eq]; have := h.2.2.1; omega, He.relAll_ok h.2.2.2⟩
  · cases h
/-- x == () -/
def rEqE (K : PySem.W.Frag) : R2 := fun x y H Q => ∃ a b xs, x = .ref a ∧ y = .ref b ∧ SqT K H a xs ∧ SqT K H b [] ∧ Q (.bl xs.isEmpty) H
theorem op_eqE (hu : X.A.units + 64 < cLine) : OpR X (compareOp .Eq) (rEqE X.K) := by
  intro pins s σ H x y v u Q I rx ry ⟨a, b, xs, e1, e2, ha, hb, q⟩
  subst e1 e2
  cases rx; cases ry
  obtain ⟨its, r1, p1, _⟩ := I.tuple ha
  obtain ⟨jts, r2, p2, _⟩ := I.tuple hb
  cases r2
  refine SeqAt.RcAt.tuples (e := fun _ => true) p1 p2 (by omega) (fun j _ h2 => absurd h2 (Nat.not_lt_zero _)) X.prog X.w X.xe _ ?_
  have e : ((List.range (min its.toArray.size ([] : List Value).toArray.size)).all (fun _ => true) && its.toArray.size == ([] : List Value).toArray.size) = xs.isEmpty := by
    have hl := r1.length
    cases its with
    | nil =>
      cases r1
      rfl
    | cons v vs =>
      cases r1
      simp
  rw [e]
  exact ⟨.bl _, H, I, rfl, q⟩
theorem adjust_rev (n : Nat) : Builtin.Slice.sliceAdjust none none (-1) (n : Int) = ((n : Int) - 1, -1) := by
  unfold Builtin.Slice.sliceAdjust
  first | rfl | simp
theorem places_rev (n : Nat) : Builtin.Slice.slicePlaces ((n : Int) - 1) (-1) (-1) = n := by
  unfold Builtin.Slice.slicePlaces
  by_cases h : 0 < n
  · simp
    omega
  · have : n = 0 := by omega
    subst this
    simp
theorem pick_rev (xs : Array Value) : ((List.range xs.size).filterMap fun (m : Nat) => xs[(((xs.size : Int) - 1) + (m : Int) * (-1)).toNat]?).toArray = xs.toList.reverse.toArray := by
  congr 1
  have h1 : ((List.range xs.size).filterMap fun (m : Nat) => xs[(((xs.size : Int) - 1) + (m : Int) * (-1)).toNat]?) = (((List.range xs.size).map fun k => xs.size - 1 - k).filterMap (xs[·]?)) := by
    have e0 : (fun (m : Nat) => xs[(((xs.size : Int) - 1) + (m : Int) * (-1)).toNat]?) = (fun (j : Nat) => xs[j]?) ∘ fun (m : Nat) => (((xs.size : Int) - 1) + (m : Int) * (-1)).toNat := rfl
    rw [e0, ← List.filterMap_map]
    congr 1
    refine List.map_congr_left fun m hm => ?_
    have := List.mem_range.mp hm
    omega
  rw [h1, PySem.W.krv_range, List.filterMap_reverse, PySem.W.krv_all]
theorem getItem_tuple_rev {prog : Program} {w : World} {A : Around} {E : Value → Shared → Prop} {t sl : Addr} {items : Array Value} {vs : Value} {Q : Value → Shared → Prop} (ht : IsTup s.heap t items) (hs : s.heap.IsSliceOf sl .none .none vs) (ps : IsPart vs (some (-1)))
    (h : Q (.ref s.heap.objs.size) { s with heap := s.heap.push { cls := .type "tuple", data := .seq items.toList.reverse.toArray } })
    (hsz : items.size ≤ sizeLine) : wpAny (model prog w) A (getItem (.ref t) (.ref sl)) Q E s := by
  have htake : sizeOk (.seq items.toList.reverse.toArray) := by
    show items.toList.reverse.toArray.size ≤ sizeLine
    rw [List.size_toArray, List.length_reverse, Array.length_toList]
    exact hsz
  obtain ⟨os, hos, hcs, hds⟩ := id hs
  have hTs : s.TypeIs (.ref sl) "slice" := ⟨os, hos, hcs⟩
  unfold getItem
  try with_reducible refine wpAny_holding ?_
  first | refine wpAny_bind (wpAny_pure ?_) | skip
  refine wpAny_bind (wpAny_sequenceKey ht.typeIs (by decide) ?_)
  refine wpAny_bind (wpAny_callSpecial?_slot (name := Str.ofString "__getitem__") ht.typeIs PyProof.Rows.slot_tuple_getitem
    (wpAny_call_entry PyProof.Rows.slot_tuple_getitem ht.typeIs entry_tuple_getitem ?_ (args_tuple_getitem _ _)))
  show wpAny _ _ (Builtin.Tuple.tupleItemsOf (.ref t) >>= _) _ _ s
  refine wpAny_bind (tupleItemsOf_ ht ?_)
  refine wpAny_bind (wpAny_typeOf hTs ?_)
  rw [if_pos (by decide)]
  refine wpAny_bind ?_
  unfold Builtin.Slice.sliceApplied Builtin.Slice.sliceFields
  refine wpAny_bind (wpAny_bind (wpAny_field hos hds (x := .none) rfl (wpAny_bind (wpAny_field hos hds (x := .none) rfl (wpAny_bind (wpAny_field hos hds (x := vs) rfl (wpAny_pure ?_)))))))
  refine wpAny_bind (HT.slicePart_ ps ?_)
  show wpAny _ _ (if ((-1 : Int) == 0) = true then _ else _) _ _ s
  rw [if_neg (by decide)]
  refine wpAny_bind (HT.slicePart_ (.none) (wpAny_bind (HT.slicePart_ (.none) (wpAny_bind (wpAny_pure ?_)))))
  show wpAny _ _ (match Builtin.Slice.sliceAdjust none none (-1) (items.size : Int) with | (lo, hi) => pure (lo, (-1 : Int), Builtin.Slice.slicePlaces lo hi (-1))) _ _ s
  rw [adjust_rev]
  show wpAny _ _ (pure ((items.size : Int) - 1, (-1 : Int), Builtin.Slice.slicePlaces ((items.size : Int) - 1) (-1) (-1))) _ _ s
  rw [places_rev]
  refine wpAny_pure ?_
  have hno : ¬ (((((items.size : Int) - 1)) == 0 && (-1 : Int) == 1 && items.size == items.size) = true) := by
    simp
  show wpAny _ _ (if (((items.size : Int) - 1) == 0 && (-1 : Int) == 1 && items.size == items.size) = true then _ else _) _ _ s
  rw [if_neg hno, pick_rev]
  first
    | exact wpAny_bind (m := Builtin.Tuple.tupleExact _) (wpAny_newObj_type (wpAny_pure ⟨_, rfl, wpAny_pure h⟩) htake)
    | exact wpAny_bind (m := Builtin.Tuple.tupleExact _) (wpAny_newObj_type (wpAny_bind (wpAny_pure (wpAny_pure ⟨_, rfl, wpAny_pure h⟩))) htake)
    | exact wpAny_bind (wpAny_bind (m := Builtin.Tuple.tupleExact _) (wpAny_newObj_type (wpAny_pure (wpAny_pure ⟨_, rfl, wpAny_pure h⟩)) htake))
    | exact wpAny_bind (wpAny_bind (m := Builtin.Tuple.tupleExact _) (wpAny_newObj_type (wpAny_pure ⟨_, rfl, wpAny_pure h⟩) htake))
/-- t[::-1] -/
def tRevF (K : PySem.W.Frag) (te : TE) : TE := fun σ H Q => te σ H fun x H1 => ∃ a xs, x = .ref a ∧ SqT K H1 a xs ∧ ∀ p o, H1 p = none → o.dict = none → Q (.ref p) (upd H1 p (.frz o (.tup xs.reverse)))
theorem pe_revF {e : Expr} {te : TE} {k : Nat} (he : PE X e te) : PE X (.Subscript e (.Slice none none (some (.UnaryOp .USub (.Constant (.int 1) k p1) p2)) p3) pos) (tRevF X.K te) := by
  refine ⟨fun pins s σ H Q I h => ?_⟩
  refine Subscript_ (thn (he.run pins s σ H _ I h) fun v s1 ⟨x, H1, I1, r1, q1⟩ => ?_)
  obtain ⟨a, xs, ex, hx, q⟩ := q1
  subst ex
  cases r1
  have hst : PO X (some (.UnaryOp .USub (.Constant (.int 1) k p1) p2)) (tPart (tUn (rU fun i => .int (-i)) (tC (.int 1)))) := po_some (pe_un un_neg pe_int)
  refine wpAny_Slice (thn (po_none.run pins s1 σ H1 (fun o H2 => o = none ∧ H2 = H1) I1 ⟨rfl, rfl⟩) fun vl s2 ⟨l, H2, I2, pl, el, e2⟩ => ?_)
  subst el e2
  refine thn (po_none.run pins s2 σ H2 (fun o H3 => o = none ∧ H3 = H2) I2 ⟨rfl, rfl⟩) fun vu s3 ⟨u, H3, I3, pu, eu, e3⟩ => ?_
  subst eu e3
  refine thn (hst.run pins s3 σ H3 (fun o H4 => o = some (-1) ∧ H4 = H3) I3 ⟨1, rfl, -1, rfl, rfl, rfl⟩) fun vs s4 ⟨o, H4, I4, ps, eo, e4⟩ => ?_
  subst eo e4
  have I5 : Inv X pins σ H4 { s4 with heap := s4.heap.push { cls := .type "slice", data := .fields #[vl, vu, vs] } } := I4.kept (t' := s4.toks) fun b ob q => Heap.get?_push_of_some _ q
  obtain ⟨its, r, ht, hz⟩ := I5.tuple hx
  have hlen := r.length
  cases pl
  cases pu
  show wpAny (model X.prog X.w) X.A (subscriptTail e (.Slice none none (some (.UnaryOp .USub (.Constant (.int 1) k p1) p2)) p3) (.ref a) (.ref s4.heap.objs.size)) (EP X pins σ Q) X.xe { s4 with heap := s4.heap.push { cls := .type "slice", data := .fields #[.none, .none, vs] } }
  refine tail_any (ops := [.ref a, .ref s4.heap.objs.size]) ht.typeIs (PyProof.Rows.slot_tuple_getitem.lookup) ?_ (by with_unfolding_all rfl)
  refine getItem_tuple_rev ht (Heap.IsSliceOf.new _ .none .none vs) ps ?_ (by rw [List.size_toArray]; omega)
  exact Z.tp_fin (s := { s4 with heap := s4.heap.push { cls := .type "slice", data := .fields #[.none, .none, vs] } }) (tk := s4.toks) I5 (by simpa using r.reverse) (by rw [List.length_reverse]; exact hz) q
end
end L2
namespace Z
open PySem PySem.Spec PyProof.Rows L2
/-- t[::-1] -/
def zrevT (a : Ev D) : Ev D := fun σ => mb (a σ) fun x => match x with
  | .tup xs => ok (.tup xs.reverse)
  | _ => fun _ => none
section
variable {X : Cx} {c : Cn} {W : WX} {a b d e o i tg : Expr} {fa fb fd fo fi : Ev D} {pos p p1 p2 p3 : Pos} {ρ : List Addr} {H : Hp} {k : Nat} {x : Str}
theorem z_revT (hK : c.K = X.K) (h : PE X e (tE c W fo)) : PE X (.Subscript e (.Slice none none (some (.UnaryOp .USub (.Constant (.int 1) k p1) p2)) p3) pos) (tE c W (zrevT fo)) :=
  (pe_revF h).zm fun σ H Q ⟨ρ, A, σd, R, S, h⟩ => one R S h fun x xv ρ1 A1 H1 R1 s1 S1 rx h1 => by
    cases rx <;> first | exact False.elim h1 | skip
    rename_i a xs vs t r
    refine ⟨a, vs, rfl, by rw [← hK]; exact t.sq, fun p o n hd => ?_⟩
    obtain ⟨R2, s2, _⟩ := R1.laid (ho := .frz o (.tup vs.reverse)) n
    exact h1 ρ1 _ R2 s2 _ (.tup (.inl ⟨o, upd_same, hd⟩) ((r.to R1 s2).rev))
theorem z_gtup {zs : List Str} {g : Addr} (hK : c.K = X.K) (hg : Gl X x) (hm : X.mg x = some (.ref g)) (F : TupSF X.K g zs) (hd : (x == ("__debug__" : Str)) = false := by decide) : PE X (.Name x pos) (tE c W (zc (.tup (zs.map .str)))) := by
  obtain ⟨o, its, n, h1, h2, h3, h4, h5, h6⟩ := F
  exact (pe_glob (v := .ref g) hg hm rfl hd).zm fun σ H Q ⟨ρ, A, σd, R, S, h⟩ => h.old R (.tup (.inr ⟨o, its, n, by rw [hK]; exact h1, h2, h3, h4, h5, h6⟩) (Rvs.of_strs zs))
theorem cok_isB : COk X c .isB .Is := by
  refine ⟨_, op_isBl, fun ρ A H x y v u Q k R rv ru e q => ?_⟩
  cases rv <;> cases ru <;> first | (simp [copD] at e; done) | skip
  simp only [copD, Option.some.injEq] at e
  subst e
  exact ⟨_, _, rfl, rfl, q⟩
theorem cok_notB : COk X c .notB .IsNot := by
  refine ⟨_, op_notBl, fun ρ A H x y v u Q k R rv ru e q => ?_⟩
  cases rv <;> cases ru <;> first | (simp [copD] at e; done) | skip
  simp only [copD, Option.some.injEq] at e
  subst e
  exact ⟨_, _, rfl, rfl, q⟩
theorem cok_eqE (hu : X.A.units + 65 < cLine) (hK : c.K = X.K) : COk X c .eqE .Eq := by
  refine ⟨_, op_eqE (by omega), fun ρ A H x y v u Q k R rv ru e q => ?_⟩
  cases rv <;> cases ru <;> first | (simp [copD] at e; done) | skip
  rename_i a xs vs t r b ys us t2 r2
  cases ys with
  | cons _ _ => simp [copD] at e
  | nil =>
    simp only [copD, Option.some.injEq] at e
    subst e
    cases r2
    refine ⟨a, b, vs, rfl, rfl, by rw [← hK]; exact t.sq, by rw [← hK]; exact t2.sq, ?_⟩
    have : vs.isEmpty = xs.isEmpty := by
      cases r <;> rfl
    rw [this]
    exact q
end
end Z
namespace Z
theorem ba2 {a b : Bool} (h : (a && b) = true) : a = true ∧ b = true := by simpa using h
end Z

noncomputable section
set_option maxHeartbeats 2000000
namespace L2
open PySem PySem.Spec PyProof.Rows
section
variable {X : Cx}
/-- d[k] = v -/
def rSetDK : V → V → V → Hp → (Hp → Prop) → Prop := fun o i v H Q => ∃ (a : Addr) (H' : Hp), o = .ref a ∧ DPut H a i v H' ∧ Q H'
theorem set_dck (hu : X.A.units + 64 < cLine) : PSet X rSetDK := by
  intro pins s σ H o i v ov iv u Q I ro ri rv h
  obtain ⟨a, H', rfl, g, q⟩ := h
  cases ro
  exact d_setItem (by omega) I g ri rv fun s' I' => ⟨_, I', q⟩
theorem op_inDK (hu : X.A.units + 1 < cLine) : OpR X (compareOp .In) (fun x y H Q => ∃ a o, y = .ref a ∧ DGet H a x o ∧ Q (.bl o.isSome) H) := by
  intro pins s σ H x y v u Q I rv ru ⟨a, o, e, g, q⟩
  subst e
  cases ru
  exact d_in hu I g rv fun s' I' => ⟨.bl o.isSome, _, I', rfl, q⟩
theorem op_notInDK (hu : X.A.units + 1 < cLine) : OpR X (compareOp .NotIn) (fun x y H Q => ∃ a o, y = .ref a ∧ DGet H a x o ∧ Q (.bl (!o.isSome)) H) := by
  intro pins s σ H x y v u Q I rv ru ⟨a, o, e, g, q⟩
  subst e
  cases ru
  exact d_notIn hu I g rv fun s' I' => ⟨.bl (!o.isSome), _, I', rfl, q⟩
end
end L2
namespace Z
open PySem PySem.Spec PyProof.Rows L2
/-- {}, a new object -/
def znewK : Ev D := fun _ => alloc (.dck [])
def kPut (kvs : List (Key × D)) (k : Key) (d : D) : List (Key × D) := if kvs.any (fun kv => decide (kv.1 = k)) then kvs.map (fun kv => if kv.1 = k then (kv.1, d) else kv) else kvs ++ [(k, d)]
def setK (A : Hh) (x y d : D) : Option Hh := match x, y with
  | .ref n, .int k => match A[n]? with
    | some (.dck kvs) => if kvs.length < SZ then some (A.set n (.dck (kPut kvs (.inl k) d))) else none
    | _ => none
  | _, _ => none
/-- d[k] = v, k an int -/
def gsubK (o i : Ev D) : Gv := fun d σ => mb (o σ) fun x => mb (i σ) fun y A => (setK A x y d).map fun A' => .ok σ A'
section
variable {X : Cx} {c : Cn} {W : WX} {a b d e o i tg : Expr} {fa fb fd fo fi : Ev D} {pos p : Pos} {ρ : List Addr} {H : Hp} {A : Hh}
theorem z_newK : PE X (.Dict [] [] pos) (tE c W znewK) :=
  pe_dnewK.zm fun σ H Q ⟨ρ, A, σd, R, S, h⟩ => fun p n => by
    obtain ⟨R2, s2⟩ := R.made (o := .dck []) (ho := .dK []) n ⟨[], rfl, .nil⟩
    refine h _ _ R2 s2 _ (.ref ?_)
    rw [← R.len, List.getElem?_append_right (Nat.le_refl _), Nat.sub_self]
    rfl
theorem Rck.sz : ∀ {kvs : List (Key × D)} {ks : List (Key × V)}, Rck c ρ H kvs ks → ks.length = kvs.length
  | _, _, .nil => rfl
  | _, _, .cons _ t => by rw [List.length_cons, List.length_cons, Rck.sz t]
theorem Rck.put {kvs : List (Key × D)} {ks : List (Key × V)} {k : Key} {d : D} {v : V} (h : Rck c ρ H kvs ks) (rd : Rv c ρ H d v) : Rck c ρ H (kPut kvs k d) (putK ks k v) := by
  have e1 : ∀ {kvs : List (Key × D)} {ks : List (Key × V)}, Rck c ρ H kvs ks → kvs.any (fun p => decide (p.1 = k)) = ks.any (fun q => decide (q.1 = k)) := by
    intro kvs ks h
    induction h with
    | nil => rfl
    | cons _ _ ih => rw [List.any_cons, List.any_cons, ih]
  have e2 : ∀ {kvs : List (Key × D)} {ks : List (Key × V)}, Rck c ρ H kvs ks → Rck c ρ H (kvs.map (fun p => if p.1 = k then (p.1, d) else p)) (ks.map (fun q => if q.1 = k then (q.1, v) else q)) := by
    intro kvs ks h
    induction h with
    | nil => exact .nil
    | @cons k0 d0 v0 kvs ks r t ih =>
      rw [List.map_cons, List.map_cons]
      dsimp only
      by_cases e : k0 = k
      · rw [if_pos e, if_pos e]
        exact .cons rd ih
      · rw [if_neg e, if_neg e]
        exact .cons r ih
  have e3 : ∀ {kvs : List (Key × D)} {ks : List (Key × V)}, Rck c ρ H kvs ks → Rck c ρ H (kvs ++ [(k, d)]) (ks ++ [(k, v)]) := by
    intro kvs ks h
    induction h with
    | nil => exact .cons rd .nil
    | cons r t ih => exact .cons r ih
  unfold kPut putK
  rw [e1 h]
  by_cases q : ks.any (fun q => decide (q.1 = k)) = true
  · rw [if_pos q, if_pos q]
    exact e2 h
  · rw [if_neg q, if_neg q]
    exact e3 h
theorem Rel.dck (R : Rel c ρ A H) {n : Nat} {v : V} {kvs : List (Key × D)} (hA : A[n]? = some (.dck kvs)) (r : Rv c ρ H (.ref n) v) : ∃ a ks, v = .ref a ∧ ρ[n]? = some a ∧ H a = some (.dK ks) ∧ Rck c ρ H kvs ks := by
  cases r with
  | ref h =>
    obtain ⟨ho, h1, ks, e, h3⟩ := R.obj _ _ _ hA h
    subst e
    exact ⟨_, ks, rfl, h, h1, h3⟩
theorem g_subK (hu : X.A.units + 65 < cLine) (ho : PE X o (tE c WN fo)) (hi : PE X i (tE c WN fi))
    (ha : ∀ v, assign (.Subscript o i pos) X.env v = (do
      let ov ← holding [v] (eval o X.env)
      let iv ← holding [v, ov] (eval i X.env)
      standAt pos
      holding [v, ov, iv] (setItem ov iv v)
      release [v, ov, iv] []) := by intro _; rfl) : PG X (.Subscript o i pos) (tG c false [] (gsubK fo fi)) :=
  (pg_sub ho hi (set_dck (by omega)) ha).zm fun v σ H Q ⟨d, ρ, A, σd, R, S, r, h⟩ => by
    have r' : Rv c ρ H d v := by simpa using r
    refine show tE c WN fo σ H _ from one R S h fun x xv ρ1 A1 H1 R1 s1 S1 rx h1 => show tE c WN fi σ H1 _ from one R1 S1 h1 fun y yv ρ2 A2 H2 R2 s2 S2 ry h2 => ?_
    have rx2 := rx.to R1 s2
    have rv2 := (r'.to R s1).to R1 s2
    cases q : setK A2 x y d with
    | none => rw [q] at h2; exact h2.elim
    | some A3 =>
      rw [q] at h2
      unfold setK at q
      split at q
      · rename_i n k
        split at q
        · rename_i kvs hA
          split at q
          · rename_i hz
            cases q
            obtain ⟨a, ks, rfl, h3, h4, h5⟩ := R2.dck hA rx2
            cases ry
            obtain ⟨R3, s3⟩ := R2.wrote (o := .dck (kPut kvs (.inl k) d)) h3 (ho := .dK (putK ks (.inl k) v)) ⟨_, rfl, h5.put rv2⟩
            have hl := h5.sz
            have := SZ_le
            exact ⟨a, _, rfl, DPut.k (k := .inl k) h4 (by omega), h2 _ _ R3 s3 σ (S2.to R2 s3) (Same.refl _ _)⟩
          · cases q
        · cases q
      · cases q
/-- k in d -/
def dinD (x y : D) (A : Hh) : Option Bool := match x, y with
  | .int k, .ref n => match A[n]? with
    | some (.dck kvs) => some (kvs.any fun p => decide (p.1 = .inl k))
    | _ => none
  | _, _ => none
def dixD (x y : D) (A : Hh) : Option D := match x, y with
  | .ref n, .int k => match A[n]? with
    | some (.dck kvs) => (kvs.find? fun p => decide (p.1 = .inl k)).map (·.2)
    | _ => none
  | _, _ => none
/-- d[k] -/
def zdget (o i : Ev D) : Ev D := fun σ => mb (o σ) fun x => mb (i σ) fun y A => (dixD x y A).map fun d => .ok d A
theorem Rck.any (k : Key) : ∀ {kvs : List (Key × D)} {ks : List (Key × V)}, Rck c ρ H kvs ks → (kvs.any fun p => decide (p.1 = k)) = (valV ks k).isSome
  | _, _, .nil => rfl
  | _, _, .cons (k := k0) r t => by
    rw [List.any_cons, Rck.any k t]
    by_cases e : k0 = k
    · rw [valV_pos (p := (k0, _)) e]; simp [e]
    · rw [valV_neg (p := (k0, _)) e]; simp [e]
theorem Rck.at (k : Key) {d : D} : ∀ {kvs : List (Key × D)} {ks : List (Key × V)}, Rck c ρ H kvs ks → (kvs.find? fun p => decide (p.1 = k)).map (·.2) = some d → ∃ v, valV ks k = some v ∧ Rv c ρ H d v
  | _, _, .nil, h => by cases h
  | _, _, .cons (k := k0) r t, h => by
    by_cases e : k0 = k
    · rw [List.find?_cons_of_pos (by simp [e])] at h
      cases h
      exact ⟨_, valV_pos (p := (k0, _)) e, r⟩
    · rw [List.find?_cons_of_neg (by simp [e])] at h
      rw [valV_neg (p := (k0, _)) e]
      exact Rck.at k t h
theorem z_dget (hu : X.A.units + 1 < cLine) (ho : PE X o (tE c W fo)) (hi : PE X i (tE c W fi)) (hs : NoSl i) : PE X (.Subscript o i pos) (tE c W (zdget fo fi)) :=
  (pe_dget hu ho hi hs).zm fun σ H Q ⟨ρ, A, σd, R, S, h⟩ => two R S h fun x y v u ρ2 A2 H2 R2 s2 S2 rv ru h2 => by
    cases q : dixD x y A2 with
    | none => rw [q] at h2; exact h2.elim
    | some d =>
      rw [q] at h2
      unfold dixD at q
      split at q
      · rename_i n k
        split at q
        · rename_i kvs hA
          obtain ⟨a, ks, rfl, h3, h4, h5⟩ := R2.dck hA rv
          cases ru
          obtain ⟨w, e1, rw1⟩ := h5.at _ q
          exact ⟨a, w, rfl, by rw [← e1]; exact DGet.k (k := .inl k) h4, h2 _ _ R2 .refl w rw1⟩
        · cases q
      · cases q
def zdin (x d : Ev D) : Ev Bool := fun σ => mb (x σ) fun x => mb (d σ) fun y A => (dinD x y A).map fun k => .ok k A
def zdnin (x d : Ev D) : Ev Bool := fun σ => mb (x σ) fun x => mb (d σ) fun y A => (dinD x y A).map fun k => .ok (!k) A
theorem dinD_ok {x y : D} {v u : V} {k : Bool} (R : Rel c ρ A H) (rv : Rv c ρ H x v) (ru : Rv c ρ H y u) (q : dinD x y A = some k) : ∃ a o, u = .ref a ∧ DGet H a v o ∧ k = o.isSome := by
  unfold dinD at q
  split at q
  · rename_i k0 n
    split at q
    · rename_i kvs hA
      cases q
      obtain ⟨a, ks, rfl, h3, h4, h5⟩ := R.dck hA ru
      cases rv
      exact ⟨a, _, rfl, DGet.k (k := .inl k0) h4, h5.any _⟩
    · cases q
  · cases q
theorem z_dinT (hu : X.A.units + 65 < cLine) (ha : PE X a (tE c W fa)) (hb : PE X b (tE c W fb)) (hm : behindInMarks .In b = false := by first | exact nomark _ | rfl) : PT X (.Compare a [.In] [b] pos) (tT c W (zdin fa fb)) :=
  (pt_cmpR (op_inDK (by omega)) ha hb hm).zm fun σ H Q ⟨ρ, A, σd, R, S, h⟩ => two R S h fun x y v u ρ2 A2 H2 R2 s2 S2 rv ru h2 => by
    obtain ⟨k, q, h3⟩ := mapL (g := fun k => k) R2 h2
    obtain ⟨a, o, rfl, g, e⟩ := dinD_ok R2 rv ru q
    exact ⟨a, o, rfl, g, _, rfl, by rw [← e]; exact h3⟩
theorem z_dninT (hu : X.A.units + 65 < cLine) (ha : PE X a (tE c W fa)) (hb : PE X b (tE c W fb)) (hm : behindInMarks .NotIn b = false := by first | exact nomark _ | rfl) : PT X (.Compare a [.NotIn] [b] pos) (tT c W (zdnin fa fb)) :=
  (pt_cmpR (op_notInDK (by omega)) ha hb hm).zm fun σ H Q ⟨ρ, A, σd, R, S, h⟩ => two R S h fun x y v u ρ2 A2 H2 R2 s2 S2 rv ru h2 => by
    obtain ⟨k, q, h3⟩ := mapL (g := fun k => !k) R2 h2
    obtain ⟨a, o, rfl, g, e⟩ := dinD_ok R2 rv ru q
    exact ⟨a, o, rfl, g, _, rfl, by rw [← e]; exact h3⟩
end
end Z

noncomputable section
set_option maxHeartbeats 2000000
namespace Z
open PySem PySem.Spec PyProof.Rows L2
def dAt (kvs : List (Key × D)) (k : Key) : Option D := (kvs.find? fun p => decide (p.1 = k)).map (·.2)
def okE (kvs : List (Key × D)) (p : Key × D) : Bool := match p.1, dAt kvs p.1 with
  | .inl _, some (.int _) => true
  | _, _ => false
def selK (kvs : List (Key × D)) (m : Int) (k : Key) : Option Int := match k, dAt kvs k with
  | .inl k, some (.int v) => if v = m then some k else none
  | _, _ => none
/-- [k for k in d if d[k] == x], d in slot di, x in slot xi -/
def zdkeys (di xi j : Nat) : Ev (List D) := fun σ A => match σ[di]?, σ[xi]? with
  | some (some (.ref n)), some (some (.int m)) => match A[n]? with
    | some (.dck kvs) => if (j < σ.length ∧ kvs.length < 1000) ∧ kvs.all (okE kvs) = true then some (.ok ((kvs.filterMap fun p => selK kvs m p.1).map D.int) A) else none
    | _ => none
  | _, _ => none
section
variable {X : Cx} {c : Cn} {W : WX} {dE dF xE kE kF tg : Expr} {scope : Scope} {own : List (Str × Nat)} {pos p1 p2 : Pos} {ρ : List Addr} {H : Hp} {A : Hh}
theorem Rck.keys : ∀ {kvs : List (Key × D)} {ks : List (Key × V)}, Rck c ρ H kvs ks → ks.map (·.1) = kvs.map (·.1)
  | _, _, .nil => rfl
  | _, _, .cons _ t => by rw [List.map_cons, List.map_cons, Rck.keys t]
theorem rvs_ints : ∀ (ns : List Int), Rvs c ρ H (ns.map D.int) (ns.map V.int)
  | [] => .nil
  | n :: ns => .cons (.int n) (rvs_ints ns)
theorem dkeys_core {di xi j : Nat} (hdj : di ≠ j) (hxj : xi ≠ j) {σ : L2.St} {H : Hp} {Q : VK} (h : tN c W (zdkeys di xi j) σ H Q) :
    tLockE (tLc (iKeys (tVar di)) (gName j) (tB (tEqI (tDGet (tVar di) (tVar j)) (tVar xi))) (tVar j) [j]) σ H Q := by
  obtain ⟨ρ, A, σd, R, S, h⟩ := h
  unfold zdkeys at h
  split at h
  · rename_i n m e1 e2
    split at h
    · rename_i kvs hA
      split at h
      · rename_i hz
        obtain ⟨vd, s1, r1⟩ := S.get di _ e1
        obtain ⟨vx, s2, r2⟩ := S.get xi _ e2
        obtain ⟨a, ks, rfl, h3, h4, h5⟩ := R.dck hA r1
        cases r2
        have hl := h5.sz
        refine ⟨a, .dK ks, h4, True.intro, fun od => ?_⟩
        obtain ⟨H1, hH1⟩ : ∃ H1, H1 = upd H a (.frz od (.dK ks)) := ⟨_, rfl⟩
        have ha1 : H1 a = some (.frz od (.dK ks)) := by rw [hH1]; exact upd_same
        rw [← hH1]
        refine ⟨.ref a, s1, a, od, rfl, .inl ⟨ks, ha1, fun D hD => ?_⟩⟩
        have hne : a ≠ D := fun e => by rw [← e, ha1] at hD; cases hD
        have aD : ∀ u, upd H1 D u a = some (.frz od (.dK ks)) := fun u => by rw [upd_ne hne]; exact ha1
        refine lc_it walk_keys (fun i H' => H' = upd H1 D (.lst (((ks.take i).filterMap fun p => selK kvs m p.1).map V.int))) rfl (fun i H' _ e => by rw [e]; exact aD _) (fun i x H' H'' hi e ⟨e', k, v, hk1, ex⟩ => ?_) (fun H' e => ?_)
        · subst e
          subst e'
          subst ex
          have sl : ∀ (y : V), ((wipe σ [j]).set j (some y))[di]? = some (some (.ref a)) ∧ ((wipe σ [j]).set j (some y))[xi]? = some (some (.int m)) := fun y => by
            rw [List.getElem?_set_ne (Ne.symm hdj), List.getElem?_set_ne (Ne.symm hxj), wipe_out (by simpa using hdj), wipe_out (by simpa using hxj)]
            exact ⟨s1, s2⟩
          have jl : j < (wipe σ [j]).length := by rw [wipe_length, ← S.len]; exact hz.1.1
          have sj : ∀ (y : V), ((wipe σ [j]).set j (some y))[j]? = some (some y) := fun y => List.getElem?_set_self jl
          have hik : kvs[i]?.map (·.1) = some k := by
            have := congrArg (fun l => l[i]?) h5.keys
            simp only [List.getElem?_map, hk1, Option.map_some] at this
            exact this.symm
          obtain ⟨p, hp, hpk⟩ := Option.map_eq_some_iff.mp hik
          have okp := List.all_eq_true.mp hz.2 p (List.mem_of_getElem? hp)
          unfold okE at okp
          split at okp
          · rename_i kk vi e3 e4
            rw [e3] at hpk e4
            subst hpk
            obtain ⟨w, ew, rw'⟩ := h5.at _ e4
            cases rw'
            have sk : selK kvs m (.inl kk) = if vi = m then some kk else none := by unfold selK; rw [e4]
            refine ⟨?_, .ref a, (sl _).1, _, sj _, a, .int vi, rfl, .inl ⟨ks, .inl kk, .inr ⟨od, aD _⟩, rfl, ew.symm⟩, .int m, (sl _).2, vi, m, rfl, rfl, _, rfl, ?_⟩
            · show (((σ.set j none).set j _).set j none) = σ.set j none
              rw [List.set_set, List.set_set]
            · have tk : ((ks.take (i + 1)).filterMap fun p => selK kvs m p.1) = ((ks.take i).filterMap fun p => selK kvs m p.1) ++ (if vi = m then [kk] else []) := by
                rw [List.take_add_one, List.filterMap_append, hk1]
                congr 1
                show List.filterMap (fun p => selK kvs m p.1) [(Sum.inl kk, v)] = _
                rw [List.filterMap_cons, sk]
                by_cases q : vi = m
                · rw [if_pos q, if_pos q]; rfl
                · rw [if_neg q, if_neg q]; rfl
              by_cases q : vi = m
              · rw [if_pos q] at tk
                have dq : (decide (vi = m)) = true := decide_eq_true q
                show (if decide (vi = m) = true then _ else _)
                rw [if_pos dq]
                refine ⟨_, sj _, _, upd_same, ?_, ?_⟩
                · rw [List.length_map]
                  have l1 := List.length_filterMap_le (fun p : Key × V => selK kvs m p.1) (ks.take i)
                  have l2 : (ks.take i).length ≤ ks.length := by rw [List.length_take]; omega
                  have := SZ_le
                  unfold SZ at this
                  omega
                · show upd _ _ _ = _
                  rw [tk, List.map_append]
                  funext b
                  unfold upd
                  split <;> rfl
              · rw [if_neg q, List.append_nil] at tk
                have dq : ¬ (decide (vi = m)) = true := by simp [q]
                show (if decide (vi = m) = true then _ else _)
                rw [if_neg dq]
                rw [tk]
          · cases okp
        · subst e
          refine ⟨aD _, ?_⟩
          have hD' : H D = none := by rw [← hD, hH1, upd_ne (Ne.symm hne)]
          rw [List.take_length] at *
          have ek : (ks.filterMap fun p => selK kvs m p.1) = kvs.filterMap fun p => selK kvs m p.1 := by
            have e1 : (ks.filterMap fun p => selK kvs m p.1) = (ks.map (·.1)).filterMap (selK kvs m) := by rw [List.filterMap_map]; rfl
            have e2 : (kvs.filterMap fun p => selK kvs m p.1) = (kvs.map (·.1)).filterMap (selK kvs m) := by rw [List.filterMap_map]; rfl
            rw [e1, e2, h5.keys]
          have q := h ρ H R .refl D _ hD' (rvs_ints _)
          rw [← ek] at q
          have eh : upd (upd H1 D (.lst ((ks.filterMap fun p => selK kvs m p.1).map V.int))) a (.dK ks) = upd H D (.lst ((ks.filterMap fun p => selK kvs m p.1).map V.int)) := by
            funext b
            by_cases q1 : b = a
            · subst q1
              rw [upd_same, upd_ne hne, h4]
            · rw [upd_ne q1]
              by_cases q2 : b = D
              · subst q2; rw [upd_same, upd_same]
              · rw [upd_ne q2, upd_ne q2, hH1, upd_ne q1]
          rw [eh]
          exact q
      · exact h.elim
    · exact h.elim
  · exact h.elim
theorem z_dkeys {di xi j : Nat} (hu : X.A.units + 65 < cLine) (hc : X.calm = true) (hN : X.N.Nodup) (ok : BlkOk X.N X.env.scope scope own) (hown : own.map (·.2) = [j]) (hdj : di ≠ j) (hxj : xi ≠ j)
    (hi : PE X dE (tVar di)) (hgk : ∀ (s : Shared) (H : Hp) (C : Addr) (cl : List (Str × Addr)) (fp : List Addr), PG (X.blk s H scope (compEnvC scope cl C X.env) fp) tg (gName j))
    (hd : ∀ (s : Shared) (H : Hp) (C : Addr) (cl : List (Str × Addr)) (fp : List Addr), PE (X.blk s H scope (compEnvC scope cl C X.env) fp) dF (tVar di))
    (hk : ∀ (s : Shared) (H : Hp) (C : Addr) (cl : List (Str × Addr)) (fp : List Addr), PE (X.blk s H scope (compEnvC scope cl C X.env) fp) kE (tVar j))
    (hk2 : ∀ (s : Shared) (H : Hp) (C : Addr) (cl : List (Str × Addr)) (fp : List Addr), PE (X.blk s H scope (compEnvC scope cl C X.env) fp) kF (tVar j))
    (hx : ∀ (s : Shared) (H : Hp) (C : Addr) (cl : List (Str × Addr)) (fp : List Addr), PE (X.blk s H scope (compEnvC scope cl C X.env) fp) xE (tVar xi))
    (hnk : NoSl kE) (hmk : behindInMarks .Eq xE = false := by first | exact nomark _ | rfl) (hs : ∀ x, foldedSetIterable dE X.env x = pure x := by intro _; rfl) :
    PE X (.ListComp kF [⟨tg, dE, [.Compare (.Subscript dF kE p1) [.Eq] [xE] p2], 0⟩] scope pos) (tN c W (zdkeys di xi j)) := by
  refine (pe_lock (pe_lc hc hN (pi_keys hi) ok hgk (fun s H C cl fp => pts_one (pt_cmp (pc_eqI (pe_dget (X := X.blk s H scope (compEnvC scope cl C X.env) fp) (Nat.lt_of_le_of_lt (Nat.add_le_add_left (by decide) _) hu) (hd s H C cl fp) (hk s H C cl fp) hnk) (hx s H C cl fp)) hmk)) hk2 hs)).zm fun σ H Q h => ?_
  rw [hown]
  exact dkeys_core hdj hxj h
theorem s_setDk (i : Nat) {di xi j : Nat} {y : Str} {p spos : Pos} (hy : X.N[i]? = some y) (hyl : X.env.scope.names.lookup y = some .local)
    (hsw : swapsWith (.ListComp kF [⟨tg, dE, [.Compare (.Subscript dF kE p1) [.Eq] [xE] p2], 0⟩] scope pos) (some (.Name y p)) spos.line X.env = pure true) (hu : X.A.units + 65 < cLine) (hc : X.calm = true) (hN : X.N.Nodup) (ok : BlkOk X.N X.env.scope scope own) (hown : own.map (·.2) = [j]) (hdj : di ≠ j) (hxj : xi ≠ j)
    (hi : PE X dE (tVar di)) (hgk : ∀ (s : Shared) (H : Hp) (C : Addr) (cl : List (Str × Addr)) (fp : List Addr), PG (X.blk s H scope (compEnvC scope cl C X.env) fp) tg (gName j))
    (hd : ∀ (s : Shared) (H : Hp) (C : Addr) (cl : List (Str × Addr)) (fp : List Addr), PE (X.blk s H scope (compEnvC scope cl C X.env) fp) dF (tVar di))
    (hk : ∀ (s : Shared) (H : Hp) (C : Addr) (cl : List (Str × Addr)) (fp : List Addr), PE (X.blk s H scope (compEnvC scope cl C X.env) fp) kE (tVar j))
    (hk2 : ∀ (s : Shared) (H : Hp) (C : Addr) (cl : List (Str × Addr)) (fp : List Addr), PE (X.blk s H scope (compEnvC scope cl C X.env) fp) kF (tVar j))
    (hx : ∀ (s : Shared) (H : Hp) (C : Addr) (cl : List (Str × Addr)) (fp : List Addr), PE (X.blk s H scope (compEnvC scope cl C X.env) fp) xE (tVar xi))
    (hnk : NoSl kE) (hmk : behindInMarks .Eq xE = false := by first | exact nomark _ | rfl) (hs : ∀ x, foldedSetIterable dE X.env x = pure x := by intro _; rfl) :
    PS X (.Assign [.Name y p] (.ListComp kF [⟨tg, dE, [.Compare (.Subscript dF kE p1) [.Eq] [xE] p2], 0⟩] scope pos) spos) (tS c W (sasg (gnm i) (zfz (zdkeys di xi j)))) := by
  refine ⟨fun pins s σ H D I ⟨ρ, A, σd, R, S, h⟩ => ?_⟩
  refine thn ((ps_lock (ps_setLc hc hN hy hyl hsw (pi_keys hi) ok hgk (fun s H C cl fp => pts_one (pt_cmp (pc_eqI (pe_dget (X := X.blk s H scope (compEnvC scope cl C X.env) fp) (Nat.lt_of_le_of_lt (Nat.add_le_add_left (by decide) _) hu) (hd s H C cl fp) (hk s H C cl fp) hnk) (hx s H C cl fp)) hmk)) hk2 hs)).run pins s σ H { D with nx := fun σ' H1 => ∃ a vs, H1 a = some (.lst vs) ∧ ∀ ob, D.nx σ' (upd H1 a (.frz ob (.lst vs))) } I ?_) fun f s1 h1 => ?_
  · rw [hown]
    refine dkeys_core (c := c) (W := W) (Q := fun v H1 => ∃ a vs, H1 a = some (.lst vs) ∧ ∀ ob, D.nx (σ.set i (some v)) (upd H1 a (.frz ob (.lst vs)))) hdj hxj ⟨ρ, A, σd, R, S, ?_⟩
    have h1 := LdS.of R S h
    refine (Ld.bind h1).imp fun xs ρ1 A1 H1 R1 s1 h2 a vs n rvs => ⟨a, vs, upd_same, fun ob => ?_⟩
    rw [upd_upd]
    obtain ⟨R2, s2, _⟩ := R1.laid (ho := .frz ob (.lst vs)) n
    have h3 := h2 ρ1 _ R2 s2
    exact h3 ρ1 _ _ R2 .refl (((S.to R s1).to R1 s2).set (.lst (.inl ⟨ob, upd_same⟩) (rvs.to R1 s2)) i)
  · cases f with
    | next =>
      obtain ⟨σ', H', I', a, vs, ha, q⟩ := h1
      obtain ⟨z, its, n, rv, hob⟩ := I'.hok a _ ha
      exact ⟨σ', _, I'.write (x := a) (e := a) (t' := s1.toks) (h' := s1.heap) (by rw [ha]; trivial) (.inl rfl) (fun b u _ h => h) ⟨_, hob⟩ (o := .frz _ (.lst vs)) ⟨hob, z, its, n, rv, hob⟩, q _⟩
    | ret v => exact h1
    | brk => exact h1
    | cont => exact h1
end
end Z

noncomputable section
set_option maxHeartbeats 2000000
namespace L2
open PySem PySem.Spec PyProof.Rows
section
variable {P : Program} {w : World} {A : Around} {E : Value → Shared → Prop} {s : Shared}
theorem ext_rngL {R : Result → Shared → Prop} {r : Addr} {a b : Int} {t u v : Tok} {N : Nat} (hd : A.handled = none) (ir : IsRange s.heap r a b 1 t u v) (big : Builtin.Range.small a b 1 = false) (sz : Builtin.Range.rangeSize a b 1 = N) (le : N ≤ 2 ^ 24)
    (S : Addr) (res : Value) (c0 : Nat) (iS : s.heap.get? S = some { cls := .type "list", data := .seq #[] c0 })
    (go : ∀ g tk ac c', (∀ d o, d ≠ S → s.heap.get? d = some o → g.get? d = some o) → g.get? S = some { cls := .type "list", dict := none, data := .seq ac c', slots := #[] } → ItemsOf (fun i v => ∃ t, v = .int (a + i * 1) t) ac N → R (.ok (.ret res)) { s with heap := g, toks := tk }) :
    wpAny (model P w) A.in1 (Builtin.List.listExtendWith (.ref S) (.ref r) res) (fun fin z => match fin with | .done f => R (.ok f) z | .again k => k.quiet = true ∧ codeAny (model P w) A k R z) (fun e z => R (.error e) z) s := by
  have n1 : S ≠ r := fun e => by rw [e, ir] at iS; simp at iS
  have n2 : S < s.heap.objs.size := Heap.lt_size iS
  have n3 : S ≠ s.heap.objs.size := Nat.ne_of_lt n2
  have n4 : S ∉ [s.heap.objs.size] := fun hm => n3 (List.mem_singleton.mp hm)
  have W := (Walks.longrange (prog := P) (w := w) (A := A.in1) hd s.heap.objs.size a 1 N).toS
  have key : ∀ (h : Heap) (c1 tk : Nat), IsLongIter h s.heap.objs.size (a + ((0 : Nat) : Int) * 1) ((N : Int) - ((0 : Nat) : Int)) 1 → (∀ d o, d ≠ S → s.heap.get? d = some o → h.get? d = some o) → h.get? S = some { cls := .type "list", data := .seq #[] c1 } →
      codeAny (model P w) A (.builtin "list.extend.loop" ⟨[.ref S, .ref s.heap.objs.size, res], []⟩) R { s with heap := h, toks := tk } := by
    intro h c1 tk it hk hS1
    refine codeAny_extend_loopS W (by rw [sizeLine_eq]; omega) S n4 res N 0 _ #[] c1 rfl (Nat.zero_le _) it hS1 (ItemsOf.nil _) fun z ac c' hm hS' hac => ?_
    rw [Moved.eq_with hm]
    refine go z.heap z.toks ac c' (fun d o hb e => hm.heap d o (fun hmem => ?_) (hk d o hb e)) hS' hac
    rcases List.mem_cons.mp hmem with q | hmem; exact hb q
    exact absurd (Heap.lt_size e) (by rw [List.mem_singleton.mp hmem]; exact Nat.lt_irrefl _)
  unfold Builtin.List.listExtendWith
  refine wpAny_bind (wpAny_typeOf (T := "range") ⟨_, ir, rfl⟩ ?_)
  have k1 : Builtin.List.listSameRef (.ref S) (.ref r) = false := by simp [Builtin.List.listSameRef, n1]
  simp only [k1, show (Value.type "range" == Value.type "list") = false by decide, show (Value.type "range" == Value.type "tuple") = false by decide, Bool.or_false, Bool.false_eq_true, if_false]
  refine wpAny_bind (wpAny_pyIter_longrange ir big ?_)
  refine wpAny_bind (wpAny_holding (wpAny_hint_range (n := N) (Heap.get?_push_of_some _ ir) sz le ?_))
  obtain ⟨oi, hoi⟩ : ∃ oi : Obj, oi = { cls := .type "longrange_iterator", data := .fields #[rawInt a, rawInt (Builtin.Range.rangeSize a b 1), rawInt 1] } := ⟨_, rfl⟩
  have it1 : IsLongIter (s.heap.push oi) s.heap.objs.size (a + ((0 : Nat) : Int) * 1) ((N : Int) - ((0 : Nat) : Int)) 1 := by
    show IsLongIter _ _ _ _ _; rw [hoi, sz]; simpa using Heap.get?_push_size _ rfl
  have p1 := Heap.get?_push_of_some oi iS
  rw [← hoi]
  refine wpAny_ite_split (fun _ => ?_) (fun _ => wpAny_pure ⟨plainId_quiet F.plain_extend_loop _, key _ c0 _ it1 (fun d o _ e => Heap.get?_push_of_some _ e) p1⟩)
  refine wpAny_bind (wpAny_rule ?_); refine wpAny_bind ?_
  show wpAny _ _ (updateSeq S (·.push .none) >>= fun _ => updateSeq S (·.pop)) _ _ _
  refine wpAny_bind (wpAny_updateSeq p1 rfl ?_)
  have p2 := Heap.get?_update_self (Obj.mapSeq (·.push Value.none)) p1 rfl
  refine wpAny_updateSeq (hz := by seq_fits) p2 rfl ?_
  have p3 := Heap.get?_update_self (Obj.mapSeq (·.pop)) p2 rfl
  refine wpAny_pure ⟨plainId_quiet F.plain_extend_loop _, key _ _ _ ((Heap.get?_update_other _ _ n3).trans ((Heap.get?_update_other _ _ n3).trans it1)) (fun d o hb e => (Heap.get?_update_other _ _ (Ne.symm hb)).trans ((Heap.get?_update_other _ _ (Ne.symm hb)).trans (Heap.get?_push_of_some _ e))) p3⟩
theorem init_rngL {R : Result → Shared → Prop} {r : Addr} {a b : Int} {t u v : Tok} {N : Nat} (hd : A.handled = none) (ir : IsRange s.heap r a b 1 t u v) (big : Builtin.Range.small a b 1 = false) (sz : Builtin.Range.rangeSize a b 1 = N) (le : N ≤ 2 ^ 24)
    (S : Addr) (iS : s.heap.get? S = some { cls := .type "list", data := .seq #[] })
    (go : ∀ g tk ac c', (∀ d o, d ≠ S → s.heap.get? d = some o → g.get? d = some o) → g.get? S = some { cls := .type "list", dict := none, data := .seq ac c', slots := #[] } → ItemsOf (fun i v => ∃ t, v = .int (a + i * 1) t) ac N → R (.ok (.ret .none)) { s with heap := g, toks := tk }) :
    wpAny (model P w) A.in1 (Builtin.«list.__init__» ⟨[.ref S, .ref r], []⟩) (fun fin z => match fin with | .done f => R (.ok f) z | .again k => k.quiet = true ∧ codeAny (model P w) A k R z) (fun e z => R (.error e) z) s := by
  have n1 : S ≠ r := fun e => by rw [e, ir] at iS; simp at iS
  show wpAny _ _ (do let old ← Builtin.List.listItems (.ref S); Builtin.List.listUpdate (.ref S) (fun _ => #[]); letGo old.toList.reverse; Builtin.List.listExtendWith (.ref S) (.ref r) .none) _ _ s
  refine wpAny_bind ?_; unfold Builtin.List.listItems
  refine wpAny_bind (wpAny_seqItems iS rfl (wpAny_pure ?_))
  show wpAny _ _ (updateSeq S (fun _ => #[]) >>= fun _ => letGo (#[] : Array Value).toList.reverse >>= fun _ => Builtin.List.listExtendWith (.ref S) (.ref r) .none) _ _ s
  refine wpAny_bind (wpAny_updateSeq iS rfl ?_)
  have p2 := Heap.get?_update_self (Obj.mapSeq (fun _ => (#[] : Array Value))) iS rfl
  have oth : ∀ d o, d ≠ S → s.heap.get? d = some o → (s.heap.update S (Obj.mapSeq (fun _ => (#[] : Array Value)))).get? d = some o := fun d o hb e => (Heap.get?_update_other _ _ (Ne.symm hb)).trans e
  refine wpAny_bind (wpAny_letGo ?_)
  exact ext_rngL hd (oth r _ (Ne.symm n1) ir) big sz le S .none _ p2 fun g tk ac c' hk hS' hac => go g tk ac c' (fun d o hb e => hk d o hb (oth d o hb e)) hS' hac
theorem call_rngL {Q : Value → Shared → Prop} {r : Addr} {a b : Int} {t u v : Tok} {N : Nat} (hd : A.handled = none) (ir : IsRange s.heap r a b 1 t u v) (big : Builtin.Range.small a b 1 = false) (sz : Builtin.Range.rangeSize a b 1 = N) (le : N ≤ 2 ^ 24)
    (hQ : ∀ g tk ac c', (∀ d o, s.heap.get? d = some o → g.get? d = some o) → g.get? s.heap.objs.size = some { cls := .type "list", dict := none, data := .seq ac c', slots := #[] } → ItemsOf (fun i v => ∃ t, v = .int (a + i * 1) t) ac N → Q (.ref s.heap.objs.size) { s with heap := g, toks := tk }) :
    wpAny (model P w) A (call (.type "list") [.ref r]) Q E s := by
  refine callType_codes (Q₁ := fun ob z => ob = .ref s.heap.objs.size ∧ z = { s with heap := s.heap.push { cls := .type "list", data := .seq #[] } }) F.called_list (F.typeCall_list_1 _) F.entry_list_init (code_list_new _ ⟨rfl, rfl⟩) fun ob z hz => ?_
  obtain ⟨rfl, rfl⟩ := hz
  have iS : (s.heap.push { cls := .type "list", data := .seq #[] }).get? s.heap.objs.size = some { cls := .type "list", data := .seq #[] } := Heap.get?_push_size _ rfl
  refine ⟨⟨_, iS, rfl⟩, F.args_list_init_2 _ _, init_rngL (A := A.in1) hd (Heap.get?_push_of_some _ ir) big sz le _ iS fun g tk ac c' hk hS' hac => ?_⟩
  exact ⟨rfl, hQ g tk ac c' (fun d o e => hk d o (Nat.ne_of_lt (Heap.lt_size e)) (Heap.get?_push_of_some _ e)) hS' hac⟩
end
section
variable {X : Cx} {e : Expr} {te : St → Hp → (Int → Int → Hp → Prop) → Prop}
def tLstRgL (te : St → Hp → (Int → Int → Hp → Prop) → Prop) : TE := fun σ H Q => te σ H fun a b H1 => (b - a).toNat ≤ 2 ^ 24 ∧ ∀ q, H1 q = none → Q (.ref q) (upd H1 q (.lst (rgV a b)))
theorem pe_listRgL {p pos : Pos} (hc : X.calm = true) (hg : Gl X "list") (hm : X.mg "list" = none) (he : PRg X e te) (na : starEach [e] X.env = (false, eval e X.env) :: starEach [] X.env := by rfl) : PE X (.Call (.Name "list" p) [e] [] pos) (tLstRgL te) := by
  refine ⟨fun pins s σ H Q I h => Call_ (ld_blt I hg hm boot_list (PyProof.Rows.callWith_type1 (args_cons (thn (he pins s σ H _ I h) fun x s1 ⟨r, a, b, t, u, v, H1, ex, hr, I1, ok, q⟩ => args_nil ?_) na) na))⟩
  subst ex
  have fin : ∀ g tk ac c', (∀ d o, s1.heap.get? d = some o → g.get? d = some o) → g.get? s1.heap.objs.size = some { cls := .type "list", dict := none, data := .seq ac c', slots := #[] } → ItemsOf (fun i v => ∃ t, v = .int (a + i * 1) t) ac (b - a).toNat →
      ∃ x H', Inv X pins σ H' { s1 with heap := g, toks := tk } ∧ RelV x (.ref s1.heap.objs.size) ∧ Q x H' := fun g tk ac c' hk ee hi => by
    refine ⟨.ref s1.heap.objs.size, upd H1 s1.heap.objs.size (.lst (rgV a b)), I1.laid hk (Nat.le_refl _) (show ObjOk X.prog X.w _ _ _ (.lst (rgV a b)) from ⟨?_, ac.toList, c', vals_rg hi, ?_⟩), rfl, q _ (I1.hok.fresh (Nat.le_refl _))⟩
    · rw [rgV_length, sizeLine_eq]; omega
    · rw [Array.toArray_toList]; exact ee
  by_cases sm : Builtin.Range.small a b 1 = true
  · exact call_list_range (n := (b - a).toNat) (I1.ok.hd hc) hr sm (rangeSize_nat a b) ok fin
  · exact call_rngL (N := (b - a).toNat) (I1.ok.hd hc) hr (by simpa using sm) (rangeSize_nat a b) ok fin
end
end L2
namespace Z
open PySem PySem.Spec PyProof.Rows L2
/-- list(range(a, b)), a and b of any size -/
def rngL (x y : D) : M (List D) := match x, y with
  | .int i, .int j => fun A => if (j - i).toNat ≤ SZ then some (.ok (rngI i j) A) else none
  | _, _ => fun _ => none
def zlrg (a b : Ev D) : Ev (List D) := fun σ => mb (a σ) fun x => mb (b σ) fun y => rngL x y
section
variable {X : Cx} {c : Cn} {W : WX} {a b : Expr} {fa fb : Ev D} {pos p p1 p2 : Pos}
theorem z_lrg (hcm : X.calm = true) (hg : Gl X "list") (hm : X.mg "list" = none) (hg2 : Gl X "range") (hm2 : X.mg "range" = none) (ha : PE X a (tE c W fa)) (hb : PE X b (tE c W fb)) (na : starEach [a, b] X.env = (false, eval a X.env) :: starEach [b] X.env := by rfl)
    (nb : starEach [b] X.env = (false, eval b X.env) :: starEach [] X.env := by rfl) (hp : (backTo p2 (starEach [b] X.env)).any (·.1) = false := by rfl)
    (n2 : starEach [.Call (.Name "range" p1) [a, b] [] p2] X.env = (false, eval (.Call (.Name "range" p1) [a, b] [] p2) X.env) :: starEach [] X.env := by rfl) :
    PE X (.Call (.Name "list" p) [.Call (.Name "range" p1) [a, b] [] p2] [] pos) (tN c W (zlrg fa fb)) :=
  (pe_listRgL hcm hg hm (prg_2 hg2 hm2 ha hb na nb hp) n2).zm fun σ H Q ⟨ρ, A, σd, R, S, h⟩ => two R S h fun x y v u ρ2 A2 H2 R2 s2 S2 rv ru h2 => by
    cases rv <;> cases ru <;> first | exact False.elim h2 | skip
    rename_i i j
    unfold rngL at h2
    dsimp only at h2
    obtain ⟨hz, h3⟩ := iteP R2 h2
    refine ⟨i, j, rfl, rfl, by unfold SZ at hz; omega, fun q n => h3 q _ n (rg_ok _ _)⟩
end
end Z

noncomputable section
set_option maxHeartbeats 2000000
namespace L2
open PySem PySem.Spec PyProof.Rows
section
variable {P : Program} {w : World} {A : Around} {E : Value → Shared → Prop} {s : Shared}
theorem collect_tupZ {l : Addr} {vs : List Value} {R : List Value → Shared → Prop} (hl : IsTup s.heap l vs.toArray) (hz : vs.length ≤ sizeLine)
    (h : ∀ (g : Heap) (tk : Nat), (∀ b o, s.heap.get? b = some o → g.get? b = some o) → R vs { s with heap := g, toks := tk }) : wpAny (model P w) A (collect (.ref l)) R E s := by
  obtain ⟨ob, h1, h2, n, h3⟩ := id hl
  unfold collect
  refine wpAny_bind (wpAny_runValue (codeAny_builtin entry_proto_collect' ?_))
  show wpAny _ _ (do again (.builtin "list.__iadd__" ⟨[← newList [], .ref l], []⟩)) _ _ s
  refine wpAny_bind (wpAny_newList (wpAny_pure ⟨Code.quiet_builtin _ (by decide +kernel), codeAny_builtin entry_list_iadd' ?_⟩))
  show wpAny _ _ (Builtin.List.listExtendWith (.ref s.heap.objs.size) (.ref l) (.ref s.heap.objs.size)) _ _ { s with heap := s.heap.push (seqObj "list" #[] 0) }
  unfold Builtin.List.listExtendWith
  have k1 : (s.heap.push (seqObj "list" #[] 0)).get? l = some ob := Heap.get?_push_of_some _ h1
  refine wpAny_bind (wpAny_typeOf (T := "tuple") ⟨ob, k1, h2⟩ ?_)
  rw [if_pos (by rw [show (Value.type "tuple" == Value.type "tuple") = true by rfl]; simp)]
  refine wpAny_bind (listItems_at k1 h3 ?_)
  refine wpAny_bind (listItems_at (xs := #[]) (n := 0) (Heap.get?_push_size _ rfl) rfl ?_)
  rw [if_neg (by simp)]
  refine wpAny_bind (listUpdate_at (xs := #[]) (n := 0) (Heap.get?_push_size _ rfl) rfl ?_ (Nat.zero_le _) (by show (#[] ++ vs.toArray).size ≤ sizeLine + 1; simp only [Array.size_append, List.size_toArray, List.length_nil]; omega))
  refine wpAny_pure ?_
  have kp : ∀ b o, s.heap.get? b = some o → ((s.heap.push (seqObj "list" #[] 0)).update s.heap.objs.size (Obj.mapSeq (· ++ vs.toArray))).get? b = some o := fun b o q => by
    rw [Heap.get?_update_ne _ _ _ _ (Nat.ne_of_lt (Heap.lt_size q))]
    exact Heap.get?_push_of_some _ q
  show wpAny (model P w) A (do
      let ob ← load s.heap.objs.size
      match ob.data with | .seq xs _ => pure xs.toList | _ => unsupported "internal:collect") R E { s with heap := (s.heap.push (seqObj "list" #[] 0)).update s.heap.objs.size (Obj.mapSeq (· ++ vs.toArray)) }
  refine wpAny_bind (wpAny_load (get?_update_seq (Heap.get?_push_size _ rfl) _) ?_)
  show wpAny _ _ (pure ((#[] : Array Value) ++ vs.toArray).toList) R E _
  rw [show ((#[] : Array Value) ++ vs.toArray).toList = vs by simp]
  exact wpAny_pure (h _ _ kp)
end
def rSortTT (K : PySem.W.Frag) : List V → Hp → VK → Prop := fun vs H Q => ∃ (a : Addr) (xs : List V), vs = [V.ref a] ∧ SqT K H a xs ∧ (∀ x ∈ xs, ∃ ns, TupJ K H x ns ∧ ns ≠ []) ∧
  ∀ (ys : List V) (p : Addr), ys.Perm xs → ys.Pairwise (fun x y => ∀ n m, TupJ K H x n → TupJ K H y m → HT.lexLt m n = false) → H p = none → Q (.ref p) (upd H p (.lst ys))
section
variable {X : Cx}
theorem cr_sortTT : CallR X (.builtin "sorted") (rSortTT X.K) := by
  intro pins s σ H vs us Q I r h
  obtain ⟨a, xs, rfl, hs, hx, q⟩ := h
  obtain ⟨its, rv, hl, hz⟩ := I.tuple hs
  rw [Vals.ref1 r]
  obtain ⟨as, e1, e2⟩ := bk_refs rv fun x m => by
    obtain ⟨ns, ⟨t, e, _⟩, _⟩ := hx x m
    exact ⟨t, e⟩
  subst e1 e2
  refine Calls.call_function_entry PyProof.Rows.kind_sorted PyProof.Rows.plain_sorted PyProof.Rows.entry_sorted (PyProof.Rows.args_sorted1 _) ?_
  unfold Builtin.«sorted»
  refine wpAny_bind (m := checkCount "sorted" 1 1 _) (wpAny_pure ?_)
  have hlen0 : (as.map Value.ref).length ≤ sizeLine := by rw [List.length_map] at hz ⊢; exact hz
  refine wpAny_bind (collect_tupZ hl hlen0 fun h' tk hk' => ?_)
  have I1 : Inv X pins σ H { s with heap := h', toks := tk } := I.kept hk'
  have hK : ∀ v ∈ as.map Value.ref, SrtL.IsTI h' v (SrtL.kOf h' v) ∧ SrtL.kOf h' v ≠ [] := fun v hv => by
    obtain ⟨b, hb, rfl⟩ := List.mem_map.mp hv
    obtain ⟨ns, ⟨t, e, ht⟩, hne⟩ := hx (.ref b) (List.mem_map.mpr ⟨b, hb, rfl⟩)
    cases e
    have := tupJ_raw I1 ht
    rw [SrtL.kOf_eq this]
    exact ⟨this, hne⟩
  refine wpAny_bind (wpAny_newList ?_ hlen0)
  have hoL : (h'.push (seqObj "list" (as.map Value.ref).toArray 0)).get? h'.objs.size = some (seqObj "list" (as.map Value.ref).toArray 0) := Heap.get?_push_size _ rfl
  show wpAny _ _ _ _ _ { s with heap := h'.push (seqObj "list" (as.map Value.ref).toArray 0), toks := tk }
  refine wpAny_bind (wpAny_holding (wpAny_call_entry PyProof.Rows.slot_list_sort ⟨_, hoL, rfl⟩ PyProof.Rows.entry_list_sort
    (SrtO.list_sort_ord (s := { s with heap := h'.push (seqObj "list" (as.map Value.ref).toArray 0), toks := tk }) (SrtL.swo_k (SrtL.kOf h')) hoL hlen0 (fun h2 => ?_) fun out h1 h2 => ⟨_, rfl, ?_⟩) (PyProof.Rows.args_list_sort _)))
  · refine SrtL.tups_sortable (by omega) (fun v hm => ⟨(hK v hm).1.keeps fun b o e _ => Heap.get?_push_of_some _ e, (hK v hm).2⟩) fun o e => ?_
    have e' : some o = some (seqObj "list" (as.map Value.ref).toArray 0) := e.symm.trans hoL
    cases e'
    intro c
    exact absurd (Value.type.inj c) (by decide)
  · obtain ⟨ep', he'⟩ := PyProof.Rows.sortedHeap_at (vs := as.map Value.ref) (out := out.toArray) hoL
    have hp := h2.perm
    have hp3 : (out.map rA).Perm as := by
      have := hp.map rA
      rw [List.map_map] at this
      have e : (rA ∘ Value.ref) = id := rfl
      rwa [e, List.map_id] at this
    have eo : out = (out.map rA).map Value.ref := by
      rw [List.map_map]
      refine (List.map_id' out).symm.trans (List.map_congr_left fun v hv => ?_)
      obtain ⟨b, _, rfl⟩ := List.mem_map.mp (hp.mem_iff.mp hv)
      rfl
    have hlen : ((out.map rA).map V.ref).length ≤ sizeLine := by
      rw [List.length_map, hp3.length_eq]
      rw [List.length_map] at hlen0
      exact hlen0
    refine wpAny_pure ⟨_, rfl, .ref h'.objs.size, upd H h'.objs.size (.lst ((out.map rA).map V.ref)), I1.laid (t' := tk) (fun b u e => ?_) (Nat.le_refl _)
      (show ObjOk X.prog X.w _ _ _ (.lst ((out.map rA).map V.ref)) from ⟨hlen, out, ep', ?_, he'⟩), rfl, q _ _ (hp3.map _) ?_ (I1.hok.fresh (Nat.le_refl _))⟩
    · have hb : b < h'.objs.size := Heap.lt_size e
      rw [PyProof.Rows.sortedHeap_old (Nat.ne_of_lt hb) (by rw [size_push']; exact Nat.lt_succ_of_lt hb)]
      exact Heap.get?_push_of_some _ e
    · have := vals_refsZ (out.map rA)
      rw [← eo] at this
      exact this
    · rw [List.pairwise_map, List.pairwise_map]
      refine List.Pairwise.imp_of_mem (fun {u v} hu hv huv n m hn hm => ?_) h1
      obtain ⟨t, et, ht⟩ := hn
      obtain ⟨t', et', ht'⟩ := hm
      obtain ⟨b, hb, rfl⟩ := List.mem_map.mp (hp.mem_iff.mp hu)
      obtain ⟨b', hb', rfl⟩ := List.mem_map.mp (hp.mem_iff.mp hv)
      cases et
      cases et'
      have huv' : HT.lexLt (SrtL.kOf h' (.ref b')) (SrtL.kOf h' (.ref b)) = false := huv
      rw [SrtL.kOf_eq (v := .ref b) (tupJ_raw I1 ht), SrtL.kOf_eq (v := .ref b') (tupJ_raw I1 ht')] at huv'
      exact huv'
end
end L2
namespace Z
open PySem PySem.Spec PyProof.Rows L2
def sortT (x : D) : Option (List D) := match x with
  | .tup xs => match tupsOf xs with
    | some ts => if ts.all (fun t => !t.isEmpty) then some ((ts.mergeSort leL).map tupD) else none
    | none => none
  | _ => none
/-- sorted(a tuple) -/
def zsortT (o : Ev D) : Ev (List D) := fun σ => mb (o σ) fun x => mo (sortT x)
section
variable {X : Cx} {c : Cn} {W : WX} {e : Expr} {fa : Ev D} {pos p : Pos}
theorem z_sortT (hK : c.K = X.K) (hg : Gl X "sorted") (hm : X.mg "sorted" = none) (h : PE X e (tE c W fa)) (hs : starEach [e] X.env = (false, eval e X.env) :: starEach [] X.env := by rfl) (hpl : (backTo pos (starEach [] X.env)).any (·.1) = false := by rfl) :
    PE X (.Call (.Name "sorted" p) [e] [] pos) (tN c W (zsortT fa)) :=
  (pe_callB cr_sortTT hg hm boot_sorted (pa1 h hs) (he := hs) (hpl := hpl)).zm fun σ H Q ⟨ρ, A, σd, R, S, h⟩ => arg1 <| one R S h fun x xv ρ1 A1 H1 R1 s1 S1 rx h1 => by
    obtain ⟨r, e, h2⟩ := moL R1 h1
    unfold sortT at e
    split at e
    · rename_i xs
      split at e
      · rename_i ts e1
        split at e
        · rename_i q
          cases e
          have ex := tupsOf_map e1
          cases rx with
          | tup ht rvs =>
            rename_i a vs
            refine ⟨a, vs, rfl, by rw [← hK]; exact ht.sq, fun v hv => ?_, fun us p pm pw n => ?_⟩
            · obtain ⟨i, hi, e2⟩ := List.mem_iff_getElem.mp hv
              obtain ⟨dd, g1, g2⟩ := rvs.at' (i := i) (v := v) (by rw [List.getElem?_eq_getElem hi, e2])
              have hm : dd ∈ ts.map tupD := by rw [← ex]; exact List.mem_of_getElem? g1
              obtain ⟨t2, m1, m2⟩ := List.mem_map.mp hm
              subst m2
              have f1 := List.all_eq_true.mp q t2 m1
              cases g2 with
              | tup h r => exact ⟨t2, ⟨_, rfl, by rw [← hK, ← r.ints (intsOf_ints t2)]; exact h.sq⟩, fun z => by subst z; simp at f1⟩
            · obtain ⟨ys, py, ry⟩ := rvs.perm pm
              rw [ex] at py
              obtain ⟨ms, e5, pms⟩ := perm_tups py
              subst e5
              have pw3 := tups_pwL ry (by rw [hK]; exact pw)
              rw [uniq_tups pms pw3] at ry
              exact h2 p us n ry
        · cases e
      · cases e
    · cases e
end
end Z

noncomputable section
set_option maxHeartbeats 2000000
namespace Z
open PySem PySem.Spec PyProof.Rows L2 L2H

/-- a def's promise, whether an error is handled or not -/
structure FnQ (P : Program) (w : World) (K : PySem.W.Frag) (mg : Str → Option Value) (base : Heap) (k : Nat) (f : Addr) (fd : FuncData) (ps : List Str) (sp : Sp) : Prop where
  many : ∀ vs H Q E, sp vs H Q E → vs.length = ps.length
  go : ∀ (A : Around) (outer : List Env) (s : Shared) (H : Hp) (args : Args) (us : List Value) (vs : List V) (Q : VK) (E : XK), RoomH k A → Env0 P w K mg base A outer s H → BindsTo s fd args (ps.zip us) → Vals vs us → sp vs H Q E → codeAny (model P w) A (.call (.ref f) args) (CR (L2.CX P w) outer P w H s Q E) s
/-- such a body's context: what is pinned is the def's own object -/
def cxQ (P : Program) (w : World) (K : PySem.W.Frag) (mg : Str → Option Value) (base : Heap) (N : List Str) (qual : Str) (scope : Scope) (f : Addr) (cd : Value) (A : Around) (outer : List Env) (s : Shared) (H : Hp) (E : XK) (p : Addr × Obj) : Cx :=
  cxH (L2.CX P w) P w K mg base N qual scope f cd A outer s H E p
theorem fnQ_of {P : Program} {w : World} {K : PySem.W.Frag} {mg : Str → Option Value} {base : Heap} {x qual : Str} {params : Arguments} {body : List Stmt} {scope : Scope} {dvs : List V} {kws : List (Str × V)} {f : Addr} {fd : FuncData} {N ps : List Str} {k : Nat} {sp : Sp}
    (Fd : FunD K x qual params body scope dvs kws f fd) (S : FnScope N ps scope) (many : ∀ vs H Q E, sp vs H Q E → vs.length = ps.length)
    (hbody : ∀ (cdv : Value) (A : Around) (outer : List Env) (s : Shared) (H : Hp) (vs : List V) (Q : VK) (E : XK) (p : Addr × Obj), RoomH k (A.deeper (envOfC qual scope s.heap.objs.size f cdv)) → sp vs H Q E →
      ∃ t, PSs (cxQ P w K mg base N qual scope f cdv A outer s H E p) body t ∧ t { nx := fun _ H' => Q .non H', rt := Q } (L2.start N vs) H) : FnQ P w K mg base (k + 1) f fd ps sp := by
  obtain ⟨oc, od, dV, kV, doc, pm, an, cdv, ct, osl, rfl, lk, hcd, _, _⟩ := Fd.ex
  refine ⟨many, fun A outer s H args us vs Q E hr e0 hb r hsp => ?_⟩
  have bf := e0.mod.kin _ _ lk
  have nof : f ∉ frs outer := fun hm => by
    obtain ⟨h0, _⟩ := e0.funs.mem hm
    have h1 : base.get? f = none := h0
    rw [bf] at h1
    cases h1
  have hpin : PinOk outer H s (f, ⟨oc, od, .func (PySem.W.fnOf x qual params body scope dV kV doc pm an cdv ct), osl⟩) := ⟨(e0.bs _ _ bf).1, (e0.bs _ _ bf).2, nof, fun v z => nomatch z⟩
  have hkind : ∀ y ∈ ps.zip us, scope.names.lookup y.1 = some .local ∨ (scope.names.lookup y.1 = some .cell ∧ ((cellsFrom (s.heap.objs.size + 1) scope.names []).lookup y.1).isSome = true) := by
    intro ⟨n, v⟩ hy
    cases S.par n (List.of_mem_zip hy).1 with
    | inl q => exact .inl q
    | inr q => exact .inr ⟨q, PySem.W.cellsFrom_some _ _ _ (.inl q)⟩
  have KX : K.In s.heap := PySem.W.Frag.In.keeps e0.mod.kin fun b o e => (e0.bs b o e).1
  have lim := Heap.NoLimit.keeps e0.mod.nolimit fun b o e => (e0.bs b o e).1
  have hl := many _ _ _ _ hsp
  refine codeAny_call_function hr.depth (KX _ _ lk) rfl S.co S.gen rfl (PySem.W.codeRec_of KX hcd) (hb _ _ _ _ (wpAny_newFunctionEnv_cells S.kind hkind fun env he s1 x => ?_))
  subst he
  obtain ⟨t, ht, hq⟩ := hbody cdv A outer s H vs Q E _ (hr.deeper _) hsp
  have I := inv_startH (CX := L2.CX P w) (qual := qual) (cd := cdv) (E := E) S hpin e0 hl r x
  refine ⟨lim.keeps x.toInCall.keep, codeAny_func (wpAny_mono (ht.run [] s1 (L2.start N vs) H _ I hq) (fun fl s' hs => ?_) fun e s' hs => hs)⟩
  cases fl with
  | next =>
    obtain ⟨σ', H', J, q⟩ := hs
    exact ⟨V.non, H', J.os, J.bare, J.base, J.hok, rfl, q⟩
  | ret u =>
    obtain ⟨v, σ', H', J, rv, q⟩ := hs
    exact ⟨v, H', J.os, J.bare, J.base, J.hok, rv, q⟩
  | brk => exact hs.elim fun _ h => h.elim fun _ h => h.2.elim
  | cont => exact hs.elim fun _ h => h.elim fun _ h => h.2.elim
theorem fnq_zero {P : Program} {w : World} {K : PySem.W.Frag} {mg : Str → Option Value} {base : Heap} {c : Cn} {Pg : List Fn} {f : Addr} {fd : FuncData} {ps : List Str} {i : Nat} : FnQ P w K mg base 0 f fd ps (spF c (callN Pg 0 i)) :=
  ⟨fun _ _ _ _ ⟨_, _, _, _, _, h⟩ => h.elim, fun _ _ _ _ _ _ _ _ _ _ _ _ _ ⟨_, _, _, _, _, h⟩ => h.elim⟩
theorem fnq_means {P : Program} {w : World} {K : PySem.W.Frag} {mg : Str → Option Value} {base : Heap} {x qual : Str} {params : Arguments} {body : List Stmt} {scope : Scope} {dvs : List V} {kws : List (Str × V)} {f : Addr} {fd : FuncData} {N ps : List Str} {c : Cn} {Pg : List Fn} {k i : Nat} {F : Fn}
    (Fd : FunD K x qual params body scope dvs kws f fd) (S : FnScope N ps scope) (hF : Pg[i]? = some F) (hn : F.n = N.length) (hp : F.np = ps.length) (hpn : ps.length ≤ N.length)
    (hbody : ∀ (cdv : Value) (A : Around) (outer : List Env) (s : Shared) (H : Hp) (E : XK) (p : Addr × Obj), RoomH k (A.deeper (envOfC qual scope s.heap.objs.size f cdv)) →
      PSs (cxQ P w K mg base N qual scope f cdv A outer s H E p) body (tS c (fun cls d _ H' => E cls d H') (F.body ⟨callN Pg k⟩))) :
    FnQ P w K mg base (k + 1) f fd ps (spF c (callN Pg (k + 1) i)) := by
  have key : ∀ ds A, callN Pg (k + 1) i ds A = if ds.length = F.np then endD A (F.body ⟨callN Pg k⟩ (startD F.n ds) A) else none := fun ds A => by
    simp only [callN, hF]
  refine fnQ_of Fd S (fun vs H Q E ⟨ρ, A, ds, R, r, h⟩ => ?_) fun cdv A outer s H vs Q E p hr ⟨ρ, A', ds, R, r, h⟩ => ?_
  · rw [key] at h
    split at h
    · rename_i e
      rw [← r.length, e, hp]
    · exact h.elim
  · rw [key] at h
    split at h
    · rename_i e
      refine ⟨_, hbody cdv A outer s H E p hr, ρ, A', startD F.n ds, R, ?_, end_ok R h⟩
      rw [hn]
      exact start_ok r (by rw [← r.length, e, hp]; exact hpn)
    · exact h.elim
/-- such a callee, by its name -/
def CalQ (P : Program) (w : World) (K : PySem.W.Frag) (mg : Str → Option Value) (base : Heap) (c : Cn) (Pg : List Fn) (k : Nat) (x : Str) (i : Nat) : Prop :=
  ∃ f fd ps, mg x = some (.ref f) ∧ PySem.W.keepIn K (.ref f) = true ∧ Binds K fd ps [] ∧ FnQ P w K mg base k f fd ps (spF c (callN Pg k i))
section
variable {X : Cx} {c : Cn} {W : WX} {x : Str} {k i : Nat} {Pg : List Fn} {e : Expr} {es : List Expr} {fs : Ev (List D)} {p pos : Pos} {f : Addr} {fd : FuncData} {ps : List Str} {sp : Sp} {E : L2.St → XK} {t : TA}
theorem run_fnQ {pins : List (Addr × Obj)} {σ : L2.St} {H : Hp} {s : Shared} {Q : VK} {us : List Value} {vs : List V} (F : FnQ X.prog X.w X.K X.mg X.base k f fd ps sp) (hr : RoomH k X.A) (hb : Binds X.K fd ps []) (hx : PassesAt (L2.CX X.prog X.w) X σ (E σ)) (I : Inv X pins σ H s) (r : Vals vs us) (h : sp vs H Q (E σ)) :
    wpAny (model X.prog X.w) X.A (call (.ref f) us) (EP X pins σ Q) X.xe s := by
  have b := hb s us I.kIn (by rw [List.append_nil, ← r.length]; exact F.many _ _ _ _ h)
  rw [List.append_nil] at b
  refine wpAny_call (codeAny_mono (F.go X.A X.stack s H ⟨us, []⟩ us vs Q (E σ) hr I.env0 b r h) ?_)
  intro r s' hq
  match r, hq with
  | .error e, hq => exact hx pins H s e s' I hq
  | .ok (.ret u), hq => exact I.after hq
  | .ok .next, hq => exact hq.elim
  | .ok .brk, hq => exact hq.elim
  | .ok .cont, hq => exact hq.elim
theorem pe_callQ (F : FnQ X.prog X.w X.K X.mg X.base k f fd ps sp) (hr : RoomH k X.A) (hg : Gl X x) (hm : X.mg x = some (.ref f)) (hk : PySem.W.keepIn X.K (.ref f) = true) (hb : Binds X.K fd ps []) (hx : ∀ σ, PassesAt (L2.CX X.prog X.w) X σ (E σ)) (ha : PA X (e :: es) t)
    (hdb : (x == ("__debug__" : Str)) = false := by decide) (he : starEach (e :: es) X.env = (false, eval e X.env) :: starEach es X.env := by rfl) (hpl : (backTo pos (starEach es X.env)).any (·.1) = false := by rfl) :
    PE X (.Call (.Name x p) (e :: es) [] pos) (tCallS sp E t) := ⟨fun pins s σ H Q I h =>
  wpAny_Call_Name_kw (ld_glob I hg hm (PySem.W.callWith_K (h₀ := X.base) I.ok.mod.kin hk (thn (ha.run pos pins s σ H _ I h) fun us s1 ⟨vs, H1, I1, r, q⟩ => ⟨I1.kIn, run_fnQ F hr hb (hx σ) I1 r q⟩) he hpl) hdb)⟩
theorem z_calQ (C : CalQ X.prog X.w X.K X.mg X.base c Pg k x i) (tk : Takes X W) (hr : RoomH k X.A) (hg : Gl X x) (ha : PA X (e :: es) (tA c W fs))
    (hdb : (x == ("__debug__" : Str)) = false := by decide) (he : starEach (e :: es) X.env = (false, eval e X.env) :: starEach es X.env := by rfl) (hpl : (backTo pos (starEach es X.env)).any (·.1) = false := by rfl) :
    PE X (.Call (.Name x p) (e :: es) [] pos) (tE c W (zcall ⟨callN Pg k⟩ i fs)) := by
  obtain ⟨f, fd, ps, h1, h2, h3, h4⟩ := C
  exact (pe_callQ h4 hr hg h1 h2 h3 (fun σ => passAt tk σ) ha hdb he hpl).zm fun σ H Q ⟨ρ, A, σd, R, S, h⟩ => show tA c W fs σ H _ from oneA R S h fun ds vs ρ1 A1 H1 R1 s1 S1 rvs h1 =>
    ⟨ρ1, A1, ds, R1, rvs, h1.wsl fun _ _ _ h => h⟩
/-- f() -/
theorem pe_callS0 (F : FnOk X.prog X.w X.K X.mg X.base (L2.CX X.prog X.w) k f fd ps sp) (hr : Room k X.A) (hg : Gl X x) (hm : X.mg x = some (.ref f)) (hk : PySem.W.keepIn X.K (.ref f) = true) (hb : Binds X.K fd ps []) (hx : ∀ σ, PassesAt (L2.CX X.prog X.w) X σ (E σ))
    (hdb : (x == ("__debug__" : Str)) = false := by decide) : PE X (.Call (.Name x p) [] [] pos) (tCallS sp E tNil) :=
  ⟨fun pins s σ H Q I h => wpAny_Call_Name_kw (ld_glob I hg hm (PySem.W.callWith_K0 I.kIn hk (run_fnS (us := []) F hr hb (hx σ) I .nil h)) hdb)⟩
theorem z_cal0 (C : Cal X.prog X.w X.K X.mg X.base c Pg k x i) (tk : Takes X W) (hr : Room k X.A) (hg : Gl X x)
    (hdb : (x == ("__debug__" : Str)) = false := by decide) : PE X (.Call (.Name x p) [] [] pos) (tE c W (zcall ⟨callN Pg k⟩ i znil)) := by
  obtain ⟨f, fd, ps, h1, h2, h3, h4⟩ := C
  exact (pe_callS0 h4 hr hg h1 h2 h3 (fun σ => passAt tk σ) hdb).zm fun σ H Q ⟨ρ, A, σd, R, S, h⟩ =>
    show spF c _ [] H _ _ from ⟨ρ, A, [], R, .nil, by
      have h' : Ld c ρ H σ W (callN Pg k i [] A) _ := h
      exact h'.wsl fun _ _ _ h => h⟩
theorem roomQ_u {k : Nat} {A : Around} (h : RoomH k A) : A.units + 65 < cLine := by
  have := h.un
  omega
theorem roomQ_deeper {k : Nat} {A : Around} {a : Value} (h : Room k A) : RoomH k (A.mark (some a)) := ⟨h.dp, h.un⟩
end
def rSumT (K : PySem.W.Frag) : List V → Hp → VK → Prop := fun vs H Q => ∃ (a : Addr) (ns : List Int), vs = [V.ref a] ∧ SqT K H a (ns.map V.int) ∧ Q (.int ns.sum) H
theorem cr_sumT {X : Cx} (hc : X.calm = true) : CallR X (.builtin "sum") (rSumT X.K) := by
  intro pins s σ H vs us Q I r h
  obtain ⟨a, ns, rfl, hs, q⟩ := h
  obtain ⟨its, rv, hl, _⟩ := I.tuple hs
  have hi := rv.ints
  obtain ⟨xs, hx⟩ := hi.allInts.items
  have hn : numsOf its.toArray.toList = ns := by rw [show its.toArray.toList = its from rfl, hi.numsOf]
  rw [hx] at hl hn
  rw [nums_intItems] at hn
  rw [Vals.ref1 r]
  refine PySem.W.ktm_sumG (I.ok.hd hc) hl fun h' tk t' hk => ⟨.int _, H, I.kept hk, ⟨t', ?_⟩, q⟩
  rw [preSum_eq, List.take_of_length_le (by simp), hn]
def sumT (x : D) : Option D := match x with
  | .tup xs => (intsOf xs).map fun ns => .int ns.sum
  | _ => none
def zsumT (o : Ev D) : Ev D := fun σ => mb (o σ) fun x => mo (sumT x)
section
variable {X : Cx} {c : Cn} {W : WX} {e : Expr} {fa : Ev D} {pos p : Pos}
theorem z_sumT (hK : c.K = X.K) (hcm : X.calm = true) (hg : Gl X "sum") (hm : X.mg "sum" = none) (h : PE X e (tE c W fa)) (hs : starEach [e] X.env = (false, eval e X.env) :: starEach [] X.env := by rfl) (hpl : (backTo pos (starEach [] X.env)).any (·.1) = false := by rfl) :
    PE X (.Call (.Name "sum" p) [e] [] pos) (tE c W (zsumT fa)) :=
  (pe_callB (cr_sumT hcm) hg hm (by decide +kernel) (pa1 h hs) (he := hs) (hpl := hpl)).zm fun σ H Q ⟨ρ, A, σd, R, S, h⟩ => arg1 <| one R S h fun x xv ρ1 A1 H1 R1 s1 S1 rx h1 => by
    obtain ⟨r, e, h2⟩ := moL R1 h1
    unfold sumT at e
    split at e
    · rename_i xs
      obtain ⟨ns, e2, e3⟩ := Option.map_eq_some_iff.mp e
      subst e3
      cases rx with
      | tup ht rvs =>
        rename_i a vs
        exact ⟨a, ns, rfl, by rw [← hK, ← rvs.ints e2]; exact ht.sq, h2 _ (.int _)⟩
    · cases e
end
end Z

set_option maxHeartbeats 4000000
noncomputable section
namespace Zp
open PySem PySem.Spec PyProof.Rows L2 Z
def top (i : Nat) : Stmt := PySem.Challenge.pw_doffyard_k34_what_small_yards_are.main.body.getD i (.Pass ⟨0, 0, 0, 0⟩)

abbrev i_is_whole : Nat := 0
abbrev i_is_between : Nat := 1
abbrev i_is_small_frame : Nat := 2
abbrev i_are_small_walks : Nat := 3
abbrev i_is_small_yard : Nat := 4
abbrev i_is_small : Nat := 5
abbrev i_check_small : Nat := 6
abbrev i_threads_of : Nat := 7
abbrev i_first_state : Nat := 8
abbrev i_rank_by : Nat := 9
abbrev i_hand_with_job : Nat := 10
abbrev i_spinning : Nat := 11
abbrev i_may_break : Nat := 12
abbrev i_behind : Nat := 13
abbrev i_some_of : Nat := 14
abbrev i_walked : Nat := 15
abbrev i_are_threads : Nat := 16
abbrev i_played : Nat := 17
abbrev i_worst_story : Nat := 18
abbrev i__law_pool : Nat := 19
abbrev i__law_take : Nat := 20
abbrev i__law_small : Nat := 21
abbrev i__law_sort : Nat := 22
abbrev i__law_bent : Nat := 23
abbrev i__law_number : Nat := 24
abbrev i__law_are_frames : Nat := 25
abbrev i__law_are_walks : Nat := 26
abbrev i__law_is_small : Nat := 27
abbrev i__law_asked : Nat := 28
abbrev i__law_right : Nat := 29
abbrev i__law_at_bounds : Nat := 30
abbrev i_law : Nat := 31
abbrev N_is_whole : List Str := ["x"]
def mb_is_whole (o : Orc) : Sv :=
 (sseq (sret (zandv (zisi .int (zvar 0)) (zbl (znot (ztru (zisi .bool (zvar 0)))))))
 snil)
def m_is_whole : Fn := ⟨1, 1, mb_is_whole⟩

abbrev N_is_between : List Str := ["x", "low", "high"]
def mb_is_between (o : Orc) : Sv :=
 (sseq (sret (zandv (zcall o i_is_whole (zcons (zvar 0) znil)) (zbl (zchn .le .le (zvar 1) (zvar 0) (zvar 2)))))
 snil)
def m_is_between : Fn := ⟨3, 3, mb_is_between⟩

abbrev N_is_small_frame : List Str := ["thing", "part"]
def ce_is_small_frame_0 (o : Orc) : Ev D :=
 (zcall o i_is_whole (zcons (zvar 1) znil))
def mb_is_small_frame (o : Orc) : Sv :=
 (sseq (sif (zor (znot (ztru (zisi .tuple (zvar 0)))) (zor (zcmp .ne (zlen (zvar 0)) (zc (.int 3))) (znot (ztru (zallq (zcomp [1] (gnm 1) (zof (zvar 0)) ztt (ce_is_small_frame_0 o))))))) (sseq (sret (zc (.bl false)))
 snil) snil)
 (sseq (sret (zandv (zbl (zchn .le .le (zc (.int 0)) (zix (zvar 0) (zc (.int 0))) (zc (.int 1)))) (zandv (zbl (zchn .le .le (zc (.int 1)) (zix (zvar 0) (zc (.int 1))) (zc (.int 3)))) (zbl (zchn .le .lt (zc (.int 0)) (zix (zvar 0) (zc (.int 2))) (zix (zvar 0) (zc (.int 1))))))))
 snil))
def m_is_small_frame : Fn := ⟨1, 2, mb_is_small_frame⟩

abbrev N_are_small_walks : List Str := ["thing", "many", "frame", "row", "one"]
def ce_are_small_walks_0 (o : Orc) : Ev D :=
 (zcall o i_is_between (zcons (zvar 4) (zcons (zc (.int 0)) (zcons (zc (.int 3)) znil))))
def lb_are_small_walks_1 (o : Orc) : Sv :=
 (sseq (sif (zor (znot (ztru (zisi .tuple (zvar 3)))) (zor (zcmp .ne (zlen (zvar 3)) (zvar 1)) (znot (ztru (zallq (zcomp [4] (gnm 4) (zof (zvar 3)) ztt (ce_are_small_walks_0 o))))))) (sseq (sret (zc (.bl false)))
 snil) snil)
 (sseq (sif (zcmp .ne (zix (zvar 3) (zvar 2)) (zc (.int 0))) (sseq (sret (zc (.bl false)))
 snil) snil)
 snil))
def mb_are_small_walks (o : Orc) : Sv :=
 (sseq (sif (zor (znot (ztru (zisi .tuple (zvar 0)))) (zcmp .ne (zlen (zvar 0)) (zvar 1))) (sseq (sret (zc (.bl false)))
 snil) snil)
 (sseq (sfor (gtup 2 (gcons (gnm 2) (gcons (gnm 3) gnil))) (zenum (zof (zvar 0))) (lb_are_small_walks_1 o))
 (sseq (sret (zc (.bl true)))
 snil)))
def m_are_small_walks : Fn := ⟨2, 5, mb_are_small_walks⟩

abbrev N_is_small_yard : List Str := ["thing", "frames", "walks", "pieces", "rule", "gap", "frame", "one"]
def ce_is_small_yard_0 (o : Orc) : Ev D :=
 (zcall o i_is_small_frame (zcons (zvar 6) znil))
def ce_is_small_yard_1 (o : Orc) : Ev D :=
 (zix (zvar 6) (zc (.int 1)))
def ce_is_small_yard_2 (o : Orc) : Ev D :=
 (zcall o i_is_between (zcons (zvar 7) (zcons (zc (.int 1)) (zcons (zc (.int 3)) znil))))
def mb_is_small_yard (o : Orc) : Sv :=
 (sseq (sif (zor (znot (ztru (zisi .tuple (zvar 0)))) (zcmp .ne (zlen (zvar 0)) (zc (.int 5)))) (sseq (sret (zc (.bl false)))
 snil) snil)
 (sseq (sasg (gtup 5 (gcons (gnm 1) (gcons (gnm 2) (gcons (gnm 3) (gcons (gnm 4) (gcons (gnm 5) gnil)))))) (zvar 0))
 (sseq (sif (zor (znot (ztru (zisi .tuple (zvar 1)))) (znot (zchn .le .le (zc (.int 1)) (zlen (zvar 1)) (zc (.int 3))))) (sseq (sret (zc (.bl false)))
 snil) snil)
 (sseq (sif (zor (znot (ztru (zallq (zcomp [6] (gnm 6) (zof (zvar 1)) ztt (ce_is_small_yard_0 o))))) (zcmp .gt (zsumq (zcomp [6] (gnm 6) (zof (zvar 1)) ztt (ce_is_small_yard_1 o))) (zc (.int 3)))) (sseq (sret (zc (.bl false)))
 snil) snil)
 (sseq (sif (zor (znot (ztru (zcall o i_are_small_walks (zcons (zvar 2) (zcons (zlen (zvar 1)) znil))))) (zor (znot (ztru (zisi .tuple (zvar 3)))) (zcmp .ne (zlen (zvar 3)) (zc (.int 2))))) (sseq (sret (zc (.bl false)))
 snil) snil)
 (sseq (sif (zor (znot (ztru (zallq (zcomp [7] (gnm 7) (zof (zvar 3)) ztt (ce_is_small_yard_2 o))))) (zor (znot (ztru (zisi .str (zvar 4)))) (zcmp .notIn (zvar 4) (zc (.tup [.str "near", .str "old", .str "sort"]))))) (sseq (sret (zc (.bl false)))
 snil) snil)
 (sseq (sret (zcall o i_is_between (zcons (zvar 5) (zcons (zc (.int 0)) (zcons (zc (.int 2)) znil)))))
 snil)))))))
def m_is_small_yard : Fn := ⟨1, 8, mb_is_small_yard⟩

abbrev N_is_small : List Str := ["thing"]
def mb_is_small (o : Orc) : Sv :=
 (sseq (sret (zcall o i_is_small_yard (zcons (zvar 0) znil)))
 snil)
def m_is_small : Fn := ⟨1, 1, mb_is_small⟩

abbrev N_check_small : List Str := ["small"]
def mb_check_small (o : Orc) : Sv :=
 (sseq (sif (znot (ztru (zcall o i_is_small (zcons (zvar 0) znil)))) (sseq (sraise 14)
 snil) snil)
 snil)
def m_check_small : Fn := ⟨1, 1, mb_check_small⟩

def m_threads_of : Fn := ⟨0, 0, fun _ => sbad⟩

def m_first_state : Fn := ⟨0, 0, fun _ => sbad⟩

def m_rank_by : Fn := ⟨0, 0, fun _ => sbad⟩

def m_hand_with_job : Fn := ⟨0, 0, fun _ => sbad⟩

def m_spinning : Fn := ⟨0, 0, fun _ => sbad⟩

def m_may_break : Fn := ⟨0, 0, fun _ => sbad⟩

def m_behind : Fn := ⟨0, 0, fun _ => sbad⟩

def m_some_of : Fn := ⟨0, 0, fun _ => sbad⟩

def m_walked : Fn := ⟨0, 0, fun _ => sbad⟩

def m_are_threads : Fn := ⟨0, 0, fun _ => sbad⟩

abbrev N_played : List Str := ["small", "story", "found"]
def mb_played (o : Orc) : Sv :=
 (sseq (sexp (zcall o i_check_small (zcons (zvar 0) znil)))
 (sseq sbad
 (sseq (sif (zcmp .isN (zvar 2) (zc .non)) (sseq (sraise 15)
 snil) snil)
 (sseq (sret (zix (zvar 2) (zc (.int 1))))
 snil))))
def m_played : Fn := ⟨2, 3, mb_played⟩

abbrev N_worst_story : List Str := ["small", "paths", "found"]
def mb_worst_story (o : Orc) : Sv :=
 (sseq (sexp (zcall o i_check_small (zcons (zvar 0) znil)))
 (sseq sbad
 (sseq sbad
 (sseq sbad
 (sseq sbad
 snil)))))
def m_worst_story : Fn := ⟨1, 3, mb_worst_story⟩

abbrev N__law_pool : List Str := ["_law_script", "_law_k", "_law_cell", "_law_more", "_law_found", "_law_turn"]
def mb__law_pool (o : Orc) : Sv :=
 (sseq (sasg (gnm 2) (zsumq (zslL (zvar 0) (zsome (zvar 1)) (zsome (zbin .add (zvar 1) (zc (.int 1)))))))
 (sseq (sif (zor (zcmp .lt (zvar 2) (zc (.int 0))) (zcmp .ge (zvar 2) (zbin .pow (zc (.int 10)) (zc (.int 18))))) (sseq (sret (znew (zlst (zcons (zbin .mod (zabs (zvar 2)) (zbin .mul (zbin .mul (zbin .mul (zbin .mul (zbin .mul (zbin .pow (zc (.int 10)) (zc (.int 64))) (zbin .pow (zc (.int 10)) (zc (.int 64)))) (zbin .pow (zc (.int 10)) (zc (.int 64)))) (zbin .pow (zc (.int 10)) (zc (.int 64)))) (zbin .pow (zc (.int 10)) (zc (.int 64)))) (zbin .pow (zc (.int 10)) (zc (.int 64))))) znil))))
 snil) snil)
 (sseq (sasg (gnm 3) (zbin .add (zbin .add (zbin .mul (zvar 2) (zc (.int 48271))) (zbin .mul (zbin .mul (zc (.int 977)) (zvar 1)) (zvar 1))) (zc (.int 13))))
 (sseq (sasg (gnm 4) (zc (.int 0)))
 (sseq (sfor (gnm 5) (zst (zrng (zc (.int 0)) (zc (.int 27)))) (sseq (sasg (gnm 3) (zbin .mod (zbin .add (zbin .add (zbin .mul (zbin .mod (zvar 3) (zc (.int 999999999989))) (zc (.int 69621))) (zbin .mul (zc (.int 40503)) (zvar 5))) (zc (.int 271))) (zc (.int 999999999989))))
 (sseq (sasg (gnm 4) (zbin .add (zbin .mul (zvar 4) (zbin .pow (zc (.int 10)) (zc (.int 11)))) (zbin .mod (zbin .mul (zvar 3) (zbin .add (zbin .mod (zvar 3) (zc (.int 65537))) (zc (.int 3)))) (zc (.int 99999999977)))))
 snil)))
 (sseq (sret (znew (zlst (zcons (zvar 4) znil))))
 snil))))))
def m__law_pool : Fn := ⟨2, 6, mb__law_pool⟩

abbrev N__law_take : List Str := ["_law_pool_here", "_law_many", "_law_digit"]
def mb__law_take (o : Orc) : Sv :=
 (sseq (sasg (gtup 2 (gcons (gsub (zvar 0) (zc (.int 0))) (gcons (gnm 2) gnil))) (zdvm (zix (zvar 0) (zc (.int 0))) (zvar 1)))
 (sseq (sret (zvar 2))
 snil))
def m__law_take : Fn := ⟨2, 3, mb__law_take⟩

abbrev N__law_small : List Str := ["_law_pool_here", "_law_sizes", "_law_frames", "_law_wide", "_law_many", "_law_walks", "_law_pieces", "_law_rule", "_law_gap", "_law_size", "_law_f", "_law_g"]
def ce__law_small_0 (o : Orc) : Ev D :=
 (ztup (zcons (zcall o i__law_take (zcons (zvar 0) (zcons (zc (.int 2)) znil))) (zcons (zvar 9) (zcons (zcall o i__law_take (zcons (zvar 0) (zcons (zvar 9) znil))) znil))))
def ce__law_small_1 (o : Orc) : Ev D :=
 (zbin .mul (zcall o i__law_take (zcons (zvar 0) (zcons (zvar 3) znil))) (zint (zbl (zcmp .ne (zvar 10) (zvar 11)))))
def ce__law_small_2 (o : Orc) : Ev D :=
 (ztupq (zst (zcomp [11] (gnm 11) (zst (zrng (zc (.int 0)) (zvar 4))) ztt (ce__law_small_1 o))))
def mb__law_small (o : Orc) : Sv :=
 (sseq (sasg (gnm 1) (zix (zfz (zlst (zcons (ztup (zcons (zc (.int 1)) znil)) (zcons (ztup (zcons (zc (.int 2)) znil)) (zcons (ztup (zcons (zc (.int 3)) znil)) (zcons (ztup (zcons (zc (.int 1)) (zcons (zc (.int 1)) znil))) (zcons (ztup (zcons (zc (.int 1)) (zcons (zc (.int 2)) znil))) (zcons (ztup (zcons (zc (.int 2)) (zcons (zc (.int 1)) znil))) (zcons (ztup (zcons (zc (.int 1)) (zcons (zc (.int 1)) (zcons (zc (.int 1)) znil)))) znil))))))))) (zcall o i__law_take (zcons (zvar 0) (zcons (zc (.int 7)) znil)))))
 (sseq (sasg (gnm 2) (ztupq (zst (zcomp [9] (gnm 9) (zof (zvar 1)) ztt (ce__law_small_0 o)))))
 (sseq (sasg (gnm 3) (zix (zfz (zlst (zcons (zc (.int 1)) (zcons (zc (.int 2)) (zcons (zc (.int 4)) znil))))) (zcall o i__law_take (zcons (zvar 0) (zcons (zc (.int 3)) znil)))))
 (sseq (sasg (gnm 4) (zlen (zvar 1)))
 (sseq (sasg (gnm 5) (ztupq (zst (zcomp [10] (gnm 10) (zst (zrng (zc (.int 0)) (zvar 4))) ztt (ce__law_small_2 o)))))
 (sseq (sasg (gnm 6) (ztup (zcons (zbin .add (zc (.int 1)) (zcall o i__law_take (zcons (zvar 0) (zcons (zc (.int 3)) znil)))) (zcons (zbin .add (zc (.int 1)) (zcall o i__law_take (zcons (zvar 0) (zcons (zc (.int 3)) znil)))) znil))))
 (sseq (sasg (gnm 7) (zix (zfz (zlst (zcons (zc (.str "near")) (zcons (zc (.str "old")) (zcons (zc (.str "sort")) znil))))) (zcall o i__law_take (zcons (zvar 0) (zcons (zc (.int 3)) znil)))))
 (sseq (sasg (gnm 8) (zix (zfz (zlst (zcons (zc (.int 0)) (zcons (zc (.int 0)) (zcons (zc (.int 1)) (zcons (zc (.int 2)) znil)))))) (zcall o i__law_take (zcons (zvar 0) (zcons (zc (.int 4)) znil)))))
 (sseq (sif (zcmp .gt (zsumT (zvar 1)) (zc (.int 2))) (sseq (sasg (gnm 8) (zmn2 (zvar 8) (zint (zbl (zcmp .eq (zvar 4) (zc (.int 1)))))))
 snil) snil)
 (sseq (sret (ztup (zcons (zvar 2) (zcons (zvar 5) (zcons (zvar 6) (zcons (zvar 7) (zcons (zvar 8) znil)))))))
 snil))))))))))
def m__law_small : Fn := ⟨1, 12, mb__law_small⟩

abbrev N__law_sort : List Str := ["_law_e", "_law_kinds", "_law_words"]
def mb__law_sort (o : Orc) : Sv :=
 (sseq (sasg (gnm 1) (zfz (zlst (zcons (zisx 20 [(.own 16)] (zvar 0)) (zcons (zisx 20 [(.own 17)] (zvar 0)) (zcons (zisx 20 [(.own 2)] (zvar 0)) (zcons (zisx 20 [(.own 3)] (zvar 0)) znil)))))))
 (sseq (sasg (gnm 1) (zfz (zcatL (zvar 1) (zfz (zlst (zcons (zisx 20 [(.own 7)] (zvar 0)) (zcons (zisx 20 [(.own 8)] (zvar 0)) (zcons (zisx 20 [(.own 5)] (zvar 0)) (zcons (zisx 20 [(.own 13)] (zvar 0)) znil)))))))))
 (sseq (sasg (gnm 1) (zfz (zcatL (zvar 1) (zfz (zlst (zcons (zisx 20 [(.own 18)] (zvar 0)) (zcons (zisx 20 [(.own 14)] (zvar 0)) (zcons (zisx 20 [(.own 9)] (zvar 0)) (zcons (zisx 20 [(.own 15)] (zvar 0)) znil)))))))))
 (sseq (sasg (gnm 1) (zfz (zcatL (zvar 1) (zfz (zlst (zcons (zisx 20 [(.own 4)] (zvar 0)) (zcons (zisx 20 [(.own 12)] (zvar 0)) (zcons (zisx 20 [(.own 19)] (zvar 0)) (zcons (zisx 20 [(.own 10)] (zvar 0)) znil)))))))))
 (sseq (sasg (gnm 1) (zfz (zcatL (zvar 1) (zfz (zlst (zcons (zisx 20 [(.own 6)] (zvar 0)) (zcons (zisx 20 [(.own 1)] (zvar 0)) (zcons (zisx 20 [(.own 11)] (zvar 0)) znil))))))))
 (sseq (sif (zor (zcmp .ne (zlkL cntP (zvar 1) (zc (.bl true))) (zc (.int 1))) (znot (ztru (zisx 20 [.ve] (zvar 0))))) (sseq (sret (zc (.str "other")))
 snil) snil)
 (sseq (sasg (gnm 2) (zfz (zlst (zcons (zc (.str "calls")) (zcons (zc (.str "doffs")) (zcons (zc (.str "frame")) (zcons (zc (.str "hand")) (zcons (zc (.str "many")) (zcons (zc (.str "minds")) (zcons (zc (.str "moment")) (zcons (zc (.str "plain")) (zcons (zc (.str "row")) (zcons (zc (.str "small")) (zcons (zc (.str "spun")) (zcons (zc (.str "story")) znil)))))))))))))))
 (sseq (sret (zix (zfz (zcatL (zvar 2) (zfz (zlst (zcons (zc (.str "stray")) (zcons (zc (.str "strike")) (zcons (zc (.str "text")) (zcons (zc (.str "thread")) (zcons (zc (.str "wait")) (zcons (zc (.str "yard")) (zcons (zc (.str "toomany")) znil))))))))))) (zlkL idxP (zvar 1) (zc (.bl true)))))
 snil))))))))
def m__law_sort : Fn := ⟨1, 3, mb__law_sort⟩

abbrev N__law_bent : List Str := ["_law_pool_here", "_law_thing", "_law_some", "_law_at"]
def mb__law_bent (o : Orc) : Sv :=
 (sseq (sif (zand (ztru (zisi .tuple (zvar 1))) (zand (zcmp .ne (zvar 1) (ztup znil)) (zcmp .gt (zcall o i__law_take (zcons (zvar 0) (zcons (zc (.int 8)) znil))) (zc (.int 0))))) (sseq (sasg (gnm 3) (zcall o i__law_take (zcons (zvar 0) (zcons (zlen (zvar 1)) znil))))
 (sseq (sret (zbin .add (zbin .add (zslT (zvar 1) znone (zsome (zvar 3))) (ztup (zcons (zcall o i__law_bent (zcons (zvar 0) (zcons (zix (zvar 1) (zvar 3)) znil))) znil))) (zslT (zvar 1) (zsome (zbin .add (zvar 3) (zc (.int 1)))) znone)))
 snil)) snil)
 (sseq (sif (ztru (zisi .tuple (zvar 1))) (sseq (sasg (gnm 3) (zcall o i__law_take (zcons (zvar 0) (zcons (zbin .add (zlen (zvar 1)) (zc (.int 1))) znil))))
 (sseq (sasg (gnm 2) (zfz (zlst (zcons (zbin .add (zslT (zvar 1) znone (zsome (zvar 3))) (zslT (zvar 1) (zsome (zbin .add (zvar 3) (zc (.int 1)))) znone)) (zcons (zbin .add (zvar 1) (zslT (zvar 1) znone (zsome (zc (.int 1))))) (zcons (zbin .add (zbin .add (zslT (zvar 1) znone (zsome (zvar 3))) (zslT (zvar 1) (zsome (zvar 3)) (zsome (zbin .add (zvar 3) (zc (.int 1)))))) (zslT (zvar 1) (zsome (zvar 3)) znone)) (zcons (zfz (zrow (zof (zvar 1)))) znil)))))))
 (sseq (sret (zix (zfz (zcatL (zvar 2) (zfz (zlst (zcons (zrevT (zvar 1)) (zcons (ztup (zcons (zvar 1) znil)) (zcons (zc .non) (zcons (ztup znil) znil)))))))) (zcall o i__law_take (zcons (zvar 0) (zcons (zc (.int 8)) znil)))))
 snil))) snil)
 (sseq (sasg (gnm 2) (zfz (zlst (zcons (zc .non) (zcons (zc (.bl true)) (zcons (zc (.bl false)) (zcons (zc (.int 0)) (zcons (zc (.int 1)) (zcons (zc (.int 2)) (zcons (zc (.int 3)) (zcons (zc (.int 4)) (zcons (zneg (zc (.int 1))) (zcons (zc (.str "")) (zcons (zc (.str "old")) (zcons (zc (.str "near")) (zcons (zc (.str "Old")) (zcons (zfz (zlst znil)) (zcons zemp (zcons (ztup znil) (zcons (zfz (zlst (zcons (zvar 1) znil))) (zcons (ztup (zcons (zvar 1) znil)) (zcons (zbin .pow (zc (.int 10)) (zc (.int 30))) znil))))))))))))))))))))))
 (sseq (sret (zix (zvar 2) (zcall o i__law_take (zcons (zvar 0) (zcons (zc (.int 19)) znil)))))
 snil))))
def m__law_bent : Fn := ⟨2, 4, mb__law_bent⟩

abbrev N__law_number : List Str := ["_law_thing", "_law_low", "_law_high"]
def mb__law_number (o : Orc) : Sv :=
 (sseq (sret (zandv (zisi .int (zvar 0)) (zandv (zbl (znot (ztru (zisi .bool (zvar 0))))) (zbl (zchn .le .le (zvar 1) (zvar 0) (zvar 2))))))
 snil)
def m__law_number : Fn := ⟨3, 3, mb__law_number⟩

abbrev N__law_are_frames : List Str := ["_law_thing", "_law_many", "_law_frame"]
def lb__law_are_frames_0 (o : Orc) : Sv :=
 (sseq (sif (zor (znot (ztru (zisi .tuple (zvar 2)))) (zor (zcmp .ne (zlen (zvar 2)) (zc (.int 3))) (znot (ztru (zcall o i__law_number (zcons (zix (zvar 2) (zc (.int 0))) (zcons (zc (.int 0)) (zcons (zc (.int 1)) znil)))))))) (sseq (sret (zc (.bl false)))
 snil) snil)
 (sseq (sif (zor (znot (ztru (zcall o i__law_number (zcons (zix (zvar 2) (zc (.int 1))) (zcons (zc (.int 1)) (zcons (zc (.int 3)) znil)))))) (znot (ztru (zcall o i__law_number (zcons (zix (zvar 2) (zc (.int 2))) (zcons (zc (.int 0)) (zcons (zbin .sub (zix (zvar 2) (zc (.int 1))) (zc (.int 1))) znil))))))) (sseq (sret (zc (.bl false)))
 snil) snil)
 (sseq (sasg (gnm 1) (zbin .add (zvar 1) (zix (zvar 2) (zc (.int 1)))))
 snil)))
def mb__law_are_frames (o : Orc) : Sv :=
 (sseq (sif (zor (znot (ztru (zisi .tuple (zvar 0)))) (znot (zchn .le .le (zc (.int 1)) (zlen (zvar 0)) (zc (.int 3))))) (sseq (sret (zc (.bl false)))
 snil) snil)
 (sseq (sasg (gnm 1) (zc (.int 0)))
 (sseq (sfor (gnm 2) (zof (zvar 0)) (lb__law_are_frames_0 o))
 (sseq (sret (zbl (zcmp .le (zvar 1) (zc (.int 3)))))
 snil))))
def m__law_are_frames : Fn := ⟨1, 3, mb__law_are_frames⟩

abbrev N__law_are_walks : List Str := ["_law_thing", "_law_many", "_law_f", "_law_row", "_law_one"]
def ce__law_are_walks_0 (o : Orc) : Ev D :=
 (zcall o i__law_number (zcons (zvar 4) (zcons (zc (.int 0)) (zcons (zc (.int 3)) znil))))
def lb__law_are_walks_1 (o : Orc) : Sv :=
 (sseq (sif (zor (znot (ztru (zisi .tuple (zvar 3)))) (zor (zcmp .ne (zlen (zvar 3)) (zvar 1)) (znot (ztru (zallq (zcomp [4] (gnm 4) (zof (zvar 3)) ztt (ce__law_are_walks_0 o))))))) (sseq (sret (zc (.bl false)))
 snil) snil)
 (sseq (sif (zcmp .ne (zix (zvar 3) (zvar 2)) (zc (.int 0))) (sseq (sret (zc (.bl false)))
 snil) snil)
 snil))
def mb__law_are_walks (o : Orc) : Sv :=
 (sseq (sif (zor (znot (ztru (zisi .tuple (zvar 0)))) (zcmp .ne (zlen (zvar 0)) (zvar 1))) (sseq (sret (zc (.bl false)))
 snil) snil)
 (sseq (sfor (gtup 2 (gcons (gnm 2) (gcons (gnm 3) gnil))) (zenum (zof (zvar 0))) (lb__law_are_walks_1 o))
 (sseq (sret (zc (.bl true)))
 snil)))
def m__law_are_walks : Fn := ⟨2, 5, mb__law_are_walks⟩

abbrev N__law_is_small : List Str := ["_law_thing", "_law_one"]
def ce__law_is_small_0 (o : Orc) : Ev D :=
 (zcall o i__law_number (zcons (zvar 1) (zcons (zc (.int 1)) (zcons (zc (.int 3)) znil))))
def mb__law_is_small (o : Orc) : Sv :=
 (sseq (sif (zor (znot (ztru (zisi .tuple (zvar 0)))) (zor (zcmp .ne (zlen (zvar 0)) (zc (.int 5))) (znot (ztru (zcall o i__law_are_frames (zcons (zix (zvar 0) (zc (.int 0))) znil)))))) (sseq (sret (zc (.bl false)))
 snil) snil)
 (sseq (sif (zor (znot (ztru (zcall o i__law_are_walks (zcons (zix (zvar 0) (zc (.int 1))) (zcons (zlen (zix (zvar 0) (zc (.int 0)))) znil))))) (zor (znot (ztru (zisi .tuple (zix (zvar 0) (zc (.int 2)))))) (zcmp .ne (zlen (zix (zvar 0) (zc (.int 2)))) (zc (.int 2))))) (sseq (sret (zc (.bl false)))
 snil) snil)
 (sseq (sif (zor (znot (ztru (zallq (zcomp [1] (gnm 1) (zof (zix (zvar 0) (zc (.int 2)))) ztt (ce__law_is_small_0 o))))) (znot (ztru (zcall o i__law_number (zcons (zix (zvar 0) (zc (.int 4))) (zcons (zc (.int 0)) (zcons (zc (.int 2)) znil))))))) (sseq (sret (zc (.bl false)))
 snil) snil)
 (sseq (sret (zandv (zisi .str (zix (zvar 0) (zc (.int 3)))) (zbl (zcmp .in_ (zix (zvar 0) (zc (.int 3))) (zfz (zlst (zcons (zc (.str "near")) (zcons (zc (.str "old")) (zcons (zc (.str "sort")) znil)))))))))
 snil))))
def m__law_is_small : Fn := ⟨1, 2, mb__law_is_small⟩

abbrev N__law_asked : List Str := ["_law_door", "_law_thing", "_law_story", "_law_e"]
def tb__law_asked_0 (o : Orc) : Sv :=
 (sseq (sif (zcmp .eq (zvar 0) (zc (.int 0))) (sseq (sexp (zcall o i_played (zcons (zvar 1) (zcons (zvar 2) znil))))
 snil) (sseq (sexp (zcall o i_worst_story (zcons (zvar 1) znil)))
 snil))
 snil)
def mb__law_asked (o : Orc) : Sv :=
 (sseq (stry 0 3 20 (tb__law_asked_0 o) (sseq (sret (zcall o i__law_sort (zcons (zvar 3) znil)))
 snil))
 (sseq (sret (zc (.str "told")))
 snil))
def m__law_asked : Fn := ⟨3, 4, mb__law_asked⟩

abbrev N__law_right : List Str := ["_law_thing", "_law_story", "_law_due", "_law_found"]
def mb__law_right (o : Orc) : Sv :=
 (sseq (sasg (gnm 2) (zcall o i__law_is_small (zcons (zvar 0) znil)))
 (sseq (sasg (gnm 3) (zcall o i_is_small (zcons (zvar 0) znil)))
 (sseq (sif (zor (znot (ztru (zisi .bool (zvar 3)))) (zcmp .ne (zvar 3) (zvar 2))) (sseq (sret (zc (.bl false)))
 snil) snil)
 (sseq (sret (zorv (zvar 2) (zandv (zbl (zcmp .eq (zcall o i__law_asked (zcons (zc (.int 0)) (zcons (zvar 0) (zcons (zvar 1) znil)))) (zc (.str "small")))) (zbl (zcmp .eq (zcall o i__law_asked (zcons (zc (.int 1)) (zcons (zvar 0) (zcons (zc .non) znil)))) (zc (.str "small")))))))
 snil))))
def m__law_right : Fn := ⟨2, 4, mb__law_right⟩

abbrev N__law_at_bounds : List Str := ["_law_found", "_law_some", "_law_frame", "_law_pair", "_law_frames", "_law_walks", "_law_one", "_law_walk", "_law_gap", "_law_pieces"]
def ce__law_at_bounds_0 (o : Orc) : Ev D :=
 (ztup (zcons (ztup (zcons (zvar 6) znil)) (zcons (zvar 7) (zcons (ztup (zcons (zc (.int 1)) (zcons (zc (.int 1)) znil))) (zcons (zc (.str "old")) (zcons (zvar 8) znil))))))
def ce__law_at_bounds_1 (o : Orc) : Ev D :=
 (ztup (zcons (ztup (zcons (zvar 6) znil)) (zcons (zvar 7) (zcons (zvar 9) (zcons (zc (.str "sort")) (zcons (zc (.int 0)) znil))))))
def lb__law_at_bounds_2 (o : Orc) : Sv :=
 (sseq (sexp (zm1 .append (zvar 0) (ztup (zcons (ztup (zcons (zvar 2) znil)) (zcons (zvar 7) (zcons (ztup (zcons (zc (.int 1)) (zcons (zc (.int 1)) znil))) (zcons (zc (.str "near")) (zcons (zc (.int 0)) znil))))))))
 snil)
def lb__law_at_bounds_3 (o : Orc) : Sv :=
 (sseq (sexp (zm1 .append (zvar 0) (ztup (zcons (zvar 4) (zcons (zvar 3) (zcons (ztup (zcons (zc (.int 1)) (zcons (zc (.int 1)) znil))) (zcons (zc (.str "near")) (zcons (zc (.int 2)) znil))))))))
 snil)
def lb__law_at_bounds_4 (o : Orc) : Sv :=
 (sseq (sexp (zm1 .append (zvar 0) (ztup (zcons (ztup (zcons (zvar 6) (zcons (zvar 6) znil))) (zcons (zvar 5) (zcons (ztup (zcons (zc (.int 1)) (zcons (zc (.int 1)) znil))) (zcons (zc (.str "near")) (zcons (zc (.int 0)) znil))))))))
 snil)
def mb__law_at_bounds (o : Orc) : Sv :=
 (sseq (sasg (gtup 2 (gcons (gnm 6) (gcons (gnm 7) gnil))) (ztup (zcons (ztup (zcons (zc (.int 0)) (zcons (zc (.int 1)) (zcons (zc (.int 0)) znil)))) (zcons (ztup (zcons (ztup (zcons (zc (.int 0)) znil)) znil)) znil))))
 (sseq (sasg (gnm 0) (znew (zcomp [8] (gnm 8) (zst (zlst (zcons (zneg (zc (.int 1))) (zcons (zc (.int 0)) (zcons (zc (.int 2)) (zcons (zc (.int 3)) (zcons (zc (.bl true)) (zcons (zc .non) znil)))))))) ztt (ce__law_at_bounds_0 o))))
 (sseq (sasg (gnm 0) (znew (zcatL (zvar 0) (zfz (zcomp [9] (gnm 9) (zst (zlst (zcons (ztup (zcons (zc (.int 0)) (zcons (zc (.int 1)) znil))) (zcons (ztup (zcons (zc (.int 3)) (zcons (zc (.int 3)) znil))) (zcons (ztup (zcons (zc (.int 1)) (zcons (zc (.int 4)) znil))) (zcons (ztup (zcons (zc (.int 4)) (zcons (zc (.int 1)) znil))) (zcons (ztup (zcons (zc (.int 1)) znil)) (zcons (zfz (zlst (zcons (zc (.int 1)) (zcons (zc (.int 1)) znil)))) znil)))))))) ztt (ce__law_at_bounds_1 o))))))
 (sseq (sasg (gnm 1) (zfz (zlst (zcons (ztup (zcons (zc (.int 0)) (zcons (zc (.int 3)) (zcons (zc (.int 2)) znil)))) (zcons (ztup (zcons (zc (.int 1)) (zcons (zc (.int 3)) (zcons (zc (.int 3)) znil)))) (zcons (ztup (zcons (zc (.int 0)) (zcons (zc (.int 4)) (zcons (zc (.int 0)) znil)))) (zcons (ztup (zcons (zc (.int 2)) (zcons (zc (.int 1)) (zcons (zc (.int 0)) znil)))) (zcons (ztup (zcons (zneg (zc (.int 1))) (zcons (zc (.int 1)) (zcons (zc (.int 0)) znil)))) (zcons (ztup (zcons (zc (.int 0)) (zcons (zc (.int 0)) (zcons (zc (.int 0)) znil)))) (zcons (ztup (zcons (zc (.int 0)) (zcons (zc (.int 1)) (zcons (zc (.int 1)) znil)))) (zcons (ztup (zcons (zc (.int 0)) (zcons (zc (.int 2)) (zcons (zneg (zc (.int 1))) znil)))) znil)))))))))))
 (sseq (sfor (gnm 2) (zst (zcatL (zvar 1) (zfz (zlst (zcons (ztup (zcons (zc (.bl true)) (zcons (zc (.int 1)) (zcons (zc (.int 0)) znil)))) znil))))) (lb__law_at_bounds_2 o))
 (sseq (sasg (gnm 3) (ztup (zcons (ztup (zcons (zc (.int 0)) (zcons (zc (.int 3)) znil))) (zcons (ztup (zcons (zc (.int 3)) (zcons (zc (.int 0)) znil))) znil))))
 (sseq (sfor (gnm 4) (zst (zlst (zcons (ztup (zcons (zvar 6) (zcons (zvar 6) znil))) (zcons (ztup (zcons (zvar 6) (zcons (ztup (zcons (zc (.int 0)) (zcons (zc (.int 2)) (zcons (zc (.int 1)) znil)))) znil))) (zcons (ztup (zcons (ztup (zcons (zc (.int 0)) (zcons (zc (.int 2)) (zcons (zc (.int 0)) znil)))) (zcons (ztup (zcons (zc (.int 0)) (zcons (zc (.int 2)) (zcons (zc (.int 0)) znil)))) znil))) (zcons (ztup (zcons (zvar 6) (zcons (ztup (zcons (zc (.int 0)) (zcons (zc (.int 3)) (zcons (zc (.int 0)) znil)))) znil))) znil)))))) (lb__law_at_bounds_3 o))
 (sseq (sfor (gnm 5) (zst (zlst (zcons (ztup (zcons (ztup (zcons (zc (.int 0)) (zcons (zc (.int 4)) znil))) (zcons (ztup (zcons (zc (.int 1)) (zcons (zc (.int 0)) znil))) znil))) (zcons (ztup (zcons (ztup (zcons (zc (.int 1)) (zcons (zc (.int 1)) znil))) (zcons (ztup (zcons (zc (.int 1)) (zcons (zc (.int 0)) znil))) znil))) (zcons (ztup (zcons (ztup (zcons (zc (.int 0)) (zcons (zc (.int 1)) znil))) (zcons (ztup (zcons (zc (.int 1)) (zcons (zc (.int 1)) znil))) znil))) (zcons (ztup (zcons (ztup (zcons (zc (.int 0)) (zcons (zc (.int 1)) znil))) znil)) (zcons (ztup (zcons (ztup (zcons (zc (.int 0)) (zcons (zc (.int 1)) znil))) (zcons (zfz (zlst (zcons (zc (.int 1)) (zcons (zc (.int 0)) znil)))) znil))) (zcons (ztup (zcons (ztup (zcons (zc (.int 0)) (zcons (zneg (zc (.int 1))) znil))) (zcons (ztup (zcons (zc (.int 1)) (zcons (zc (.int 0)) znil))) znil))) znil)))))))) (lb__law_at_bounds_4 o))
 (sseq (sasg (gnm 0) (znew (zcatL (zvar 0) (zfz (zlst (zcons (ztup (zcons (zbin .mul (ztup (zcons (zvar 6) znil)) (zc (.int 3))) (zcons (zbin .mul (ztup (zcons (zbin .mul (ztup (zcons (zc (.int 0)) znil)) (zc (.int 3))) znil)) (zc (.int 3))) (zcons (ztup (zcons (zc (.int 1)) (zcons (zc (.int 1)) znil))) (zcons (zc (.str "old")) (zcons (zc (.int 0)) znil)))))) (zcons (ztup (zcons (zbin .mul (ztup (zcons (zvar 6) znil)) (zc (.int 4))) (zcons (zbin .mul (ztup (zcons (zbin .mul (ztup (zcons (zc (.int 0)) znil)) (zc (.int 4))) znil)) (zc (.int 4))) (zcons (ztup (zcons (zc (.int 1)) (zcons (zc (.int 1)) znil))) (zcons (zc (.str "old")) (zcons (zc (.int 0)) znil)))))) znil)))))))
 (sseq (sret (zfz (zcatL (zvar 0) (zfz (zlst (zcons (zc .non) (zcons (zc (.bl true)) (zcons (zc (.int 5)) (zcons (zc (.str "")) (zcons (ztup znil) (zcons (zfz (zlst znil)) (zcons zemp (zcons (ztup (zcons (ztup znil) znil)) (zcons (ztup (zcons (zfz (zlst znil)) znil)) (zcons (ztup (zcons (ztup (zcons (zvar 6) znil)) (zcons (zvar 7) (zcons (ztup (zcons (zc (.int 1)) (zcons (zc (.int 1)) znil))) (zcons (zfz (zlst (zcons (zc (.str "old")) znil))) (zcons (zc (.int 0)) znil)))))) znil)))))))))))))))
 snil))))))))))
def m__law_at_bounds : Fn := ⟨0, 10, mb__law_at_bounds⟩

abbrev N_law : List Str := ["_law_script", "_law_story", "_law_k", "_law_pool_here", "_law_small_here", "_law_turn", "_law_thing"]
def ce_law_0 (o : Orc) : Ev D :=
 (zcall o i__law_right (zcons (zvar 6) (zcons (zvar 1) znil)))
def lb_law_1 (o : Orc) : Sv :=
 (sseq (sif (znot (ztru (zcall o i__law_right (zcons (zcall o i__law_bent (zcons (zvar 3) (zcons (zvar 4) znil))) (zcons (zix (zfz (zlst (zcons (zvar 1) (zcons (zc .non) (zcons (ztup (zcons (zc .non) znil)) znil))))) (zbin .mod (zvar 5) (zc (.int 3)))) znil))))) (sseq (sret (zc (.bl false)))
 snil) snil)
 snil)
def lb_law_2 (o : Orc) : Sv :=
 (sseq (sasg (gnm 3) (zcall o i__law_pool (zcons (zvar 0) (zcons (zvar 2) znil))))
 (sseq (sasg (gnm 4) (zcall o i__law_small (zcons (zvar 3) znil)))
 (sseq (sif (znot (ztru (zcall o i__law_right (zcons (zvar 4) (zcons (zc .non) znil))))) (sseq (sret (zc (.bl false)))
 snil) snil)
 (sseq (sfor (gnm 5) (zst (zrng (zc (.int 0)) (zc (.int 10)))) (lb_law_1 o))
 snil))))
def mb_law (o : Orc) : Sv :=
 (sseq (sasg (gnm 1) (ztup (zcons (ztup (zcons (ztup (zcons (zc (.int 0)) (zcons (zc (.int 0)) znil))) znil)) (zcons (ztup znil) (zcons (ztup znil) znil)))))
 (sseq (sif (znot (ztru (zallq (zcomp [6] (gnm 6) (zof (zcall o i__law_at_bounds znil)) ztt (ce_law_0 o))))) (sseq (sret (zc (.bl false)))
 snil) snil)
 (sseq (sfor (gnm 2) (zst (zrng (zc (.int 0)) (zmx2 (zc (.int 1)) (zmn2 (zlen (zvar 0)) (zc (.int 6)))))) (lb_law_2 o))
 (sseq (sret (zc (.bl true)))
 snil))))
def m_law : Fn := ⟨1, 7, mb_law⟩

noncomputable def Pg : List Fn := [m_is_whole, m_is_between, m_is_small_frame, m_are_small_walks, m_is_small_yard, m_is_small, m_check_small, m_threads_of, m_first_state, m_rank_by, m_hand_with_job, m_spinning, m_may_break, m_behind, m_some_of, m_walked, m_are_threads, m_played, m_worst_story, m__law_pool, m__law_take, m__law_small, m__law_sort, m__law_bent, m__law_number, m__law_are_frames, m__law_are_walks, m__law_is_small, m__law_asked, m__law_right, m__law_at_bounds, m_law]

theorem c_is_whole (k : Nat) (a0 : D) (A : Hh) : callN Pg (k + 1) i_is_whole [a0] A = endD A (mb_is_whole ⟨callN Pg k⟩ [some a0] A) := rfl
theorem c_is_between (k : Nat) (a0 a1 a2 : D) (A : Hh) : callN Pg (k + 1) i_is_between [a0, a1, a2] A = endD A (mb_is_between ⟨callN Pg k⟩ [some a0, some a1, some a2] A) := rfl
theorem c_is_small_frame (k : Nat) (a0 : D) (A : Hh) : callN Pg (k + 1) i_is_small_frame [a0] A = endD A (mb_is_small_frame ⟨callN Pg k⟩ [some a0, none] A) := rfl
theorem c_are_small_walks (k : Nat) (a0 a1 : D) (A : Hh) : callN Pg (k + 1) i_are_small_walks [a0, a1] A = endD A (mb_are_small_walks ⟨callN Pg k⟩ [some a0, some a1, none, none, none] A) := rfl
theorem c_is_small_yard (k : Nat) (a0 : D) (A : Hh) : callN Pg (k + 1) i_is_small_yard [a0] A = endD A (mb_is_small_yard ⟨callN Pg k⟩ [some a0, none, none, none, none, none, none, none] A) := rfl
theorem c_is_small (k : Nat) (a0 : D) (A : Hh) : callN Pg (k + 1) i_is_small [a0] A = endD A (mb_is_small ⟨callN Pg k⟩ [some a0] A) := rfl
theorem c_check_small (k : Nat) (a0 : D) (A : Hh) : callN Pg (k + 1) i_check_small [a0] A = endD A (mb_check_small ⟨callN Pg k⟩ [some a0] A) := rfl
theorem c_played (k : Nat) (a0 a1 : D) (A : Hh) : callN Pg (k + 1) i_played [a0, a1] A = endD A (mb_played ⟨callN Pg k⟩ [some a0, some a1, none] A) := rfl
theorem c_worst_story (k : Nat) (a0 : D) (A : Hh) : callN Pg (k + 1) i_worst_story [a0] A = endD A (mb_worst_story ⟨callN Pg k⟩ [some a0, none, none] A) := rfl
theorem c__law_pool (k : Nat) (a0 a1 : D) (A : Hh) : callN Pg (k + 1) i__law_pool [a0, a1] A = endD A (mb__law_pool ⟨callN Pg k⟩ [some a0, some a1, none, none, none, none] A) := rfl
theorem c__law_take (k : Nat) (a0 a1 : D) (A : Hh) : callN Pg (k + 1) i__law_take [a0, a1] A = endD A (mb__law_take ⟨callN Pg k⟩ [some a0, some a1, none] A) := rfl
theorem c__law_small (k : Nat) (a0 : D) (A : Hh) : callN Pg (k + 1) i__law_small [a0] A = endD A (mb__law_small ⟨callN Pg k⟩ [some a0, none, none, none, none, none, none, none, none, none, none, none] A) := rfl
theorem c__law_sort (k : Nat) (a0 : D) (A : Hh) : callN Pg (k + 1) i__law_sort [a0] A = endD A (mb__law_sort ⟨callN Pg k⟩ [some a0, none, none] A) := rfl
theorem c__law_bent (k : Nat) (a0 a1 : D) (A : Hh) : callN Pg (k + 1) i__law_bent [a0, a1] A = endD A (mb__law_bent ⟨callN Pg k⟩ [some a0, some a1, none, none] A) := rfl
theorem c__law_number (k : Nat) (a0 a1 a2 : D) (A : Hh) : callN Pg (k + 1) i__law_number [a0, a1, a2] A = endD A (mb__law_number ⟨callN Pg k⟩ [some a0, some a1, some a2] A) := rfl
theorem c__law_are_frames (k : Nat) (a0 : D) (A : Hh) : callN Pg (k + 1) i__law_are_frames [a0] A = endD A (mb__law_are_frames ⟨callN Pg k⟩ [some a0, none, none] A) := rfl
theorem c__law_are_walks (k : Nat) (a0 a1 : D) (A : Hh) : callN Pg (k + 1) i__law_are_walks [a0, a1] A = endD A (mb__law_are_walks ⟨callN Pg k⟩ [some a0, some a1, none, none, none] A) := rfl
theorem c__law_is_small (k : Nat) (a0 : D) (A : Hh) : callN Pg (k + 1) i__law_is_small [a0] A = endD A (mb__law_is_small ⟨callN Pg k⟩ [some a0, none] A) := rfl
theorem c__law_asked (k : Nat) (a0 a1 a2 : D) (A : Hh) : callN Pg (k + 1) i__law_asked [a0, a1, a2] A = endD A (mb__law_asked ⟨callN Pg k⟩ [some a0, some a1, some a2, none] A) := rfl
theorem c__law_right (k : Nat) (a0 a1 : D) (A : Hh) : callN Pg (k + 1) i__law_right [a0, a1] A = endD A (mb__law_right ⟨callN Pg k⟩ [some a0, some a1, none, none] A) := rfl
theorem c__law_at_bounds (k : Nat) (A : Hh) : callN Pg (k + 1) i__law_at_bounds [] A = endD A (mb__law_at_bounds ⟨callN Pg k⟩ [none, none, none, none, none, none, none, none, none, none] A) := rfl
theorem c_law (k : Nat) (a0 : D) (A : Hh) : callN Pg (k + 1) i_law [a0] A = endD A (mb_law ⟨callN Pg k⟩ [some a0, none, none, none, none, none, none] A) := rfl
structure Fs (P : Program) (w : World) (K : PySem.W.Frag) (mg : Str → Option Value) (base : Heap) (c : Cn) (k : Nat) : Prop where
  b_ValueError : mg "ValueError" = none
  b_abs : mg "abs" = none
  b_all : mg "all" = none
  b_bool : mg "bool" = none
  b_divmod : mg "divmod" = none
  b_enumerate : mg "enumerate" = none
  b_int : mg "int" = none
  b_isinstance : mg "isinstance" = none
  b_len : mg "len" = none
  b_list : mg "list" = none
  b_max : mg "max" = none
  b_min : mg "min" = none
  b_range : mg "range" = none
  b_str : mg "str" = none
  b_sum : mg "sum" = none
  b_tuple : mg "tuple" = none
  i_MOST_SMALL : ∃ t, mg "MOST_SMALL" = some (.int 3 t)
  e_DoffError : mg "DoffError" = some (.ref (c.eA 0))
  e_NoYard : mg "NoYard" = some (.ref (c.eA 1))
  e_NoFrame : mg "NoFrame" = some (.ref (c.eA 2))
  e_NoHand : mg "NoHand" = some (.ref (c.eA 3))
  e_NoStray : mg "NoStray" = some (.ref (c.eA 4))
  e_NoMoment : mg "NoMoment" = some (.ref (c.eA 5))
  e_NoWait : mg "NoWait" = some (.ref (c.eA 6))
  e_NoMany : mg "NoMany" = some (.ref (c.eA 7))
  e_NoMinds : mg "NoMinds" = some (.ref (c.eA 8))
  e_NoSpun : mg "NoSpun" = some (.ref (c.eA 9))
  e_NoThread : mg "NoThread" = some (.ref (c.eA 10))
  e_TooMany : mg "TooMany" = some (.ref (c.eA 11))
  e_NoStrike : mg "NoStrike" = some (.ref (c.eA 12))
  e_NoPlain : mg "NoPlain" = some (.ref (c.eA 13))
  e_NoSmall : mg "NoSmall" = some (.ref (c.eA 14))
  e_NoStory : mg "NoStory" = some (.ref (c.eA 15))
  e_NoCalls : mg "NoCalls" = some (.ref (c.eA 16))
  e_NoDoffs : mg "NoDoffs" = some (.ref (c.eA 17))
  e_NoRow : mg "NoRow" = some (.ref (c.eA 18))
  e_NoText : mg "NoText" = some (.ref (c.eA 19))
  r_NoSmall : Rsb K mg c "NoSmall" 14
  r_NoStory : Rsb K mg c "NoStory" 15
  ex : ExF K c.eA 20
  g_RULES : mg "RULES" = some (.ref (He.ga K "RULES"))
  t_RULES : TupSF K (He.ga K "RULES") ["near", "old", "sort"]
  f_is_whole : Cal P w K mg base c Pg k "is_whole" 0
  f_is_between : Cal P w K mg base c Pg k "is_between" 1
  f_is_small_frame : Cal P w K mg base c Pg k "is_small_frame" 2
  f_are_small_walks : Cal P w K mg base c Pg k "are_small_walks" 3
  f_is_small_yard : Cal P w K mg base c Pg k "is_small_yard" 4
  f_is_small : Cal P w K mg base c Pg k "is_small" 5
  f_check_small : Cal P w K mg base c Pg k "check_small" 6
  f_played : Cal P w K mg base c Pg k "played" 17
  f_worst_story : Cal P w K mg base c Pg k "worst_story" 18
  f__law_pool : Cal P w K mg base c Pg k "_law_pool" 19
  f__law_take : Cal P w K mg base c Pg k "_law_take" 20
  f__law_small : Cal P w K mg base c Pg k "_law_small" 21
  f__law_sort : Cal P w K mg base c Pg k "_law_sort" 22
  f__law_bent : Cal P w K mg base c Pg k "_law_bent" 23
  f__law_number : Cal P w K mg base c Pg k "_law_number" 24
  f__law_are_frames : Cal P w K mg base c Pg k "_law_are_frames" 25
  f__law_are_walks : Cal P w K mg base c Pg k "_law_are_walks" 26
  f__law_is_small : Cal P w K mg base c Pg k "_law_is_small" 27
  f__law_asked : Cal P w K mg base c Pg k "_law_asked" 28
  f__law_right : Cal P w K mg base c Pg k "_law_right" 29
  f__law_at_bounds : Cal P w K mg base c Pg k "_law_at_bounds" 30
  f_law : Cal P w K mg base c Pg k "law" 31
  q__law_sort : CalQ P w K mg base c Pg k "_law_sort" 22
section
variable {P : Program} {w : World} {K : PySem.W.Frag} {mg : Str → Option Value} {base : Heap} {c : Cn} {k : Nat} {cdv : Value} {A : Around} {outer : List Env} {s : Shared} {H : Hp} {E : XK} {f : Addr}
theorem sc_is_whole : FnScope N_is_whole ["x"] (defScope (top 22)) := ⟨rfl, rfl, rfl, by decide +kernel, rfl, by decide +kernel, by decide +kernel⟩
theorem b_is_whole (F : Fs P w K mg base c k) (hK : c.K = K) (hr : Room k (A.deeper (envOfC "is_whole" (defScope (top 22)) s.heap.objs.size f cdv))) :
    PSs (cxOf (L2.CX P w) P w K mg base N_is_whole "is_whole" (defScope (top 22)) f cdv A outer s H E) (defBody (top 22)) (tS c (fun cls d _ H' => E cls d H') (mb_is_whole ⟨callN Pg k⟩)) := by
  have hu := room_u hr
  have nd : (N_is_whole).Nodup := sc_is_whole.nd
  have tk : Takes (cxOf (L2.CX P w) P w K mg base N_is_whole "is_whole" (defScope (top 22)) f cdv A outer s H E) (fun cls d _ H' => E cls d H') := takes_of rfl rfl rfl rfl
  have hp : PassesOwn (model P w) (A.deeper (envOfC "is_whole" (defScope (top 22)) s.heap.objs.size f cdv)) (envOfC "is_whole" (defScope (top 22)) s.heap.objs.size f cdv) (cxOf (L2.CX P w) P w K mg base N_is_whole "is_whole" (defScope (top 22)) f cdv A outer s H E).xe := passes_of rfl
  delta mb_is_whole
  exact (s_cons (s_ret (z_andv hK (z_isi .int hK (by rfl) F.b_isinstance (by rfl) F.b_int (z_var 0)) (z_onev (z_notv hK (z_isi .bool hK (by rfl) F.b_isinstance (by rfl) F.b_bool (z_var 0))))))
 s_nil)

theorem sc_is_between : FnScope N_is_between ["x", "low", "high"] (defScope (top 23)) := ⟨rfl, rfl, rfl, by decide +kernel, rfl, by decide +kernel, by decide +kernel⟩
theorem b_is_between (F : Fs P w K mg base c k) (hK : c.K = K) (hr : Room k (A.deeper (envOfC "is_between" (defScope (top 23)) s.heap.objs.size f cdv))) :
    PSs (cxOf (L2.CX P w) P w K mg base N_is_between "is_between" (defScope (top 23)) f cdv A outer s H E) (defBody (top 23)) (tS c (fun cls d _ H' => E cls d H') (mb_is_between ⟨callN Pg k⟩)) := by
  have hu := room_u hr
  have nd : (N_is_between).Nodup := sc_is_between.nd
  have tk : Takes (cxOf (L2.CX P w) P w K mg base N_is_between "is_between" (defScope (top 23)) f cdv A outer s H E) (fun cls d _ H' => E cls d H') := takes_of rfl rfl rfl rfl
  have hp : PassesOwn (model P w) (A.deeper (envOfC "is_between" (defScope (top 23)) s.heap.objs.size f cdv)) (envOfC "is_between" (defScope (top 23)) s.heap.objs.size f cdv) (cxOf (L2.CX P w) P w K mg base N_is_between "is_between" (defScope (top 23)) f cdv A outer s H E).xe := passes_of rfl
  delta mb_is_between
  exact (s_cons (s_ret (z_andv hK (z_cal F.f_is_whole tk hr (by rfl) (z_cons (z_var 0) z_nil)) (z_onev (z_chn (cok_le hu hK) (cok_le hu hK) (z_var 1) (z_var 0) (z_var 2)))))
 s_nil)

theorem sc_is_small_frame : FnScope N_is_small_frame ["thing"] (defScope (top 27)) := ⟨rfl, rfl, rfl, by decide +kernel, rfl, by decide +kernel, by decide +kernel⟩
theorem b_is_small_frame (F : Fs P w K mg base c k) (hK : c.K = K) (hr : Room k (A.deeper (envOfC "is_small_frame" (defScope (top 27)) s.heap.objs.size f cdv))) :
    PSs (cxOf (L2.CX P w) P w K mg base N_is_small_frame "is_small_frame" (defScope (top 27)) f cdv A outer s H E) (defBody (top 27)) (tS c (fun cls d _ H' => E cls d H') (mb_is_small_frame ⟨callN Pg k⟩)) := by
  have hu := room_u hr
  have nd : (N_is_small_frame).Nodup := sc_is_small_frame.nd
  have tk : Takes (cxOf (L2.CX P w) P w K mg base N_is_small_frame "is_small_frame" (defScope (top 27)) f cdv A outer s H E) (fun cls d _ H' => E cls d H') := takes_of rfl rfl rfl rfl
  have hp : PassesOwn (model P w) (A.deeper (envOfC "is_small_frame" (defScope (top 27)) s.heap.objs.size f cdv)) (envOfC "is_small_frame" (defScope (top 27)) s.heap.objs.size f cdv) (cxOf (L2.CX P w) P w K mg base N_is_small_frame "is_small_frame" (defScope (top 27)) f cdv A outer s H E).xe := passes_of rfl
  delta mb_is_small_frame ce_is_small_frame_0
  exact (s_cons (s_if (z_or (z_not (z_tru hK (z_isi .tuple hK (by rfl) F.b_isinstance (by rfl) F.b_tuple (z_var 0)))) (z_or (z_cmpT (cok_ne hu hK) (z_len hK (by rfl) F.b_len (z_var 0)) z_int) (z_or1 (z_not (z_tru hK (z_allq hK (by rfl) (by rfl) F.b_all (z_nl (z_comp (own := [("part", 1)]) (by rfl) nd (i_of hK (z_var 0)) (blkOk_by (own := [("part", 1)]) (N := N_is_small_frame) (sc := (defScope (top 27))) (by decide +kernel)) (fun _ _ _ _ _ => (g_nm 1 nd (by rfl) (by first | exact Or.inl rfl | exact Or.inr rfl) (by first | exact Or.inl rfl | exact Or.inr rfl))) (fun _ _ _ _ _ => ts_nil) (fun _ _ _ _ _ => (z_cal F.f_is_whole takes0 hr (by rfl) (z_cons (z_var 1) z_nil))) (by decide))))))))).pt (s_cons (s_ret z_bl)
 s_nil) s_nil)
 (s_cons (s_ret (z_andv hK (z_chn (cok_le hu hK) (cok_le hu hK) z_int (z_ix hK (z_var 0) z_int) z_int) (z_andv hK (z_chn (cok_le hu hK) (cok_le hu hK) z_int (z_ix hK (z_var 0) z_int) (z_gint (by rfl) F.i_MOST_SMALL)) (z_onev (z_chn (cok_le hu hK) (cok_lt hu hK) z_int (z_ix hK (z_var 0) z_int) (z_ix hK (z_var 0) z_int))))))
 s_nil))

theorem sc_are_small_walks : FnScope N_are_small_walks ["thing", "many"] (defScope (top 28)) := ⟨rfl, rfl, rfl, by decide +kernel, rfl, by decide +kernel, by decide +kernel⟩
theorem b_are_small_walks (F : Fs P w K mg base c k) (hK : c.K = K) (hr : Room k (A.deeper (envOfC "are_small_walks" (defScope (top 28)) s.heap.objs.size f cdv))) :
    PSs (cxOf (L2.CX P w) P w K mg base N_are_small_walks "are_small_walks" (defScope (top 28)) f cdv A outer s H E) (defBody (top 28)) (tS c (fun cls d _ H' => E cls d H') (mb_are_small_walks ⟨callN Pg k⟩)) := by
  have hu := room_u hr
  have nd : (N_are_small_walks).Nodup := sc_are_small_walks.nd
  have tk : Takes (cxOf (L2.CX P w) P w K mg base N_are_small_walks "are_small_walks" (defScope (top 28)) f cdv A outer s H E) (fun cls d _ H' => E cls d H') := takes_of rfl rfl rfl rfl
  have hp : PassesOwn (model P w) (A.deeper (envOfC "are_small_walks" (defScope (top 28)) s.heap.objs.size f cdv)) (envOfC "are_small_walks" (defScope (top 28)) s.heap.objs.size f cdv) (cxOf (L2.CX P w) P w K mg base N_are_small_walks "are_small_walks" (defScope (top 28)) f cdv A outer s H E).xe := passes_of rfl
  delta mb_are_small_walks ce_are_small_walks_0 lb_are_small_walks_1
  exact (s_cons (s_if (z_or (z_not (z_tru hK (z_isi .tuple hK (by rfl) F.b_isinstance (by rfl) F.b_tuple (z_var 0)))) (z_or1 (z_cmpT (cok_ne hu hK) (z_len hK (by rfl) F.b_len (z_var 0)) (z_var 1)))).pt (s_cons (s_ret z_bl)
 s_nil) s_nil)
 (s_cons (s_for hp (by rfl) (i_enum hK (by rfl) F.b_enumerate (z_var 0)) (g_tup hK (by rfl) (g_cons (g_nm 2 nd (by rfl) (by first | exact Or.inl rfl | exact Or.inr rfl) (by first | exact Or.inl rfl | exact Or.inr rfl)) (g_cons (g_nm 3 nd (by rfl) (by first | exact Or.inl rfl | exact Or.inr rfl) (by first | exact Or.inl rfl | exact Or.inr rfl)) g_nil))) (s_cons (s_if (z_or (z_not (z_tru hK (z_isi .tuple hK (by rfl) F.b_isinstance (by rfl) F.b_tuple (z_var 3)))) (z_or (z_cmpT (cok_ne hu hK) (z_len hK (by rfl) F.b_len (z_var 3)) (z_var 1)) (z_or1 (z_not (z_tru hK (z_allq hK (by rfl) (by rfl) F.b_all (z_nl (z_comp (own := [("one", 4)]) (by rfl) nd (i_of hK (z_var 3)) (blkOk_by (own := [("one", 4)]) (N := N_are_small_walks) (sc := (defScope (top 28))) (by decide +kernel)) (fun _ _ _ _ _ => (g_nm 4 nd (by rfl) (by first | exact Or.inl rfl | exact Or.inr rfl) (by first | exact Or.inl rfl | exact Or.inr rfl))) (fun _ _ _ _ _ => ts_nil) (fun _ _ _ _ _ => (z_cal F.f_is_between takes0 hr (by rfl) (z_cons (z_var 4) (z_cons z_int (z_cons z_int z_nil))))) (by decide))))))))).pt (s_cons (s_ret z_bl)
 s_nil) s_nil)
 (s_cons (s_if (z_cmpT (cok_ne hu hK) (z_ix hK (z_var 3) (z_var 2)) z_int) (s_cons (s_ret z_bl)
 s_nil) s_nil)
 s_nil)))
 (s_cons (s_ret z_bl)
 s_nil)))

theorem sc_is_small_yard : FnScope N_is_small_yard ["thing"] (defScope (top 29)) := ⟨rfl, rfl, rfl, by decide +kernel, rfl, by decide +kernel, by decide +kernel⟩
theorem b_is_small_yard (F : Fs P w K mg base c k) (hK : c.K = K) (hr : Room k (A.deeper (envOfC "is_small_yard" (defScope (top 29)) s.heap.objs.size f cdv))) :
    PSs (cxOf (L2.CX P w) P w K mg base N_is_small_yard "is_small_yard" (defScope (top 29)) f cdv A outer s H E) (defBody (top 29)) (tS c (fun cls d _ H' => E cls d H') (mb_is_small_yard ⟨callN Pg k⟩)) := by
  have hu := room_u hr
  have nd : (N_is_small_yard).Nodup := sc_is_small_yard.nd
  have tk : Takes (cxOf (L2.CX P w) P w K mg base N_is_small_yard "is_small_yard" (defScope (top 29)) f cdv A outer s H E) (fun cls d _ H' => E cls d H') := takes_of rfl rfl rfl rfl
  have hp : PassesOwn (model P w) (A.deeper (envOfC "is_small_yard" (defScope (top 29)) s.heap.objs.size f cdv)) (envOfC "is_small_yard" (defScope (top 29)) s.heap.objs.size f cdv) (cxOf (L2.CX P w) P w K mg base N_is_small_yard "is_small_yard" (defScope (top 29)) f cdv A outer s H E).xe := passes_of rfl
  delta mb_is_small_yard ce_is_small_yard_0 ce_is_small_yard_1 ce_is_small_yard_2
  exact (s_cons (s_if (z_or (z_not (z_tru hK (z_isi .tuple hK (by rfl) F.b_isinstance (by rfl) F.b_tuple (z_var 0)))) (z_or1 (z_cmpT (cok_ne hu hK) (z_len hK (by rfl) F.b_len (z_var 0)) z_int))).pt (s_cons (s_ret z_bl)
 s_nil) s_nil)
 (s_cons (s_asg (z_var 0) (g_wk (g_tup hK (by rfl) (g_cons (g_nm 1 nd (by rfl) (by first | exact Or.inl rfl | exact Or.inr rfl) (by first | exact Or.inl rfl | exact Or.inr rfl)) (g_cons (g_nm 2 nd (by rfl) (by first | exact Or.inl rfl | exact Or.inr rfl) (by first | exact Or.inl rfl | exact Or.inr rfl)) (g_cons (g_nm 3 nd (by rfl) (by first | exact Or.inl rfl | exact Or.inr rfl) (by first | exact Or.inl rfl | exact Or.inr rfl)) (g_cons (g_nm 4 nd (by rfl) (by first | exact Or.inl rfl | exact Or.inr rfl) (by first | exact Or.inl rfl | exact Or.inr rfl)) (g_cons (g_nm 5 nd (by rfl) (by first | exact Or.inl rfl | exact Or.inr rfl) (by first | exact Or.inl rfl | exact Or.inr rfl)) g_nil))))))))
 (s_cons (s_if (z_or (z_not (z_tru hK (z_isi .tuple hK (by rfl) F.b_isinstance (by rfl) F.b_tuple (z_var 1)))) (z_or1 (z_not (z_chnT (cok_le hu hK) (cok_le hu hK) z_int (z_len hK (by rfl) F.b_len (z_var 1)) (z_gint (by rfl) F.i_MOST_SMALL))))).pt (s_cons (s_ret z_bl)
 s_nil) s_nil)
 (s_cons (s_if (z_or (z_not (z_tru hK (z_allq hK (by rfl) (by rfl) F.b_all (z_nl (z_comp (own := [("frame", 6)]) (by rfl) nd (i_of hK (z_var 1)) (blkOk_by (own := [("frame", 6)]) (N := N_is_small_yard) (sc := (defScope (top 29))) (by decide +kernel)) (fun _ _ _ _ _ => (g_nm 6 nd (by rfl) (by first | exact Or.inl rfl | exact Or.inr rfl) (by first | exact Or.inl rfl | exact Or.inr rfl))) (fun _ _ _ _ _ => ts_nil) (fun _ _ _ _ _ => (z_cal F.f_is_small_frame takes0 hr (by rfl) (z_cons (z_var 6) z_nil))) (by decide)))))) (z_or1 (z_cmpT cok_gt (z_sumq hK (by rfl) (by rfl) F.b_sum (z_nl (z_comp (own := [("frame", 6)]) (by rfl) nd (i_of hK (z_var 1)) (blkOk_by (own := [("frame", 6)]) (N := N_is_small_yard) (sc := (defScope (top 29))) (by decide +kernel)) (fun _ _ _ _ _ => (g_nm 6 nd (by rfl) (by first | exact Or.inl rfl | exact Or.inr rfl) (by first | exact Or.inl rfl | exact Or.inr rfl))) (fun _ _ _ _ _ => ts_nil) (fun _ _ _ _ _ => (z_ix hK (z_var 6) z_int)) (by decide)))) (z_gint (by rfl) F.i_MOST_SMALL)))).pt (s_cons (s_ret z_bl)
 s_nil) s_nil)
 (s_cons (s_if (z_or (z_not (z_tru hK (z_cal F.f_are_small_walks tk hr (by rfl) (z_cons (z_var 2) (z_cons (z_len hK (by rfl) F.b_len (z_var 1)) z_nil))))) (z_or (z_not (z_tru hK (z_isi .tuple hK (by rfl) F.b_isinstance (by rfl) F.b_tuple (z_var 3)))) (z_or1 (z_cmpT (cok_ne hu hK) (z_len hK (by rfl) F.b_len (z_var 3)) z_int)))).pt (s_cons (s_ret z_bl)
 s_nil) s_nil)
 (s_cons (s_if (z_or (z_not (z_tru hK (z_allq hK (by rfl) (by rfl) F.b_all (z_nl (z_comp (own := [("one", 7)]) (by rfl) nd (i_of hK (z_var 3)) (blkOk_by (own := [("one", 7)]) (N := N_is_small_yard) (sc := (defScope (top 29))) (by decide +kernel)) (fun _ _ _ _ _ => (g_nm 7 nd (by rfl) (by first | exact Or.inl rfl | exact Or.inr rfl) (by first | exact Or.inl rfl | exact Or.inr rfl))) (fun _ _ _ _ _ => ts_nil) (fun _ _ _ _ _ => (z_cal F.f_is_between takes0 hr (by rfl) (z_cons (z_var 7) (z_cons z_int (z_cons z_int z_nil))))) (by decide)))))) (z_or (z_not (z_tru hK (z_isi .str hK (by rfl) F.b_isinstance (by rfl) F.b_str (z_var 4)))) (z_or1 (z_cmpT (cok_notIn hu hK) (z_var 4) (z_gtup (zs := ["near", "old", "sort"]) hK (by rfl) F.g_RULES F.t_RULES))))).pt (s_cons (s_ret z_bl)
 s_nil) s_nil)
 (s_cons (s_ret (z_cal F.f_is_between tk hr (by rfl) (z_cons (z_var 5) (z_cons z_int (z_cons z_int z_nil)))))
 s_nil)))))))

theorem sc_is_small : FnScope N_is_small ["thing"] (defScope (top 31)) := ⟨rfl, rfl, rfl, by decide +kernel, rfl, by decide +kernel, by decide +kernel⟩
theorem b_is_small (F : Fs P w K mg base c k) (hK : c.K = K) (hr : Room k (A.deeper (envOfC "is_small" (defScope (top 31)) s.heap.objs.size f cdv))) :
    PSs (cxOf (L2.CX P w) P w K mg base N_is_small "is_small" (defScope (top 31)) f cdv A outer s H E) (defBody (top 31)) (tS c (fun cls d _ H' => E cls d H') (mb_is_small ⟨callN Pg k⟩)) := by
  have hu := room_u hr
  have nd : (N_is_small).Nodup := sc_is_small.nd
  have tk : Takes (cxOf (L2.CX P w) P w K mg base N_is_small "is_small" (defScope (top 31)) f cdv A outer s H E) (fun cls d _ H' => E cls d H') := takes_of rfl rfl rfl rfl
  have hp : PassesOwn (model P w) (A.deeper (envOfC "is_small" (defScope (top 31)) s.heap.objs.size f cdv)) (envOfC "is_small" (defScope (top 31)) s.heap.objs.size f cdv) (cxOf (L2.CX P w) P w K mg base N_is_small "is_small" (defScope (top 31)) f cdv A outer s H E).xe := passes_of rfl
  delta mb_is_small
  exact (s_cons (s_ret (z_cal F.f_is_small_yard tk hr (by rfl) (z_cons (z_var 0) z_nil)))
 s_nil)

theorem sc_check_small : FnScope N_check_small ["small"] (defScope (top 32)) := ⟨rfl, rfl, rfl, by decide +kernel, rfl, by decide +kernel, by decide +kernel⟩
theorem b_check_small (F : Fs P w K mg base c k) (hK : c.K = K) (hr : Room k (A.deeper (envOfC "check_small" (defScope (top 32)) s.heap.objs.size f cdv))) :
    PSs (cxOf (L2.CX P w) P w K mg base N_check_small "check_small" (defScope (top 32)) f cdv A outer s H E) (defBody (top 32)) (tS c (fun cls d _ H' => E cls d H') (mb_check_small ⟨callN Pg k⟩)) := by
  have hu := room_u hr
  have nd : (N_check_small).Nodup := sc_check_small.nd
  have tk : Takes (cxOf (L2.CX P w) P w K mg base N_check_small "check_small" (defScope (top 32)) f cdv A outer s H E) (fun cls d _ H' => E cls d H') := takes_of rfl rfl rfl rfl
  have hp : PassesOwn (model P w) (A.deeper (envOfC "check_small" (defScope (top 32)) s.heap.objs.size f cdv)) (envOfC "check_small" (defScope (top 32)) s.heap.objs.size f cdv) (cxOf (L2.CX P w) P w K mg base N_check_small "check_small" (defScope (top 32)) f cdv A outer s H E).xe := passes_of rfl
  delta mb_check_small
  exact (s_cons (s_if (z_not (z_tru hK (z_cal F.f_is_small tk hr (by rfl) (z_cons (z_var 0) z_nil)))) (s_cons (s_raise (by rfl) tk (by rfl) F.r_NoSmall)
 s_nil) s_nil)
 s_nil)

theorem sc_played : FnScope N_played ["small", "story"] (defScope (top 43)) := ⟨rfl, rfl, rfl, by decide +kernel, rfl, by decide +kernel, by decide +kernel⟩
theorem b_played (F : Fs P w K mg base c k) (hK : c.K = K) (hr : Room k (A.deeper (envOfC "played" (defScope (top 43)) s.heap.objs.size f cdv))) :
    PSs (cxOf (L2.CX P w) P w K mg base N_played "played" (defScope (top 43)) f cdv A outer s H E) (defBody (top 43)) (tS c (fun cls d _ H' => E cls d H') (mb_played ⟨callN Pg k⟩)) := by
  have hu := room_u hr
  have nd : (N_played).Nodup := sc_played.nd
  have tk : Takes (cxOf (L2.CX P w) P w K mg base N_played "played" (defScope (top 43)) f cdv A outer s H E) (fun cls d _ H' => E cls d H') := takes_of rfl rfl rfl rfl
  have hp : PassesOwn (model P w) (A.deeper (envOfC "played" (defScope (top 43)) s.heap.objs.size f cdv)) (envOfC "played" (defScope (top 43)) s.heap.objs.size f cdv) (cxOf (L2.CX P w) P w K mg base N_played "played" (defScope (top 43)) f cdv A outer s H E).xe := passes_of rfl
  delta mb_played
  exact (s_cons (s_exp (z_cal F.f_check_small tk hr (by rfl) (z_cons (z_var 0) z_nil)))
 (s_cons s_bad
 (s_cons (s_if (z_cmpT cok_isN (z_var 2) z_non) (s_cons (s_raise (by rfl) tk (by rfl) F.r_NoStory)
 s_nil) s_nil)
 (s_cons (s_ret (z_ix hK (z_var 2) z_int))
 s_nil))))

theorem sc_worst_story : FnScope N_worst_story ["small"] (defScope (top 45)) := ⟨rfl, rfl, rfl, by decide +kernel, rfl, by decide +kernel, by decide +kernel⟩
theorem b_worst_story (F : Fs P w K mg base c k) (hK : c.K = K) (hr : Room k (A.deeper (envOfC "worst_story" (defScope (top 45)) s.heap.objs.size f cdv))) :
    PSs (cxOf (L2.CX P w) P w K mg base N_worst_story "worst_story" (defScope (top 45)) f cdv A outer s H E) (defBody (top 45)) (tS c (fun cls d _ H' => E cls d H') (mb_worst_story ⟨callN Pg k⟩)) := by
  have hu := room_u hr
  have nd : (N_worst_story).Nodup := sc_worst_story.nd
  have tk : Takes (cxOf (L2.CX P w) P w K mg base N_worst_story "worst_story" (defScope (top 45)) f cdv A outer s H E) (fun cls d _ H' => E cls d H') := takes_of rfl rfl rfl rfl
  have hp : PassesOwn (model P w) (A.deeper (envOfC "worst_story" (defScope (top 45)) s.heap.objs.size f cdv)) (envOfC "worst_story" (defScope (top 45)) s.heap.objs.size f cdv) (cxOf (L2.CX P w) P w K mg base N_worst_story "worst_story" (defScope (top 45)) f cdv A outer s H E).xe := passes_of rfl
  delta mb_worst_story
  exact (s_cons (s_exp (z_cal F.f_check_small tk hr (by rfl) (z_cons (z_var 0) z_nil)))
 (s_cons s_bad
 (s_cons s_bad
 (s_cons s_bad
 (s_cons s_bad
 s_nil)))))

theorem sc__law_pool : FnScope N__law_pool ["_law_script", "_law_k"] (defScope (top 47)) := ⟨rfl, rfl, rfl, by decide +kernel, rfl, by decide +kernel, by decide +kernel⟩
theorem b__law_pool (F : Fs P w K mg base c k) (hK : c.K = K) (hr : Room k (A.deeper (envOfC "_law_pool" (defScope (top 47)) s.heap.objs.size f cdv))) :
    PSs (cxOf (L2.CX P w) P w K mg base N__law_pool "_law_pool" (defScope (top 47)) f cdv A outer s H E) (defBody (top 47)) (tS c (fun cls d _ H' => E cls d H') (mb__law_pool ⟨callN Pg k⟩)) := by
  have hu := room_u hr
  have nd : (N__law_pool).Nodup := sc__law_pool.nd
  have tk : Takes (cxOf (L2.CX P w) P w K mg base N__law_pool "_law_pool" (defScope (top 47)) f cdv A outer s H E) (fun cls d _ H' => E cls d H') := takes_of rfl rfl rfl rfl
  have hp : PassesOwn (model P w) (A.deeper (envOfC "_law_pool" (defScope (top 47)) s.heap.objs.size f cdv)) (envOfC "_law_pool" (defScope (top 47)) s.heap.objs.size f cdv) (cxOf (L2.CX P w) P w K mg base N__law_pool "_law_pool" (defScope (top 47)) f cdv A outer s H E).xe := passes_of rfl
  delta mb__law_pool
  exact (s_cons (s_set 2 nd (by rfl) (by first | exact Or.inl rfl | exact Or.inr rfl) (z_sumq hK (by rfl) (by rfl) F.b_sum (z_nl (z_slL hK (z_var 0) (z_so (z_var 1)) (z_so (z_add (z_var 1) z_int hK))))) (by first | exact Or.inl rfl | exact Or.inr rfl))
 (s_cons (s_if (z_or (z_cmpT (cok_lt hu hK) (z_var 2) z_int) (z_or1 (z_cmpT cok_ge (z_var 2) (z_pow z_int z_int)))).pt (s_cons (s_ret (z_new (z_lst (z_cons (z_mod (z_abs (by rfl) F.b_abs (z_var 2)) (z_mul hK (z_mul hK (z_mul hK (z_mul hK (z_mul hK (z_pow z_int z_int) (z_pow z_int z_int)) (z_pow z_int z_int)) (z_pow z_int z_int)) (z_pow z_int z_int)) (z_pow z_int z_int))) z_nil))))
 s_nil) s_nil)
 (s_cons (s_set 3 nd (by rfl) (by first | exact Or.inl rfl | exact Or.inr rfl) (z_add (z_add (z_mul hK (z_var 2) z_int) (z_mul hK (z_mul hK z_int (z_var 1)) (z_var 1)) hK) z_int hK) (by first | exact Or.inl rfl | exact Or.inr rfl))
 (s_cons (s_set 4 nd (by rfl) (by first | exact Or.inl rfl | exact Or.inr rfl) z_int (by first | exact Or.inl rfl | exact Or.inr rfl))
 (s_cons (s_for hp (by rfl) (i_rng (by rfl) F.b_range z_int) (g_nm 5 nd (by rfl) (by first | exact Or.inl rfl | exact Or.inr rfl) (by first | exact Or.inl rfl | exact Or.inr rfl)) (s_cons (s_set 3 nd (by rfl) (by first | exact Or.inl rfl | exact Or.inr rfl) (z_mod (z_add (z_add (z_mul hK (z_mod (z_var 3) z_int) z_int) (z_mul hK z_int (z_var 5)) hK) z_int hK) z_int) (by first | exact Or.inl rfl | exact Or.inr rfl))
 (s_cons (s_set 4 nd (by rfl) (by first | exact Or.inl rfl | exact Or.inr rfl) (z_add (z_mul hK (z_var 4) (z_pow z_int z_int)) (z_mod (z_mul hK (z_var 3) (z_add (z_mod (z_var 3) z_int) z_int hK)) z_int) hK) (by first | exact Or.inl rfl | exact Or.inr rfl))
 s_nil)))
 (s_cons (s_ret (z_new (z_lst (z_cons (z_var 4) z_nil))))
 s_nil))))))

theorem sc__law_take : FnScope N__law_take ["_law_pool_here", "_law_many"] (defScope (top 48)) := ⟨rfl, rfl, rfl, by decide +kernel, rfl, by decide +kernel, by decide +kernel⟩
theorem b__law_take (F : Fs P w K mg base c k) (hK : c.K = K) (hr : Room k (A.deeper (envOfC "_law_take" (defScope (top 48)) s.heap.objs.size f cdv))) :
    PSs (cxOf (L2.CX P w) P w K mg base N__law_take "_law_take" (defScope (top 48)) f cdv A outer s H E) (defBody (top 48)) (tS c (fun cls d _ H' => E cls d H') (mb__law_take ⟨callN Pg k⟩)) := by
  have hu := room_u hr
  have nd : (N__law_take).Nodup := sc__law_take.nd
  have tk : Takes (cxOf (L2.CX P w) P w K mg base N__law_take "_law_take" (defScope (top 48)) f cdv A outer s H E) (fun cls d _ H' => E cls d H') := takes_of rfl rfl rfl rfl
  have hp : PassesOwn (model P w) (A.deeper (envOfC "_law_take" (defScope (top 48)) s.heap.objs.size f cdv)) (envOfC "_law_take" (defScope (top 48)) s.heap.objs.size f cdv) (cxOf (L2.CX P w) P w K mg base N__law_take "_law_take" (defScope (top 48)) f cdv A outer s H E).xe := passes_of rfl
  delta mb__law_take
  exact (s_cons (s_asg (z_dvm (by rfl) F.b_divmod (z_ix hK (z_var 0) z_int) (z_var 1)) (g_wk (g_tup hK (by rfl) (g_cons (g_sub hK (z_var 0) z_int) (g_cons (g_nm 2 nd (by rfl) (by first | exact Or.inl rfl | exact Or.inr rfl) (by first | exact Or.inl rfl | exact Or.inr rfl)) g_nil)))))
 (s_cons (s_ret (z_var 2))
 s_nil))

theorem sc__law_small : FnScope N__law_small ["_law_pool_here"] (defScope (top 49)) := ⟨rfl, rfl, rfl, by decide +kernel, rfl, by decide +kernel, by decide +kernel⟩
theorem b__law_small (F : Fs P w K mg base c k) (hK : c.K = K) (hr : Room k (A.deeper (envOfC "_law_small" (defScope (top 49)) s.heap.objs.size f cdv))) :
    PSs (cxOf (L2.CX P w) P w K mg base N__law_small "_law_small" (defScope (top 49)) f cdv A outer s H E) (defBody (top 49)) (tS c (fun cls d _ H' => E cls d H') (mb__law_small ⟨callN Pg k⟩)) := by
  have hu := room_u hr
  have nd : (N__law_small).Nodup := sc__law_small.nd
  have tk : Takes (cxOf (L2.CX P w) P w K mg base N__law_small "_law_small" (defScope (top 49)) f cdv A outer s H E) (fun cls d _ H' => E cls d H') := takes_of rfl rfl rfl rfl
  have hp : PassesOwn (model P w) (A.deeper (envOfC "_law_small" (defScope (top 49)) s.heap.objs.size f cdv)) (envOfC "_law_small" (defScope (top 49)) s.heap.objs.size f cdv) (cxOf (L2.CX P w) P w K mg base N__law_small "_law_small" (defScope (top 49)) f cdv A outer s H E).xe := passes_of rfl
  delta mb__law_small ce__law_small_0 ce__law_small_1 ce__law_small_2
  exact (s_cons (s_set 1 nd (by rfl) (by first | exact Or.inl rfl | exact Or.inr rfl) (z_ix hK (z_fz (z_lst (z_cons (z_tup (z_cons z_int z_nil)) (z_cons (z_tup (z_cons z_int z_nil)) (z_cons (z_tup (z_cons z_int z_nil)) (z_cons (z_tup (z_cons z_int (z_cons z_int z_nil))) (z_cons (z_tup (z_cons z_int (z_cons z_int z_nil))) (z_cons (z_tup (z_cons z_int (z_cons z_int z_nil))) (z_cons (z_tup (z_cons z_int (z_cons z_int (z_cons z_int z_nil)))) z_nil))))))))) (z_cal F.f__law_take tk hr (by rfl) (z_cons (z_var 0) (z_cons z_int z_nil)))) (by first | exact Or.inl rfl | exact Or.inr rfl))
 (s_cons (s_set 2 nd (by rfl) (by first | exact Or.inl rfl | exact Or.inr rfl) (z_tupq hK (by rfl) F.b_tuple (z_st (z_nq (z_comp (own := [("_law_size", 9)]) (by rfl) nd (i_of hK (z_var 1)) (blkOk_by (own := [("_law_size", 9)]) (N := N__law_small) (sc := (defScope (top 49))) (by decide +kernel)) (fun _ _ _ _ _ => (g_nm 9 nd (by rfl) (by first | exact Or.inl rfl | exact Or.inr rfl) (by first | exact Or.inl rfl | exact Or.inr rfl))) (fun _ _ _ _ _ => ts_nil) (fun _ _ _ _ _ => (z_tup (z_cons (z_cal F.f__law_take takes0 hr (by rfl) (z_cons (z_var 0) (z_cons z_int z_nil))) (z_cons (z_var 9) (z_cons (z_cal F.f__law_take takes0 hr (by rfl) (z_cons (z_var 0) (z_cons (z_var 9) z_nil))) z_nil))))) (by decide))))) (by first | exact Or.inl rfl | exact Or.inr rfl))
 (s_cons (s_set 3 nd (by rfl) (by first | exact Or.inl rfl | exact Or.inr rfl) (z_ix hK (z_fz (z_lst (z_cons z_int (z_cons z_int (z_cons z_int z_nil))))) (z_cal F.f__law_take tk hr (by rfl) (z_cons (z_var 0) (z_cons z_int z_nil)))) (by first | exact Or.inl rfl | exact Or.inr rfl))
 (s_cons (s_set 4 nd (by rfl) (by first | exact Or.inl rfl | exact Or.inr rfl) (z_len hK (by rfl) F.b_len (z_var 1)) (by first | exact Or.inl rfl | exact Or.inr rfl))
 (s_cons (s_set 5 nd (by rfl) (by first | exact Or.inl rfl | exact Or.inr rfl) (z_tupq hK (by rfl) F.b_tuple (z_st (z_nq (z_comp (own := [("_law_f", 10)]) (by rfl) nd (i_rng (by rfl) F.b_range (z_var 4)) (blkOk_by (own := [("_law_f", 10)]) (N := N__law_small) (sc := (defScope (top 49))) (by decide +kernel)) (fun _ _ _ _ _ => (g_nm 10 nd (by rfl) (by first | exact Or.inl rfl | exact Or.inr rfl) (by first | exact Or.inl rfl | exact Or.inr rfl))) (fun _ _ _ _ _ => ts_nil) (fun _ _ _ _ _ => (z_tupq hK (by rfl) F.b_tuple (z_st (z_nq (z_comp (own := [("_law_g", 11)]) (by rfl) nd (i_rng (by rfl) F.b_range (z_var 4)) (blkOk_by (own := [("_law_g", 11)]) (by kernel_rfl)) (fun _ _ _ _ _ => (g_nm 11 nd (by rfl) (by first | exact Or.inl rfl | exact Or.inr rfl) (by first | exact Or.inl rfl | exact Or.inr rfl))) (fun _ _ _ _ _ => ts_nil) (fun _ _ _ _ _ => (z_mul hK (z_cal F.f__law_take takes0 hr (by rfl) (z_cons (z_var 0) (z_cons (z_var 3) z_nil))) (z_toint (by rfl) F.b_int (z_cmp (cok_ne hu hK) (z_var 10) (z_var 11))))) (by decide)))))) (by decide))))) (by first | exact Or.inl rfl | exact Or.inr rfl))
 (s_cons (s_set 6 nd (by rfl) (by first | exact Or.inl rfl | exact Or.inr rfl) (z_tup (z_cons (z_add z_int (z_cal F.f__law_take tk hr (by rfl) (z_cons (z_var 0) (z_cons z_int z_nil))) hK) (z_cons (z_add z_int (z_cal F.f__law_take tk hr (by rfl) (z_cons (z_var 0) (z_cons z_int z_nil))) hK) z_nil))) (by first | exact Or.inl rfl | exact Or.inr rfl))
 (s_cons (s_set 7 nd (by rfl) (by first | exact Or.inl rfl | exact Or.inr rfl) (z_ix hK (z_fz (z_lst (z_cons z_str (z_cons z_str (z_cons z_str z_nil))))) (z_cal F.f__law_take tk hr (by rfl) (z_cons (z_var 0) (z_cons z_int z_nil)))) (by first | exact Or.inl rfl | exact Or.inr rfl))
 (s_cons (s_set 8 nd (by rfl) (by first | exact Or.inl rfl | exact Or.inr rfl) (z_ix hK (z_fz (z_lst (z_cons z_int (z_cons z_int (z_cons z_int (z_cons z_int z_nil)))))) (z_cal F.f__law_take tk hr (by rfl) (z_cons (z_var 0) (z_cons z_int z_nil)))) (by first | exact Or.inl rfl | exact Or.inr rfl))
 (s_cons (s_if (z_cmpT cok_gt (z_sumT hK (by rfl) (by rfl) F.b_sum (z_var 1)) z_int) (s_cons (s_set 8 nd (by rfl) (by first | exact Or.inl rfl | exact Or.inr rfl) (z_mn2 (by rfl) (by rfl) F.b_min (z_var 8) (z_toint (by rfl) F.b_int (z_cmp (cok_eq hu hK) (z_var 4) z_int))) (by first | exact Or.inl rfl | exact Or.inr rfl))
 s_nil) s_nil)
 (s_cons (s_ret (z_tup (z_cons (z_var 2) (z_cons (z_var 5) (z_cons (z_var 6) (z_cons (z_var 7) (z_cons (z_var 8) z_nil)))))))
 s_nil))))))))))

theorem sc__law_sort : FnScope N__law_sort ["_law_e"] (defScope (top 50)) := ⟨rfl, rfl, rfl, by decide +kernel, rfl, by decide +kernel, by decide +kernel⟩
theorem b__law_sort (F : Fs P w K mg base c k) (hK : c.K = K) (hr : Room k (A.deeper (envOfC "_law_sort" (defScope (top 50)) s.heap.objs.size f cdv))) :
    PSs (cxOf (L2.CX P w) P w K mg base N__law_sort "_law_sort" (defScope (top 50)) f cdv A outer s H E) (defBody (top 50)) (tS c (fun cls d _ H' => E cls d H') (mb__law_sort ⟨callN Pg k⟩)) := by
  have hu := room_u hr
  have nd : (N__law_sort).Nodup := sc__law_sort.nd
  have tk : Takes (cxOf (L2.CX P w) P w K mg base N__law_sort "_law_sort" (defScope (top 50)) f cdv A outer s H E) (fun cls d _ H' => E cls d H') := takes_of rfl rfl rfl rfl
  have hp : PassesOwn (model P w) (A.deeper (envOfC "_law_sort" (defScope (top 50)) s.heap.objs.size f cdv)) (envOfC "_law_sort" (defScope (top 50)) s.heap.objs.size f cdv) (cxOf (L2.CX P w) P w K mg base N__law_sort "_law_sort" (defScope (top 50)) f cdv A outer s H E).xe := passes_of rfl
  delta mb__law_sort
  exact (s_cons (s_set 1 nd (by rfl) (by first | exact Or.inl rfl | exact Or.inr rfl) (z_fz (z_lst (z_cons (z_isx hK F.ex (by rfl) (by rfl) F.b_isinstance (z_var 0) (pcl_own (by rfl) F.e_NoCalls)) (z_cons (z_isx hK F.ex (by rfl) (by rfl) F.b_isinstance (z_var 0) (pcl_own (by rfl) F.e_NoDoffs)) (z_cons (z_isx hK F.ex (by rfl) (by rfl) F.b_isinstance (z_var 0) (pcl_own (by rfl) F.e_NoFrame)) (z_cons (z_isx hK F.ex (by rfl) (by rfl) F.b_isinstance (z_var 0) (pcl_own (by rfl) F.e_NoHand)) z_nil)))))) (by first | exact Or.inl rfl | exact Or.inr rfl))
 (s_cons (s_set 1 nd (by rfl) (by first | exact Or.inl rfl | exact Or.inr rfl) (z_fz (z_catL hK (z_var 1) (z_fz (z_lst (z_cons (z_isx hK F.ex (by rfl) (by rfl) F.b_isinstance (z_var 0) (pcl_own (by rfl) F.e_NoMany)) (z_cons (z_isx hK F.ex (by rfl) (by rfl) F.b_isinstance (z_var 0) (pcl_own (by rfl) F.e_NoMinds)) (z_cons (z_isx hK F.ex (by rfl) (by rfl) F.b_isinstance (z_var 0) (pcl_own (by rfl) F.e_NoMoment)) (z_cons (z_isx hK F.ex (by rfl) (by rfl) F.b_isinstance (z_var 0) (pcl_own (by rfl) F.e_NoPlain)) z_nil)))))))) (by first | exact Or.inl rfl | exact Or.inr rfl))
 (s_cons (s_set 1 nd (by rfl) (by first | exact Or.inl rfl | exact Or.inr rfl) (z_fz (z_catL hK (z_var 1) (z_fz (z_lst (z_cons (z_isx hK F.ex (by rfl) (by rfl) F.b_isinstance (z_var 0) (pcl_own (by rfl) F.e_NoRow)) (z_cons (z_isx hK F.ex (by rfl) (by rfl) F.b_isinstance (z_var 0) (pcl_own (by rfl) F.e_NoSmall)) (z_cons (z_isx hK F.ex (by rfl) (by rfl) F.b_isinstance (z_var 0) (pcl_own (by rfl) F.e_NoSpun)) (z_cons (z_isx hK F.ex (by rfl) (by rfl) F.b_isinstance (z_var 0) (pcl_own (by rfl) F.e_NoStory)) z_nil)))))))) (by first | exact Or.inl rfl | exact Or.inr rfl))
 (s_cons (s_set 1 nd (by rfl) (by first | exact Or.inl rfl | exact Or.inr rfl) (z_fz (z_catL hK (z_var 1) (z_fz (z_lst (z_cons (z_isx hK F.ex (by rfl) (by rfl) F.b_isinstance (z_var 0) (pcl_own (by rfl) F.e_NoStray)) (z_cons (z_isx hK F.ex (by rfl) (by rfl) F.b_isinstance (z_var 0) (pcl_own (by rfl) F.e_NoStrike)) (z_cons (z_isx hK F.ex (by rfl) (by rfl) F.b_isinstance (z_var 0) (pcl_own (by rfl) F.e_NoText)) (z_cons (z_isx hK F.ex (by rfl) (by rfl) F.b_isinstance (z_var 0) (pcl_own (by rfl) F.e_NoThread)) z_nil)))))))) (by first | exact Or.inl rfl | exact Or.inr rfl))
 (s_cons (s_set 1 nd (by rfl) (by first | exact Or.inl rfl | exact Or.inr rfl) (z_fz (z_catL hK (z_var 1) (z_fz (z_lst (z_cons (z_isx hK F.ex (by rfl) (by rfl) F.b_isinstance (z_var 0) (pcl_own (by rfl) F.e_NoWait)) (z_cons (z_isx hK F.ex (by rfl) (by rfl) F.b_isinstance (z_var 0) (pcl_own (by rfl) F.e_NoYard)) (z_cons (z_isx hK F.ex (by rfl) (by rfl) F.b_isinstance (z_var 0) (pcl_own (by rfl) F.e_TooMany)) z_nil))))))) (by first | exact Or.inl rfl | exact Or.inr rfl))
 (s_cons (s_if (z_or (z_cmpT (cok_ne hu hK) (z_cntL hK hu (z_var 1) z_bl) z_int) (z_or1 (z_not (z_tru hK (z_isx hK F.ex (by rfl) (by rfl) F.b_isinstance (z_var 0) (pcl_ve (by rfl) F.b_ValueError)))))).pt (s_cons (s_ret z_str)
 s_nil) s_nil)
 (s_cons (s_set 2 nd (by rfl) (by first | exact Or.inl rfl | exact Or.inr rfl) (z_fz (z_lst (z_cons z_str (z_cons z_str (z_cons z_str (z_cons z_str (z_cons z_str (z_cons z_str (z_cons z_str (z_cons z_str (z_cons z_str (z_cons z_str (z_cons z_str (z_cons z_str z_nil)))))))))))))) (by first | exact Or.inl rfl | exact Or.inr rfl))
 (s_cons (s_ret (z_ix hK (z_fz (z_catL hK (z_var 2) (z_fz (z_lst (z_cons z_str (z_cons z_str (z_cons z_str (z_cons z_str (z_cons z_str (z_cons z_str (z_cons z_str z_nil))))))))))) (z_idxL hK hu (z_var 1) z_bl)))
 s_nil))))))))

theorem sc__law_bent : FnScope N__law_bent ["_law_pool_here", "_law_thing"] (defScope (top 51)) := ⟨rfl, rfl, rfl, by decide +kernel, rfl, by decide +kernel, by decide +kernel⟩
theorem b__law_bent (F : Fs P w K mg base c k) (hK : c.K = K) (hr : Room k (A.deeper (envOfC "_law_bent" (defScope (top 51)) s.heap.objs.size f cdv))) :
    PSs (cxOf (L2.CX P w) P w K mg base N__law_bent "_law_bent" (defScope (top 51)) f cdv A outer s H E) (defBody (top 51)) (tS c (fun cls d _ H' => E cls d H') (mb__law_bent ⟨callN Pg k⟩)) := by
  have hu := room_u hr
  have nd : (N__law_bent).Nodup := sc__law_bent.nd
  have tk : Takes (cxOf (L2.CX P w) P w K mg base N__law_bent "_law_bent" (defScope (top 51)) f cdv A outer s H E) (fun cls d _ H' => E cls d H') := takes_of rfl rfl rfl rfl
  have hp : PassesOwn (model P w) (A.deeper (envOfC "_law_bent" (defScope (top 51)) s.heap.objs.size f cdv)) (envOfC "_law_bent" (defScope (top 51)) s.heap.objs.size f cdv) (cxOf (L2.CX P w) P w K mg base N__law_bent "_law_bent" (defScope (top 51)) f cdv A outer s H E).xe := passes_of rfl
  delta mb__law_bent
  exact (s_cons (s_if (z_and (z_tru hK (z_isi .tuple hK (by rfl) F.b_isinstance (by rfl) F.b_tuple (z_var 1))) (z_and (z_cmpT (cok_ne hu hK) (z_var 1) (z_tup z_nil)) (z_and1 (z_cmpT cok_gt (z_cal F.f__law_take tk hr (by rfl) (z_cons (z_var 0) (z_cons z_int z_nil))) z_int)))).pt (s_cons (s_set 3 nd (by rfl) (by first | exact Or.inl rfl | exact Or.inr rfl) (z_cal F.f__law_take tk hr (by rfl) (z_cons (z_var 0) (z_cons (z_len hK (by rfl) F.b_len (z_var 1)) z_nil))) (by first | exact Or.inl rfl | exact Or.inr rfl))
 (s_cons (s_ret (z_add (z_add (z_slT hK (z_var 1) z_no (z_so (z_var 3))) (z_tup (z_cons (z_cal F.f__law_bent tk hr (by rfl) (z_cons (z_var 0) (z_cons (z_ix hK (z_var 1) (z_var 3)) z_nil))) z_nil)) hK) (z_slT hK (z_var 1) (z_so (z_add (z_var 3) z_int hK)) z_no) hK))
 s_nil)) s_nil)
 (s_cons (s_if (z_tru hK (z_isi .tuple hK (by rfl) F.b_isinstance (by rfl) F.b_tuple (z_var 1))) (s_cons (s_set 3 nd (by rfl) (by first | exact Or.inl rfl | exact Or.inr rfl) (z_cal F.f__law_take tk hr (by rfl) (z_cons (z_var 0) (z_cons (z_add (z_len hK (by rfl) F.b_len (z_var 1)) z_int hK) z_nil))) (by first | exact Or.inl rfl | exact Or.inr rfl))
 (s_cons (s_set 2 nd (by rfl) (by first | exact Or.inl rfl | exact Or.inr rfl) (z_fz (z_lst (z_cons (z_add (z_slT hK (z_var 1) z_no (z_so (z_var 3))) (z_slT hK (z_var 1) (z_so (z_add (z_var 3) z_int hK)) z_no) hK) (z_cons (z_add (z_var 1) (z_slT hK (z_var 1) z_no (z_so z_int)) hK) (z_cons (z_add (z_add (z_slT hK (z_var 1) z_no (z_so (z_var 3))) (z_slT hK (z_var 1) (z_so (z_var 3)) (z_so (z_add (z_var 3) z_int hK))) hK) (z_slT hK (z_var 1) (z_so (z_var 3)) z_no) hK) (z_cons (z_fz (z_lstq hK (by rfl) F.b_list (z_of (z_var 1)))) z_nil)))))) (by first | exact Or.inl rfl | exact Or.inr rfl))
 (s_cons (s_ret (z_ix hK (z_fz (z_catL hK (z_var 2) (z_fz (z_lst (z_cons (z_revT hK (z_var 1)) (z_cons (z_tup (z_cons (z_var 1) z_nil)) (z_cons z_non (z_cons (z_tup z_nil) z_nil)))))))) (z_cal F.f__law_take tk hr (by rfl) (z_cons (z_var 0) (z_cons z_int z_nil)))))
 s_nil))) s_nil)
 (s_cons (s_set 2 nd (by rfl) (by first | exact Or.inl rfl | exact Or.inr rfl) (z_fz (z_lst (z_cons z_non (z_cons z_bl (z_cons z_bl (z_cons z_int (z_cons z_int (z_cons z_int (z_cons z_int (z_cons z_int (z_cons (z_neg z_int) (z_cons z_str (z_cons z_str (z_cons z_str (z_cons z_str (z_cons (z_fz (z_lst z_nil)) (z_cons z_emp (z_cons (z_tup z_nil) (z_cons (z_fz (z_lst (z_cons (z_var 1) z_nil))) (z_cons (z_tup (z_cons (z_var 1) z_nil)) (z_cons (z_pow z_int z_int) z_nil))))))))))))))))))))) (by first | exact Or.inl rfl | exact Or.inr rfl))
 (s_cons (s_ret (z_ix hK (z_var 2) (z_cal F.f__law_take tk hr (by rfl) (z_cons (z_var 0) (z_cons z_int z_nil)))))
 s_nil))))

theorem sc__law_number : FnScope N__law_number ["_law_thing", "_law_low", "_law_high"] (defScope (top 52)) := ⟨rfl, rfl, rfl, by decide +kernel, rfl, by decide +kernel, by decide +kernel⟩
theorem b__law_number (F : Fs P w K mg base c k) (hK : c.K = K) (hr : Room k (A.deeper (envOfC "_law_number" (defScope (top 52)) s.heap.objs.size f cdv))) :
    PSs (cxOf (L2.CX P w) P w K mg base N__law_number "_law_number" (defScope (top 52)) f cdv A outer s H E) (defBody (top 52)) (tS c (fun cls d _ H' => E cls d H') (mb__law_number ⟨callN Pg k⟩)) := by
  have hu := room_u hr
  have nd : (N__law_number).Nodup := sc__law_number.nd
  have tk : Takes (cxOf (L2.CX P w) P w K mg base N__law_number "_law_number" (defScope (top 52)) f cdv A outer s H E) (fun cls d _ H' => E cls d H') := takes_of rfl rfl rfl rfl
  have hp : PassesOwn (model P w) (A.deeper (envOfC "_law_number" (defScope (top 52)) s.heap.objs.size f cdv)) (envOfC "_law_number" (defScope (top 52)) s.heap.objs.size f cdv) (cxOf (L2.CX P w) P w K mg base N__law_number "_law_number" (defScope (top 52)) f cdv A outer s H E).xe := passes_of rfl
  delta mb__law_number
  exact (s_cons (s_ret (z_andv hK (z_isi .int hK (by rfl) F.b_isinstance (by rfl) F.b_int (z_var 0)) (z_andv hK (z_notv hK (z_isi .bool hK (by rfl) F.b_isinstance (by rfl) F.b_bool (z_var 0))) (z_onev (z_chn (cok_le hu hK) (cok_le hu hK) (z_var 1) (z_var 0) (z_var 2))))))
 s_nil)

theorem sc__law_are_frames : FnScope N__law_are_frames ["_law_thing"] (defScope (top 53)) := ⟨rfl, rfl, rfl, by decide +kernel, rfl, by decide +kernel, by decide +kernel⟩
theorem b__law_are_frames (F : Fs P w K mg base c k) (hK : c.K = K) (hr : Room k (A.deeper (envOfC "_law_are_frames" (defScope (top 53)) s.heap.objs.size f cdv))) :
    PSs (cxOf (L2.CX P w) P w K mg base N__law_are_frames "_law_are_frames" (defScope (top 53)) f cdv A outer s H E) (defBody (top 53)) (tS c (fun cls d _ H' => E cls d H') (mb__law_are_frames ⟨callN Pg k⟩)) := by
  have hu := room_u hr
  have nd : (N__law_are_frames).Nodup := sc__law_are_frames.nd
  have tk : Takes (cxOf (L2.CX P w) P w K mg base N__law_are_frames "_law_are_frames" (defScope (top 53)) f cdv A outer s H E) (fun cls d _ H' => E cls d H') := takes_of rfl rfl rfl rfl
  have hp : PassesOwn (model P w) (A.deeper (envOfC "_law_are_frames" (defScope (top 53)) s.heap.objs.size f cdv)) (envOfC "_law_are_frames" (defScope (top 53)) s.heap.objs.size f cdv) (cxOf (L2.CX P w) P w K mg base N__law_are_frames "_law_are_frames" (defScope (top 53)) f cdv A outer s H E).xe := passes_of rfl
  delta mb__law_are_frames lb__law_are_frames_0
  exact (s_cons (s_if (z_or (z_not (z_tru hK (z_isi .tuple hK (by rfl) F.b_isinstance (by rfl) F.b_tuple (z_var 0)))) (z_or1 (z_not (z_chnT (cok_le hu hK) (cok_le hu hK) z_int (z_len hK (by rfl) F.b_len (z_var 0)) z_int)))).pt (s_cons (s_ret z_bl)
 s_nil) s_nil)
 (s_cons (s_set 1 nd (by rfl) (by first | exact Or.inl rfl | exact Or.inr rfl) z_int (by first | exact Or.inl rfl | exact Or.inr rfl))
 (s_cons (s_for hp (by rfl) (i_of hK (z_var 0)) (g_nm 2 nd (by rfl) (by first | exact Or.inl rfl | exact Or.inr rfl) (by first | exact Or.inl rfl | exact Or.inr rfl)) (s_cons (s_if (z_or (z_not (z_tru hK (z_isi .tuple hK (by rfl) F.b_isinstance (by rfl) F.b_tuple (z_var 2)))) (z_or (z_cmpT (cok_ne hu hK) (z_len hK (by rfl) F.b_len (z_var 2)) z_int) (z_or1 (z_not (z_tru hK (z_cal F.f__law_number tk hr (by rfl) (z_cons (z_ix hK (z_var 2) z_int) (z_cons z_int (z_cons z_int z_nil))))))))).pt (s_cons (s_ret z_bl)
 s_nil) s_nil)
 (s_cons (s_if (z_or (z_not (z_tru hK (z_cal F.f__law_number tk hr (by rfl) (z_cons (z_ix hK (z_var 2) z_int) (z_cons z_int (z_cons z_int z_nil)))))) (z_or1 (z_not (z_tru hK (z_cal F.f__law_number tk hr (by rfl) (z_cons (z_ix hK (z_var 2) z_int) (z_cons z_int (z_cons (z_sub (z_ix hK (z_var 2) z_int) z_int) z_nil)))))))).pt (s_cons (s_ret z_bl)
 s_nil) s_nil)
 (s_cons (s_set 1 nd (by rfl) (by first | exact Or.inl rfl | exact Or.inr rfl) (z_add (z_var 1) (z_ix hK (z_var 2) z_int) hK) (by first | exact Or.inl rfl | exact Or.inr rfl))
 s_nil))))
 (s_cons (s_ret (z_cmp (cok_le hu hK) (z_var 1) z_int))
 s_nil))))

theorem sc__law_are_walks : FnScope N__law_are_walks ["_law_thing", "_law_many"] (defScope (top 54)) := ⟨rfl, rfl, rfl, by decide +kernel, rfl, by decide +kernel, by decide +kernel⟩
theorem b__law_are_walks (F : Fs P w K mg base c k) (hK : c.K = K) (hr : Room k (A.deeper (envOfC "_law_are_walks" (defScope (top 54)) s.heap.objs.size f cdv))) :
    PSs (cxOf (L2.CX P w) P w K mg base N__law_are_walks "_law_are_walks" (defScope (top 54)) f cdv A outer s H E) (defBody (top 54)) (tS c (fun cls d _ H' => E cls d H') (mb__law_are_walks ⟨callN Pg k⟩)) := by
  have hu := room_u hr
  have nd : (N__law_are_walks).Nodup := sc__law_are_walks.nd
  have tk : Takes (cxOf (L2.CX P w) P w K mg base N__law_are_walks "_law_are_walks" (defScope (top 54)) f cdv A outer s H E) (fun cls d _ H' => E cls d H') := takes_of rfl rfl rfl rfl
  have hp : PassesOwn (model P w) (A.deeper (envOfC "_law_are_walks" (defScope (top 54)) s.heap.objs.size f cdv)) (envOfC "_law_are_walks" (defScope (top 54)) s.heap.objs.size f cdv) (cxOf (L2.CX P w) P w K mg base N__law_are_walks "_law_are_walks" (defScope (top 54)) f cdv A outer s H E).xe := passes_of rfl
  delta mb__law_are_walks ce__law_are_walks_0 lb__law_are_walks_1
  exact (s_cons (s_if (z_or (z_not (z_tru hK (z_isi .tuple hK (by rfl) F.b_isinstance (by rfl) F.b_tuple (z_var 0)))) (z_or1 (z_cmpT (cok_ne hu hK) (z_len hK (by rfl) F.b_len (z_var 0)) (z_var 1)))).pt (s_cons (s_ret z_bl)
 s_nil) s_nil)
 (s_cons (s_for hp (by rfl) (i_enum hK (by rfl) F.b_enumerate (z_var 0)) (g_tup hK (by rfl) (g_cons (g_nm 2 nd (by rfl) (by first | exact Or.inl rfl | exact Or.inr rfl) (by first | exact Or.inl rfl | exact Or.inr rfl)) (g_cons (g_nm 3 nd (by rfl) (by first | exact Or.inl rfl | exact Or.inr rfl) (by first | exact Or.inl rfl | exact Or.inr rfl)) g_nil))) (s_cons (s_if (z_or (z_not (z_tru hK (z_isi .tuple hK (by rfl) F.b_isinstance (by rfl) F.b_tuple (z_var 3)))) (z_or (z_cmpT (cok_ne hu hK) (z_len hK (by rfl) F.b_len (z_var 3)) (z_var 1)) (z_or1 (z_not (z_tru hK (z_allq hK (by rfl) (by rfl) F.b_all (z_nl (z_comp (own := [("_law_one", 4)]) (by rfl) nd (i_of hK (z_var 3)) (blkOk_by (own := [("_law_one", 4)]) (N := N__law_are_walks) (sc := (defScope (top 54))) (by decide +kernel)) (fun _ _ _ _ _ => (g_nm 4 nd (by rfl) (by first | exact Or.inl rfl | exact Or.inr rfl) (by first | exact Or.inl rfl | exact Or.inr rfl))) (fun _ _ _ _ _ => ts_nil) (fun _ _ _ _ _ => (z_cal F.f__law_number takes0 hr (by rfl) (z_cons (z_var 4) (z_cons z_int (z_cons z_int z_nil))))) (by decide))))))))).pt (s_cons (s_ret z_bl)
 s_nil) s_nil)
 (s_cons (s_if (z_cmpT (cok_ne hu hK) (z_ix hK (z_var 3) (z_var 2)) z_int) (s_cons (s_ret z_bl)
 s_nil) s_nil)
 s_nil)))
 (s_cons (s_ret z_bl)
 s_nil)))

theorem sc__law_is_small : FnScope N__law_is_small ["_law_thing"] (defScope (top 55)) := ⟨rfl, rfl, rfl, by decide +kernel, rfl, by decide +kernel, by decide +kernel⟩
theorem b__law_is_small (F : Fs P w K mg base c k) (hK : c.K = K) (hr : Room k (A.deeper (envOfC "_law_is_small" (defScope (top 55)) s.heap.objs.size f cdv))) :
    PSs (cxOf (L2.CX P w) P w K mg base N__law_is_small "_law_is_small" (defScope (top 55)) f cdv A outer s H E) (defBody (top 55)) (tS c (fun cls d _ H' => E cls d H') (mb__law_is_small ⟨callN Pg k⟩)) := by
  have hu := room_u hr
  have nd : (N__law_is_small).Nodup := sc__law_is_small.nd
  have tk : Takes (cxOf (L2.CX P w) P w K mg base N__law_is_small "_law_is_small" (defScope (top 55)) f cdv A outer s H E) (fun cls d _ H' => E cls d H') := takes_of rfl rfl rfl rfl
  have hp : PassesOwn (model P w) (A.deeper (envOfC "_law_is_small" (defScope (top 55)) s.heap.objs.size f cdv)) (envOfC "_law_is_small" (defScope (top 55)) s.heap.objs.size f cdv) (cxOf (L2.CX P w) P w K mg base N__law_is_small "_law_is_small" (defScope (top 55)) f cdv A outer s H E).xe := passes_of rfl
  delta mb__law_is_small ce__law_is_small_0
  exact (s_cons (s_if (z_or (z_not (z_tru hK (z_isi .tuple hK (by rfl) F.b_isinstance (by rfl) F.b_tuple (z_var 0)))) (z_or (z_cmpT (cok_ne hu hK) (z_len hK (by rfl) F.b_len (z_var 0)) z_int) (z_or1 (z_not (z_tru hK (z_cal F.f__law_are_frames tk hr (by rfl) (z_cons (z_ix hK (z_var 0) z_int) z_nil))))))).pt (s_cons (s_ret z_bl)
 s_nil) s_nil)
 (s_cons (s_if (z_or (z_not (z_tru hK (z_cal F.f__law_are_walks tk hr (by rfl) (z_cons (z_ix hK (z_var 0) z_int) (z_cons (z_len hK (by rfl) F.b_len (z_ix hK (z_var 0) z_int)) z_nil))))) (z_or (z_not (z_tru hK (z_isi .tuple hK (by rfl) F.b_isinstance (by rfl) F.b_tuple (z_ix hK (z_var 0) z_int)))) (z_or1 (z_cmpT (cok_ne hu hK) (z_len hK (by rfl) F.b_len (z_ix hK (z_var 0) z_int)) z_int)))).pt (s_cons (s_ret z_bl)
 s_nil) s_nil)
 (s_cons (s_if (z_or (z_not (z_tru hK (z_allq hK (by rfl) (by rfl) F.b_all (z_nl (z_comp (own := [("_law_one", 1)]) (by rfl) nd (i_of hK (z_ix hK (z_var 0) z_int)) (blkOk_by (own := [("_law_one", 1)]) (N := N__law_is_small) (sc := (defScope (top 55))) (by decide +kernel)) (fun _ _ _ _ _ => (g_nm 1 nd (by rfl) (by first | exact Or.inl rfl | exact Or.inr rfl) (by first | exact Or.inl rfl | exact Or.inr rfl))) (fun _ _ _ _ _ => ts_nil) (fun _ _ _ _ _ => (z_cal F.f__law_number takes0 hr (by rfl) (z_cons (z_var 1) (z_cons z_int (z_cons z_int z_nil))))) (by decide)))))) (z_or1 (z_not (z_tru hK (z_cal F.f__law_number tk hr (by rfl) (z_cons (z_ix hK (z_var 0) z_int) (z_cons z_int (z_cons z_int z_nil)))))))).pt (s_cons (s_ret z_bl)
 s_nil) s_nil)
 (s_cons (s_ret (z_andv hK (z_isi .str hK (by rfl) F.b_isinstance (by rfl) F.b_str (z_ix hK (z_var 0) z_int)) (z_onev (z_cmp (cok_in hu hK) (z_ix hK (z_var 0) z_int) (z_fz (z_lst (z_cons z_str (z_cons z_str (z_cons z_str z_nil)))))))))
 s_nil))))

theorem sc__law_asked : FnScope N__law_asked ["_law_door", "_law_thing", "_law_story"] (defScope (top 56)) := ⟨rfl, rfl, rfl, by decide +kernel, rfl, by decide +kernel, by decide +kernel⟩
theorem b__law_asked (F : Fs P w K mg base c k) (hK : c.K = K) (hr : Room k (A.deeper (envOfC "_law_asked" (defScope (top 56)) s.heap.objs.size f cdv))) :
    PSs (cxOf (L2.CX P w) P w K mg base N__law_asked "_law_asked" (defScope (top 56)) f cdv A outer s H E) (defBody (top 56)) (tS c (fun cls d _ H' => E cls d H') (mb__law_asked ⟨callN Pg k⟩)) := by
  have hu := room_u hr
  have nd : (N__law_asked).Nodup := sc__law_asked.nd
  have tk : Takes (cxOf (L2.CX P w) P w K mg base N__law_asked "_law_asked" (defScope (top 56)) f cdv A outer s H E) (fun cls d _ H' => E cls d H') := takes_of rfl rfl rfl rfl
  have hp : PassesOwn (model P w) (A.deeper (envOfC "_law_asked" (defScope (top 56)) s.heap.objs.size f cdv)) (envOfC "_law_asked" (defScope (top 56)) s.heap.objs.size f cdv) (cxOf (L2.CX P w) P w K mg base N__law_asked "_law_asked" (defScope (top 56)) f cdv A outer s H E).xe := passes_of rfl
  delta mb__law_asked tb__law_asked_0
  exact (s_cons (s_try (by rfl) (by rfl) (by rfl) nd (by rfl) (by rfl) (by rfl) F.e_DoffError (by decide) F.ex (by decide) tk (fun W pn xe tk hp => (s_cons (s_if (z_cmpT (cok_eq hu hK) (z_var 0) z_int) (s_cons (s_exp (z_cal F.f_played tk hr (by rfl) (z_cons (z_var 1) (z_cons (z_var 2) z_nil))))
 s_nil) (s_cons (s_exp (z_cal F.f_worst_story tk hr (by rfl) (z_cons (z_var 1) z_nil)))
 s_nil))
 s_nil)) (fun a pn => (s_cons (s_ret (z_calQ F.q__law_sort takes0 (roomQ_deeper hr) (by rfl) (z_cons (z_var 3) z_nil)))
 s_nil)))
 (s_cons (s_ret z_str)
 s_nil))

theorem sc__law_right : FnScope N__law_right ["_law_thing", "_law_story"] (defScope (top 57)) := ⟨rfl, rfl, rfl, by decide +kernel, rfl, by decide +kernel, by decide +kernel⟩
theorem b__law_right (F : Fs P w K mg base c k) (hK : c.K = K) (hr : Room k (A.deeper (envOfC "_law_right" (defScope (top 57)) s.heap.objs.size f cdv))) :
    PSs (cxOf (L2.CX P w) P w K mg base N__law_right "_law_right" (defScope (top 57)) f cdv A outer s H E) (defBody (top 57)) (tS c (fun cls d _ H' => E cls d H') (mb__law_right ⟨callN Pg k⟩)) := by
  have hu := room_u hr
  have nd : (N__law_right).Nodup := sc__law_right.nd
  have tk : Takes (cxOf (L2.CX P w) P w K mg base N__law_right "_law_right" (defScope (top 57)) f cdv A outer s H E) (fun cls d _ H' => E cls d H') := takes_of rfl rfl rfl rfl
  have hp : PassesOwn (model P w) (A.deeper (envOfC "_law_right" (defScope (top 57)) s.heap.objs.size f cdv)) (envOfC "_law_right" (defScope (top 57)) s.heap.objs.size f cdv) (cxOf (L2.CX P w) P w K mg base N__law_right "_law_right" (defScope (top 57)) f cdv A outer s H E).xe := passes_of rfl
  delta mb__law_right
  exact (s_cons (s_set 2 nd (by rfl) (by first | exact Or.inl rfl | exact Or.inr rfl) (z_cal F.f__law_is_small tk hr (by rfl) (z_cons (z_var 0) z_nil)) (by first | exact Or.inl rfl | exact Or.inr rfl))
 (s_cons (s_set 3 nd (by rfl) (by first | exact Or.inl rfl | exact Or.inr rfl) (z_cal F.f_is_small tk hr (by rfl) (z_cons (z_var 0) z_nil)) (by first | exact Or.inl rfl | exact Or.inr rfl))
 (s_cons (s_if (z_or (z_not (z_tru hK (z_isi .bool hK (by rfl) F.b_isinstance (by rfl) F.b_bool (z_var 3)))) (z_or1 (z_cmpT (cok_ne hu hK) (z_var 3) (z_var 2)))).pt (s_cons (s_ret z_bl)
 s_nil) s_nil)
 (s_cons (s_ret (z_orv hK (z_var 2) (z_onev (z_andv hK (z_cmp (cok_eq hu hK) (z_cal F.f__law_asked tk hr (by rfl) (z_cons z_int (z_cons (z_var 0) (z_cons (z_var 1) z_nil)))) z_str) (z_onev (z_cmp (cok_eq hu hK) (z_cal F.f__law_asked tk hr (by rfl) (z_cons z_int (z_cons (z_var 0) (z_cons z_non z_nil)))) z_str))))))
 s_nil))))

theorem sc__law_at_bounds : FnScope N__law_at_bounds [] (defScope (top 58)) := ⟨rfl, rfl, rfl, by decide +kernel, rfl, by decide +kernel, by decide +kernel⟩
theorem b__law_at_bounds (F : Fs P w K mg base c k) (hK : c.K = K) (hr : Room k (A.deeper (envOfC "_law_at_bounds" (defScope (top 58)) s.heap.objs.size f cdv))) :
    PSs (cxOf (L2.CX P w) P w K mg base N__law_at_bounds "_law_at_bounds" (defScope (top 58)) f cdv A outer s H E) (defBody (top 58)) (tS c (fun cls d _ H' => E cls d H') (mb__law_at_bounds ⟨callN Pg k⟩)) := by
  have hu := room_u hr
  have nd : (N__law_at_bounds).Nodup := sc__law_at_bounds.nd
  have tk : Takes (cxOf (L2.CX P w) P w K mg base N__law_at_bounds "_law_at_bounds" (defScope (top 58)) f cdv A outer s H E) (fun cls d _ H' => E cls d H') := takes_of rfl rfl rfl rfl
  have hp : PassesOwn (model P w) (A.deeper (envOfC "_law_at_bounds" (defScope (top 58)) s.heap.objs.size f cdv)) (envOfC "_law_at_bounds" (defScope (top 58)) s.heap.objs.size f cdv) (cxOf (L2.CX P w) P w K mg base N__law_at_bounds "_law_at_bounds" (defScope (top 58)) f cdv A outer s H E).xe := passes_of rfl
  delta mb__law_at_bounds ce__law_at_bounds_0 ce__law_at_bounds_1 lb__law_at_bounds_2 lb__law_at_bounds_3 lb__law_at_bounds_4
  exact (s_cons (s_asg (z_tup (z_cons (z_tup (z_cons z_int (z_cons z_int (z_cons z_int z_nil)))) (z_cons (z_tup (z_cons (z_tup (z_cons z_int z_nil)) z_nil)) z_nil))) (g_wk (g_tup hK (by rfl) (g_cons (g_nm 6 nd (by rfl) (by first | exact Or.inl rfl | exact Or.inr rfl) (by first | exact Or.inl rfl | exact Or.inr rfl)) (g_cons (g_nm 7 nd (by rfl) (by first | exact Or.inl rfl | exact Or.inr rfl) (by first | exact Or.inl rfl | exact Or.inr rfl)) g_nil)))))
 (s_cons (s_setLc 0 (own := [("_law_gap", 8)]) (by rfl) nd (by rfl) (by rfl) (sw_true rfl rfl rfl (by decide +kernel)) (i_st hK (z_lst (z_cons (z_neg z_int) (z_cons z_int (z_cons z_int (z_cons z_int (z_cons z_bl (z_cons z_non z_nil)))))))) (blkOk_by (own := [("_law_gap", 8)]) (N := N__law_at_bounds) (sc := (defScope (top 58))) (by decide +kernel)) (fun _ _ _ _ _ => (g_nm 8 nd (by rfl) (by first | exact Or.inl rfl | exact Or.inr rfl) (by first | exact Or.inl rfl | exact Or.inr rfl))) (fun _ _ _ _ _ => ts_nil) (fun _ _ _ _ _ => (z_tup (z_cons (z_tup (z_cons (z_var 6) z_nil)) (z_cons (z_var 7) (z_cons (z_tup (z_cons z_int (z_cons z_int z_nil))) (z_cons z_str (z_cons (z_var 8) z_nil))))))) (by decide))
 (s_cons (s_set 0 nd (by rfl) (by first | exact Or.inl rfl | exact Or.inr rfl) (z_new (z_catL hK (z_var 0) (z_fz (z_comp (own := [("_law_pieces", 9)]) (by rfl) nd (i_st hK (z_lst (z_cons (z_tup (z_cons z_int (z_cons z_int z_nil))) (z_cons (z_tup (z_cons z_int (z_cons z_int z_nil))) (z_cons (z_tup (z_cons z_int (z_cons z_int z_nil))) (z_cons (z_tup (z_cons z_int (z_cons z_int z_nil))) (z_cons (z_tup (z_cons z_int z_nil)) (z_cons (z_fz (z_lst (z_cons z_int (z_cons z_int z_nil)))) z_nil)))))))) (blkOk_by (own := [("_law_pieces", 9)]) (N := N__law_at_bounds) (sc := (defScope (top 58))) (by decide +kernel)) (fun _ _ _ _ _ => (g_nm 9 nd (by rfl) (by first | exact Or.inl rfl | exact Or.inr rfl) (by first | exact Or.inl rfl | exact Or.inr rfl))) (fun _ _ _ _ _ => ts_nil) (fun _ _ _ _ _ => (z_tup (z_cons (z_tup (z_cons (z_var 6) z_nil)) (z_cons (z_var 7) (z_cons (z_var 9) (z_cons z_str (z_cons z_int z_nil))))))) (by decide))))) (by first | exact Or.inl rfl | exact Or.inr rfl))
 (s_cons (s_set 1 nd (by rfl) (by first | exact Or.inl rfl | exact Or.inr rfl) (z_fz (z_lst (z_cons (z_tup (z_cons z_int (z_cons z_int (z_cons z_int z_nil)))) (z_cons (z_tup (z_cons z_int (z_cons z_int (z_cons z_int z_nil)))) (z_cons (z_tup (z_cons z_int (z_cons z_int (z_cons z_int z_nil)))) (z_cons (z_tup (z_cons z_int (z_cons z_int (z_cons z_int z_nil)))) (z_cons (z_tup (z_cons (z_neg z_int) (z_cons z_int (z_cons z_int z_nil)))) (z_cons (z_tup (z_cons z_int (z_cons z_int (z_cons z_int z_nil)))) (z_cons (z_tup (z_cons z_int (z_cons z_int (z_cons z_int z_nil)))) (z_cons (z_tup (z_cons z_int (z_cons z_int (z_cons (z_neg z_int) z_nil)))) z_nil)))))))))) (by first | exact Or.inl rfl | exact Or.inr rfl))
 (s_cons (s_for hp (by rfl) (i_st hK (z_catL hK (z_var 1) (z_fz (z_lst (z_cons (z_tup (z_cons z_bl (z_cons z_int (z_cons z_int z_nil)))) z_nil))))) (g_nm 2 nd (by rfl) (by first | exact Or.inl rfl | exact Or.inr rfl) (by first | exact Or.inl rfl | exact Or.inr rfl)) (s_cons (s_exp (z_append hK (z_var 0) (z_tup (z_cons (z_tup (z_cons (z_var 2) z_nil)) (z_cons (z_var 7) (z_cons (z_tup (z_cons z_int (z_cons z_int z_nil))) (z_cons z_str (z_cons z_int z_nil))))))))
 s_nil))
 (s_cons (s_set 3 nd (by rfl) (by first | exact Or.inl rfl | exact Or.inr rfl) (z_tup (z_cons (z_tup (z_cons z_int (z_cons z_int z_nil))) (z_cons (z_tup (z_cons z_int (z_cons z_int z_nil))) z_nil))) (by first | exact Or.inl rfl | exact Or.inr rfl))
 (s_cons (s_for hp (by rfl) (i_st hK (z_lst (z_cons (z_tup (z_cons (z_var 6) (z_cons (z_var 6) z_nil))) (z_cons (z_tup (z_cons (z_var 6) (z_cons (z_tup (z_cons z_int (z_cons z_int (z_cons z_int z_nil)))) z_nil))) (z_cons (z_tup (z_cons (z_tup (z_cons z_int (z_cons z_int (z_cons z_int z_nil)))) (z_cons (z_tup (z_cons z_int (z_cons z_int (z_cons z_int z_nil)))) z_nil))) (z_cons (z_tup (z_cons (z_var 6) (z_cons (z_tup (z_cons z_int (z_cons z_int (z_cons z_int z_nil)))) z_nil))) z_nil)))))) (g_nm 4 nd (by rfl) (by first | exact Or.inl rfl | exact Or.inr rfl) (by first | exact Or.inl rfl | exact Or.inr rfl)) (s_cons (s_exp (z_append hK (z_var 0) (z_tup (z_cons (z_var 4) (z_cons (z_var 3) (z_cons (z_tup (z_cons z_int (z_cons z_int z_nil))) (z_cons z_str (z_cons z_int z_nil))))))))
 s_nil))
 (s_cons (s_for hp (by rfl) (i_st hK (z_lst (z_cons (z_tup (z_cons (z_tup (z_cons z_int (z_cons z_int z_nil))) (z_cons (z_tup (z_cons z_int (z_cons z_int z_nil))) z_nil))) (z_cons (z_tup (z_cons (z_tup (z_cons z_int (z_cons z_int z_nil))) (z_cons (z_tup (z_cons z_int (z_cons z_int z_nil))) z_nil))) (z_cons (z_tup (z_cons (z_tup (z_cons z_int (z_cons z_int z_nil))) (z_cons (z_tup (z_cons z_int (z_cons z_int z_nil))) z_nil))) (z_cons (z_tup (z_cons (z_tup (z_cons z_int (z_cons z_int z_nil))) z_nil)) (z_cons (z_tup (z_cons (z_tup (z_cons z_int (z_cons z_int z_nil))) (z_cons (z_fz (z_lst (z_cons z_int (z_cons z_int z_nil)))) z_nil))) (z_cons (z_tup (z_cons (z_tup (z_cons z_int (z_cons (z_neg z_int) z_nil))) (z_cons (z_tup (z_cons z_int (z_cons z_int z_nil))) z_nil))) z_nil)))))))) (g_nm 5 nd (by rfl) (by first | exact Or.inl rfl | exact Or.inr rfl) (by first | exact Or.inl rfl | exact Or.inr rfl)) (s_cons (s_exp (z_append hK (z_var 0) (z_tup (z_cons (z_tup (z_cons (z_var 6) (z_cons (z_var 6) z_nil))) (z_cons (z_var 5) (z_cons (z_tup (z_cons z_int (z_cons z_int z_nil))) (z_cons z_str (z_cons z_int z_nil))))))))
 s_nil))
 (s_cons (s_set 0 nd (by rfl) (by first | exact Or.inl rfl | exact Or.inr rfl) (z_new (z_catL hK (z_var 0) (z_fz (z_lst (z_cons (z_tup (z_cons (z_mul hK (z_tup (z_cons (z_var 6) z_nil)) z_int) (z_cons (z_mul hK (z_tup (z_cons (z_mul hK (z_tup (z_cons z_int z_nil)) z_int) z_nil)) z_int) (z_cons (z_tup (z_cons z_int (z_cons z_int z_nil))) (z_cons z_str (z_cons z_int z_nil)))))) (z_cons (z_tup (z_cons (z_mul hK (z_tup (z_cons (z_var 6) z_nil)) z_int) (z_cons (z_mul hK (z_tup (z_cons (z_mul hK (z_tup (z_cons z_int z_nil)) z_int) z_nil)) z_int) (z_cons (z_tup (z_cons z_int (z_cons z_int z_nil))) (z_cons z_str (z_cons z_int z_nil)))))) z_nil)))))) (by first | exact Or.inl rfl | exact Or.inr rfl))
 (s_cons (s_ret (z_fz (z_catL hK (z_var 0) (z_fz (z_lst (z_cons z_non (z_cons z_bl (z_cons z_int (z_cons z_str (z_cons (z_tup z_nil) (z_cons (z_fz (z_lst z_nil)) (z_cons z_emp (z_cons (z_tup (z_cons (z_tup z_nil) z_nil)) (z_cons (z_tup (z_cons (z_fz (z_lst z_nil)) z_nil)) (z_cons (z_tup (z_cons (z_tup (z_cons (z_var 6) z_nil)) (z_cons (z_var 7) (z_cons (z_tup (z_cons z_int (z_cons z_int z_nil))) (z_cons (z_fz (z_lst (z_cons z_str z_nil))) (z_cons z_int z_nil)))))) z_nil)))))))))))))))
 s_nil))))))))))

theorem sc_law : FnScope N_law ["_law_script"] (defScope (top 59)) := ⟨rfl, rfl, rfl, by decide +kernel, rfl, by decide +kernel, by decide +kernel⟩
theorem b_law (F : Fs P w K mg base c k) (hK : c.K = K) (hr : Room k (A.deeper (envOfC "law" (defScope (top 59)) s.heap.objs.size f cdv))) :
    PSs (cxOf (L2.CX P w) P w K mg base N_law "law" (defScope (top 59)) f cdv A outer s H E) (defBody (top 59)) (tS c (fun cls d _ H' => E cls d H') (mb_law ⟨callN Pg k⟩)) := by
  have hu := room_u hr
  have nd : (N_law).Nodup := sc_law.nd
  have tk : Takes (cxOf (L2.CX P w) P w K mg base N_law "law" (defScope (top 59)) f cdv A outer s H E) (fun cls d _ H' => E cls d H') := takes_of rfl rfl rfl rfl
  have hp : PassesOwn (model P w) (A.deeper (envOfC "law" (defScope (top 59)) s.heap.objs.size f cdv)) (envOfC "law" (defScope (top 59)) s.heap.objs.size f cdv) (cxOf (L2.CX P w) P w K mg base N_law "law" (defScope (top 59)) f cdv A outer s H E).xe := passes_of rfl
  delta mb_law ce_law_0 lb_law_1 lb_law_2
  exact (s_cons (s_set 1 nd (by rfl) (by first | exact Or.inl rfl | exact Or.inr rfl) (z_tup (z_cons (z_tup (z_cons (z_tup (z_cons z_int (z_cons z_int z_nil))) z_nil)) (z_cons (z_tup z_nil) (z_cons (z_tup z_nil) z_nil)))) (by first | exact Or.inl rfl | exact Or.inr rfl))
 (s_cons (s_if (z_not (z_tru hK (z_allq hK (by rfl) (by rfl) F.b_all (z_nl (z_comp (own := [("_law_thing", 6)]) (by rfl) nd (i_of hK (z_cal0 F.f__law_at_bounds tk hr (by rfl))) (blkOk_by (own := [("_law_thing", 6)]) (N := N_law) (sc := (defScope (top 59))) (by decide +kernel)) (fun _ _ _ _ _ => (g_nm 6 nd (by rfl) (by first | exact Or.inl rfl | exact Or.inr rfl) (by first | exact Or.inl rfl | exact Or.inr rfl))) (fun _ _ _ _ _ => ts_nil) (fun _ _ _ _ _ => (z_cal F.f__law_right takes0 hr (by rfl) (z_cons (z_var 6) (z_cons (z_var 1) z_nil)))) (by decide)))))) (s_cons (s_ret z_bl)
 s_nil) s_nil)
 (s_cons (s_for hp (by rfl) (i_rng (by rfl) F.b_range (z_mx2 (by rfl) (by rfl) F.b_max z_int (z_mn2 (by rfl) (by rfl) F.b_min (z_len hK (by rfl) F.b_len (z_var 0)) z_int))) (g_nm 2 nd (by rfl) (by first | exact Or.inl rfl | exact Or.inr rfl) (by first | exact Or.inl rfl | exact Or.inr rfl)) (s_cons (s_set 3 nd (by rfl) (by first | exact Or.inl rfl | exact Or.inr rfl) (z_cal F.f__law_pool tk hr (by rfl) (z_cons (z_var 0) (z_cons (z_var 2) z_nil))) (by first | exact Or.inl rfl | exact Or.inr rfl))
 (s_cons (s_set 4 nd (by rfl) (by first | exact Or.inl rfl | exact Or.inr rfl) (z_cal F.f__law_small tk hr (by rfl) (z_cons (z_var 3) z_nil)) (by first | exact Or.inl rfl | exact Or.inr rfl))
 (s_cons (s_if (z_not (z_tru hK (z_cal F.f__law_right tk hr (by rfl) (z_cons (z_var 4) (z_cons z_non z_nil))))) (s_cons (s_ret z_bl)
 s_nil) s_nil)
 (s_cons (s_for hp (by rfl) (i_rng (by rfl) F.b_range z_int) (g_nm 5 nd (by rfl) (by first | exact Or.inl rfl | exact Or.inr rfl) (by first | exact Or.inl rfl | exact Or.inr rfl)) (s_cons (s_if (z_not (z_tru hK (z_cal F.f__law_right tk hr (by rfl) (z_cons (z_cal F.f__law_bent tk hr (by rfl) (z_cons (z_var 3) (z_cons (z_var 4) z_nil))) (z_cons (z_ix hK (z_fz (z_lst (z_cons (z_var 1) (z_cons z_non (z_cons (z_tup (z_cons z_non z_nil)) z_nil))))) (z_mod (z_var 5) z_int)) z_nil))))) (s_cons (s_ret z_bl)
 s_nil) s_nil)
 s_nil))
 s_nil)))))
 (s_cons (s_ret z_bl)
 s_nil))))

theorem bq__law_sort {pq : Addr × Obj} (F : Fs P w K mg base c k) (hK : c.K = K) (hr : L2H.RoomH k (A.deeper (envOfC "_law_sort" (defScope (top 50)) s.heap.objs.size f cdv))) :
    PSs (cxQ P w K mg base N__law_sort "_law_sort" (defScope (top 50)) f cdv A outer s H E pq) (defBody (top 50)) (tS c (fun cls d _ H' => E cls d H') (mb__law_sort ⟨callN Pg k⟩)) := by
  have hu := roomQ_u hr
  have nd : (N__law_sort).Nodup := sc__law_sort.nd
  have tk : Takes (cxQ P w K mg base N__law_sort "_law_sort" (defScope (top 50)) f cdv A outer s H E pq) (fun cls d _ H' => E cls d H') := takes_of rfl rfl rfl rfl
  have hp : PassesOwn (model P w) (A.deeper (envOfC "_law_sort" (defScope (top 50)) s.heap.objs.size f cdv)) (envOfC "_law_sort" (defScope (top 50)) s.heap.objs.size f cdv) (cxQ P w K mg base N__law_sort "_law_sort" (defScope (top 50)) f cdv A outer s H E pq).xe := passes_of rfl
  delta mb__law_sort
  exact (s_cons (s_set 1 nd (by rfl) (by first | exact Or.inl rfl | exact Or.inr rfl) (z_fz (z_lst (z_cons (z_isx hK F.ex (by rfl) (by rfl) F.b_isinstance (z_var 0) (pcl_own (by rfl) F.e_NoCalls)) (z_cons (z_isx hK F.ex (by rfl) (by rfl) F.b_isinstance (z_var 0) (pcl_own (by rfl) F.e_NoDoffs)) (z_cons (z_isx hK F.ex (by rfl) (by rfl) F.b_isinstance (z_var 0) (pcl_own (by rfl) F.e_NoFrame)) (z_cons (z_isx hK F.ex (by rfl) (by rfl) F.b_isinstance (z_var 0) (pcl_own (by rfl) F.e_NoHand)) z_nil)))))) (by first | exact Or.inl rfl | exact Or.inr rfl))
 (s_cons (s_set 1 nd (by rfl) (by first | exact Or.inl rfl | exact Or.inr rfl) (z_fz (z_catL hK (z_var 1) (z_fz (z_lst (z_cons (z_isx hK F.ex (by rfl) (by rfl) F.b_isinstance (z_var 0) (pcl_own (by rfl) F.e_NoMany)) (z_cons (z_isx hK F.ex (by rfl) (by rfl) F.b_isinstance (z_var 0) (pcl_own (by rfl) F.e_NoMinds)) (z_cons (z_isx hK F.ex (by rfl) (by rfl) F.b_isinstance (z_var 0) (pcl_own (by rfl) F.e_NoMoment)) (z_cons (z_isx hK F.ex (by rfl) (by rfl) F.b_isinstance (z_var 0) (pcl_own (by rfl) F.e_NoPlain)) z_nil)))))))) (by first | exact Or.inl rfl | exact Or.inr rfl))
 (s_cons (s_set 1 nd (by rfl) (by first | exact Or.inl rfl | exact Or.inr rfl) (z_fz (z_catL hK (z_var 1) (z_fz (z_lst (z_cons (z_isx hK F.ex (by rfl) (by rfl) F.b_isinstance (z_var 0) (pcl_own (by rfl) F.e_NoRow)) (z_cons (z_isx hK F.ex (by rfl) (by rfl) F.b_isinstance (z_var 0) (pcl_own (by rfl) F.e_NoSmall)) (z_cons (z_isx hK F.ex (by rfl) (by rfl) F.b_isinstance (z_var 0) (pcl_own (by rfl) F.e_NoSpun)) (z_cons (z_isx hK F.ex (by rfl) (by rfl) F.b_isinstance (z_var 0) (pcl_own (by rfl) F.e_NoStory)) z_nil)))))))) (by first | exact Or.inl rfl | exact Or.inr rfl))
 (s_cons (s_set 1 nd (by rfl) (by first | exact Or.inl rfl | exact Or.inr rfl) (z_fz (z_catL hK (z_var 1) (z_fz (z_lst (z_cons (z_isx hK F.ex (by rfl) (by rfl) F.b_isinstance (z_var 0) (pcl_own (by rfl) F.e_NoStray)) (z_cons (z_isx hK F.ex (by rfl) (by rfl) F.b_isinstance (z_var 0) (pcl_own (by rfl) F.e_NoStrike)) (z_cons (z_isx hK F.ex (by rfl) (by rfl) F.b_isinstance (z_var 0) (pcl_own (by rfl) F.e_NoText)) (z_cons (z_isx hK F.ex (by rfl) (by rfl) F.b_isinstance (z_var 0) (pcl_own (by rfl) F.e_NoThread)) z_nil)))))))) (by first | exact Or.inl rfl | exact Or.inr rfl))
 (s_cons (s_set 1 nd (by rfl) (by first | exact Or.inl rfl | exact Or.inr rfl) (z_fz (z_catL hK (z_var 1) (z_fz (z_lst (z_cons (z_isx hK F.ex (by rfl) (by rfl) F.b_isinstance (z_var 0) (pcl_own (by rfl) F.e_NoWait)) (z_cons (z_isx hK F.ex (by rfl) (by rfl) F.b_isinstance (z_var 0) (pcl_own (by rfl) F.e_NoYard)) (z_cons (z_isx hK F.ex (by rfl) (by rfl) F.b_isinstance (z_var 0) (pcl_own (by rfl) F.e_TooMany)) z_nil))))))) (by first | exact Or.inl rfl | exact Or.inr rfl))
 (s_cons (s_if (z_or (z_cmpT (cok_ne hu hK) (z_cntL hK hu (z_var 1) z_bl) z_int) (z_or1 (z_not (z_tru hK (z_isx hK F.ex (by rfl) (by rfl) F.b_isinstance (z_var 0) (pcl_ve (by rfl) F.b_ValueError)))))).pt (s_cons (s_ret z_str)
 s_nil) s_nil)
 (s_cons (s_set 2 nd (by rfl) (by first | exact Or.inl rfl | exact Or.inr rfl) (z_fz (z_lst (z_cons z_str (z_cons z_str (z_cons z_str (z_cons z_str (z_cons z_str (z_cons z_str (z_cons z_str (z_cons z_str (z_cons z_str (z_cons z_str (z_cons z_str (z_cons z_str z_nil)))))))))))))) (by first | exact Or.inl rfl | exact Or.inr rfl))
 (s_cons (s_ret (z_ix hK (z_fz (z_catL hK (z_var 2) (z_fz (z_lst (z_cons z_str (z_cons z_str (z_cons z_str (z_cons z_str (z_cons z_str (z_cons z_str (z_cons z_str z_nil))))))))))) (z_idxL hK hu (z_var 1) z_bl)))
 s_nil))))))))

end
def dd_is_whole : He.DefD := ⟨("is_whole", none), "is_whole", "is_whole", defArgs (top 22), defBody (top 22), defScope (top 22), [], []⟩
def dd_is_between : He.DefD := ⟨("is_between", none), "is_between", "is_between", defArgs (top 23), defBody (top 23), defScope (top 23), [], []⟩
def dd_is_small_frame : He.DefD := ⟨("is_small_frame", none), "is_small_frame", "is_small_frame", defArgs (top 27), defBody (top 27), defScope (top 27), [], []⟩
def dd_are_small_walks : He.DefD := ⟨("are_small_walks", none), "are_small_walks", "are_small_walks", defArgs (top 28), defBody (top 28), defScope (top 28), [], []⟩
def dd_is_small_yard : He.DefD := ⟨("is_small_yard", none), "is_small_yard", "is_small_yard", defArgs (top 29), defBody (top 29), defScope (top 29), [], []⟩
def dd_is_small : He.DefD := ⟨("is_small", none), "is_small", "is_small", defArgs (top 31), defBody (top 31), defScope (top 31), [], []⟩
def dd_check_small : He.DefD := ⟨("check_small", none), "check_small", "check_small", defArgs (top 32), defBody (top 32), defScope (top 32), [], []⟩
def dd_played : He.DefD := ⟨("played", none), "played", "played", defArgs (top 43), defBody (top 43), defScope (top 43), [], []⟩
def dd_worst_story : He.DefD := ⟨("worst_story", none), "worst_story", "worst_story", defArgs (top 45), defBody (top 45), defScope (top 45), [], []⟩
def dd__law_pool : He.DefD := ⟨("_law_pool", none), "_law_pool", "_law_pool", defArgs (top 47), defBody (top 47), defScope (top 47), [], []⟩
def dd__law_take : He.DefD := ⟨("_law_take", none), "_law_take", "_law_take", defArgs (top 48), defBody (top 48), defScope (top 48), [], []⟩
def dd__law_small : He.DefD := ⟨("_law_small", none), "_law_small", "_law_small", defArgs (top 49), defBody (top 49), defScope (top 49), [], []⟩
def dd__law_sort : He.DefD := ⟨("_law_sort", none), "_law_sort", "_law_sort", defArgs (top 50), defBody (top 50), defScope (top 50), [], []⟩
def dd__law_bent : He.DefD := ⟨("_law_bent", none), "_law_bent", "_law_bent", defArgs (top 51), defBody (top 51), defScope (top 51), [], []⟩
def dd__law_number : He.DefD := ⟨("_law_number", none), "_law_number", "_law_number", defArgs (top 52), defBody (top 52), defScope (top 52), [], []⟩
def dd__law_are_frames : He.DefD := ⟨("_law_are_frames", none), "_law_are_frames", "_law_are_frames", defArgs (top 53), defBody (top 53), defScope (top 53), [], []⟩
def dd__law_are_walks : He.DefD := ⟨("_law_are_walks", none), "_law_are_walks", "_law_are_walks", defArgs (top 54), defBody (top 54), defScope (top 54), [], []⟩
def dd__law_is_small : He.DefD := ⟨("_law_is_small", none), "_law_is_small", "_law_is_small", defArgs (top 55), defBody (top 55), defScope (top 55), [], []⟩
def dd__law_asked : He.DefD := ⟨("_law_asked", none), "_law_asked", "_law_asked", defArgs (top 56), defBody (top 56), defScope (top 56), [], []⟩
def dd__law_right : He.DefD := ⟨("_law_right", none), "_law_right", "_law_right", defArgs (top 57), defBody (top 57), defScope (top 57), [], []⟩
def dd__law_at_bounds : He.DefD := ⟨("_law_at_bounds", none), "_law_at_bounds", "_law_at_bounds", defArgs (top 58), defBody (top 58), defScope (top 58), [], []⟩
def dd_law : He.DefD := ⟨("law", none), "law", "law", defArgs (top 59), defBody (top 59), defScope (top 59), [], []⟩
def fn : List He.DefD := [dd_is_whole, dd_is_between, dd_is_small_frame, dd_are_small_walks, dd_is_small_yard, dd_is_small, dd_check_small, dd_played, dd_worst_story, dd__law_pool, dd__law_take, dd__law_small, dd__law_sort, dd__law_bent, dd__law_number, dd__law_are_frames, dd__law_are_walks, dd__law_is_small, dd__law_asked, dd__law_right, dd__law_at_bounds, dd_law]
def fa : List He.Fa := [.glo "is_whole", .glo "is_between", .glo "is_small_frame", .glo "are_small_walks", .glo "is_small_yard", .glo "is_small", .glo "check_small", .glo "played", .glo "worst_story", .glo "_law_pool", .glo "_law_take", .glo "_law_small", .glo "_law_sort", .glo "_law_bent", .glo "_law_number", .glo "_law_are_frames", .glo "_law_are_walks", .glo "_law_is_small", .glo "_law_asked", .glo "_law_right", .glo "_law_at_bounds", .glo "law", .glo "DoffError", .glo "NoYard", .glo "NoFrame", .glo "NoHand", .glo "NoStray", .glo "NoMoment", .glo "NoWait", .glo "NoMany", .glo "NoMinds", .glo "NoSpun", .glo "NoThread", .glo "TooMany", .glo "NoStrike", .glo "NoPlain", .glo "NoSmall", .glo "NoStory", .glo "NoCalls", .glo "NoDoffs", .glo "NoRow", .glo "NoText", .glo "RULES", .exc "NoSmall", .exc "NoStory", .free "ValueError", .free "abs", .free "all", .free "bool", .free "divmod", .free "enumerate", .free "int", .free "isinstance", .free "len", .free "list", .free "max", .free "min", .free "range", .free "str", .free "sum", .free "tuple", .int "MOST_SMALL" 3]
def exNs : List Str := ["DoffError", "NoYard", "NoFrame", "NoHand", "NoStray", "NoMoment", "NoWait", "NoMany", "NoMinds", "NoSpun", "NoThread", "TooMany", "NoStrike", "NoPlain", "NoSmall", "NoStory", "NoCalls", "NoDoffs", "NoRow", "NoText"]
def exK (K : PySem.W.Frag) : Bool := exB exNs K && (tupSB "RULES" ["near", "old", "sort"] K && true)
theorem fs_all {P : Program} {w : World} {K : PySem.W.Frag} {mg : Str → Option Value} {base h : Heap} {c : Cn} (hK : c.K = K) (hE : c.eA = eAt K exNs) (X : K.In h) (G : h.Ns mainGlobals mg) (cZ : SaysZ fa fn exK K) : ∀ k, Fs P w K mg base c k := by
  have cS := cZ.d
  obtain ⟨fd_is_whole, F_is_whole⟩ := cS.def_ 0 (d := dd_is_whole) rfl
  have g_is_whole := He.glo_ok X G (cS.fact 0 (f := .glo "is_whole") rfl)
  have n_is_whole : Binds K fd_is_whole ["x"] [] := FunD.bindsN (ps := ["x"]) F_is_whole fun _ _ _ _ _ _ us hl => match us, hl with | [_], _ => rfl
  obtain ⟨fd_is_between, F_is_between⟩ := cS.def_ 1 (d := dd_is_between) rfl
  have g_is_between := He.glo_ok X G (cS.fact 1 (f := .glo "is_between") rfl)
  have n_is_between : Binds K fd_is_between ["x", "low", "high"] [] := FunD.bindsN (ps := ["x", "low", "high"]) F_is_between fun _ _ _ _ _ _ us hl => match us, hl with | [_, _, _], _ => rfl
  obtain ⟨fd_is_small_frame, F_is_small_frame⟩ := cS.def_ 2 (d := dd_is_small_frame) rfl
  have g_is_small_frame := He.glo_ok X G (cS.fact 2 (f := .glo "is_small_frame") rfl)
  have n_is_small_frame : Binds K fd_is_small_frame ["thing"] [] := FunD.bindsN (ps := ["thing"]) F_is_small_frame fun _ _ _ _ _ _ us hl => match us, hl with | [_], _ => rfl
  obtain ⟨fd_are_small_walks, F_are_small_walks⟩ := cS.def_ 3 (d := dd_are_small_walks) rfl
  have g_are_small_walks := He.glo_ok X G (cS.fact 3 (f := .glo "are_small_walks") rfl)
  have n_are_small_walks : Binds K fd_are_small_walks ["thing", "many"] [] := FunD.bindsN (ps := ["thing", "many"]) F_are_small_walks fun _ _ _ _ _ _ us hl => match us, hl with | [_, _], _ => rfl
  obtain ⟨fd_is_small_yard, F_is_small_yard⟩ := cS.def_ 4 (d := dd_is_small_yard) rfl
  have g_is_small_yard := He.glo_ok X G (cS.fact 4 (f := .glo "is_small_yard") rfl)
  have n_is_small_yard : Binds K fd_is_small_yard ["thing"] [] := FunD.bindsN (ps := ["thing"]) F_is_small_yard fun _ _ _ _ _ _ us hl => match us, hl with | [_], _ => rfl
  obtain ⟨fd_is_small, F_is_small⟩ := cS.def_ 5 (d := dd_is_small) rfl
  have g_is_small := He.glo_ok X G (cS.fact 5 (f := .glo "is_small") rfl)
  have n_is_small : Binds K fd_is_small ["thing"] [] := FunD.bindsN (ps := ["thing"]) F_is_small fun _ _ _ _ _ _ us hl => match us, hl with | [_], _ => rfl
  obtain ⟨fd_check_small, F_check_small⟩ := cS.def_ 6 (d := dd_check_small) rfl
  have g_check_small := He.glo_ok X G (cS.fact 6 (f := .glo "check_small") rfl)
  have n_check_small : Binds K fd_check_small ["small"] [] := FunD.bindsN (ps := ["small"]) F_check_small fun _ _ _ _ _ _ us hl => match us, hl with | [_], _ => rfl
  obtain ⟨fd_played, F_played⟩ := cS.def_ 7 (d := dd_played) rfl
  have g_played := He.glo_ok X G (cS.fact 7 (f := .glo "played") rfl)
  have n_played : Binds K fd_played ["small", "story"] [] := FunD.bindsN (ps := ["small", "story"]) F_played fun _ _ _ _ _ _ us hl => match us, hl with | [_, _], _ => rfl
  obtain ⟨fd_worst_story, F_worst_story⟩ := cS.def_ 8 (d := dd_worst_story) rfl
  have g_worst_story := He.glo_ok X G (cS.fact 8 (f := .glo "worst_story") rfl)
  have n_worst_story : Binds K fd_worst_story ["small"] [] := FunD.bindsN (ps := ["small"]) F_worst_story fun _ _ _ _ _ _ us hl => match us, hl with | [_], _ => rfl
  obtain ⟨fd__law_pool, F__law_pool⟩ := cS.def_ 9 (d := dd__law_pool) rfl
  have g__law_pool := He.glo_ok X G (cS.fact 9 (f := .glo "_law_pool") rfl)
  have n__law_pool : Binds K fd__law_pool ["_law_script", "_law_k"] [] := FunD.bindsN (ps := ["_law_script", "_law_k"]) F__law_pool fun _ _ _ _ _ _ us hl => match us, hl with | [_, _], _ => rfl
  obtain ⟨fd__law_take, F__law_take⟩ := cS.def_ 10 (d := dd__law_take) rfl
  have g__law_take := He.glo_ok X G (cS.fact 10 (f := .glo "_law_take") rfl)
  have n__law_take : Binds K fd__law_take ["_law_pool_here", "_law_many"] [] := FunD.bindsN (ps := ["_law_pool_here", "_law_many"]) F__law_take fun _ _ _ _ _ _ us hl => match us, hl with | [_, _], _ => rfl
  obtain ⟨fd__law_small, F__law_small⟩ := cS.def_ 11 (d := dd__law_small) rfl
  have g__law_small := He.glo_ok X G (cS.fact 11 (f := .glo "_law_small") rfl)
  have n__law_small : Binds K fd__law_small ["_law_pool_here"] [] := FunD.bindsN (ps := ["_law_pool_here"]) F__law_small fun _ _ _ _ _ _ us hl => match us, hl with | [_], _ => rfl
  obtain ⟨fd__law_sort, F__law_sort⟩ := cS.def_ 12 (d := dd__law_sort) rfl
  have g__law_sort := He.glo_ok X G (cS.fact 12 (f := .glo "_law_sort") rfl)
  have n__law_sort : Binds K fd__law_sort ["_law_e"] [] := FunD.bindsN (ps := ["_law_e"]) F__law_sort fun _ _ _ _ _ _ us hl => match us, hl with | [_], _ => rfl
  obtain ⟨fd__law_bent, F__law_bent⟩ := cS.def_ 13 (d := dd__law_bent) rfl
  have g__law_bent := He.glo_ok X G (cS.fact 13 (f := .glo "_law_bent") rfl)
  have n__law_bent : Binds K fd__law_bent ["_law_pool_here", "_law_thing"] [] := FunD.bindsN (ps := ["_law_pool_here", "_law_thing"]) F__law_bent fun _ _ _ _ _ _ us hl => match us, hl with | [_, _], _ => rfl
  obtain ⟨fd__law_number, F__law_number⟩ := cS.def_ 14 (d := dd__law_number) rfl
  have g__law_number := He.glo_ok X G (cS.fact 14 (f := .glo "_law_number") rfl)
  have n__law_number : Binds K fd__law_number ["_law_thing", "_law_low", "_law_high"] [] := FunD.bindsN (ps := ["_law_thing", "_law_low", "_law_high"]) F__law_number fun _ _ _ _ _ _ us hl => match us, hl with | [_, _, _], _ => rfl
  obtain ⟨fd__law_are_frames, F__law_are_frames⟩ := cS.def_ 15 (d := dd__law_are_frames) rfl
  have g__law_are_frames := He.glo_ok X G (cS.fact 15 (f := .glo "_law_are_frames") rfl)
  have n__law_are_frames : Binds K fd__law_are_frames ["_law_thing"] [] := FunD.bindsN (ps := ["_law_thing"]) F__law_are_frames fun _ _ _ _ _ _ us hl => match us, hl with | [_], _ => rfl
  obtain ⟨fd__law_are_walks, F__law_are_walks⟩ := cS.def_ 16 (d := dd__law_are_walks) rfl
  have g__law_are_walks := He.glo_ok X G (cS.fact 16 (f := .glo "_law_are_walks") rfl)
  have n__law_are_walks : Binds K fd__law_are_walks ["_law_thing", "_law_many"] [] := FunD.bindsN (ps := ["_law_thing", "_law_many"]) F__law_are_walks fun _ _ _ _ _ _ us hl => match us, hl with | [_, _], _ => rfl
  obtain ⟨fd__law_is_small, F__law_is_small⟩ := cS.def_ 17 (d := dd__law_is_small) rfl
  have g__law_is_small := He.glo_ok X G (cS.fact 17 (f := .glo "_law_is_small") rfl)
  have n__law_is_small : Binds K fd__law_is_small ["_law_thing"] [] := FunD.bindsN (ps := ["_law_thing"]) F__law_is_small fun _ _ _ _ _ _ us hl => match us, hl with | [_], _ => rfl
  obtain ⟨fd__law_asked, F__law_asked⟩ := cS.def_ 18 (d := dd__law_asked) rfl
  have g__law_asked := He.glo_ok X G (cS.fact 18 (f := .glo "_law_asked") rfl)
  have n__law_asked : Binds K fd__law_asked ["_law_door", "_law_thing", "_law_story"] [] := FunD.bindsN (ps := ["_law_door", "_law_thing", "_law_story"]) F__law_asked fun _ _ _ _ _ _ us hl => match us, hl with | [_, _, _], _ => rfl
  obtain ⟨fd__law_right, F__law_right⟩ := cS.def_ 19 (d := dd__law_right) rfl
  have g__law_right := He.glo_ok X G (cS.fact 19 (f := .glo "_law_right") rfl)
  have n__law_right : Binds K fd__law_right ["_law_thing", "_law_story"] [] := FunD.bindsN (ps := ["_law_thing", "_law_story"]) F__law_right fun _ _ _ _ _ _ us hl => match us, hl with | [_, _], _ => rfl
  obtain ⟨fd__law_at_bounds, F__law_at_bounds⟩ := cS.def_ 20 (d := dd__law_at_bounds) rfl
  have g__law_at_bounds := He.glo_ok X G (cS.fact 20 (f := .glo "_law_at_bounds") rfl)
  have n__law_at_bounds : Binds K fd__law_at_bounds [] [] := FunD.bindsN (ps := []) F__law_at_bounds fun _ _ _ _ _ _ us hl => match us, hl with | [], _ => rfl
  obtain ⟨fd_law, F_law⟩ := cS.def_ 21 (d := dd_law) rfl
  have g_law := He.glo_ok X G (cS.fact 21 (f := .glo "law") rfl)
  have n_law : Binds K fd_law ["_law_script"] [] := FunD.bindsN (ps := ["_law_script"]) F_law fun _ _ _ _ _ _ us hl => match us, hl with | [_], _ => rfl
  have e_DoffError : mg "DoffError" = some (.ref (c.eA 0)) := by
    rw [hE]
    exact He.glo_ok X G (cS.fact 22 (f := .glo "DoffError") rfl)
  have e_NoYard : mg "NoYard" = some (.ref (c.eA 1)) := by
    rw [hE]
    exact He.glo_ok X G (cS.fact 23 (f := .glo "NoYard") rfl)
  have e_NoFrame : mg "NoFrame" = some (.ref (c.eA 2)) := by
    rw [hE]
    exact He.glo_ok X G (cS.fact 24 (f := .glo "NoFrame") rfl)
  have e_NoHand : mg "NoHand" = some (.ref (c.eA 3)) := by
    rw [hE]
    exact He.glo_ok X G (cS.fact 25 (f := .glo "NoHand") rfl)
  have e_NoStray : mg "NoStray" = some (.ref (c.eA 4)) := by
    rw [hE]
    exact He.glo_ok X G (cS.fact 26 (f := .glo "NoStray") rfl)
  have e_NoMoment : mg "NoMoment" = some (.ref (c.eA 5)) := by
    rw [hE]
    exact He.glo_ok X G (cS.fact 27 (f := .glo "NoMoment") rfl)
  have e_NoWait : mg "NoWait" = some (.ref (c.eA 6)) := by
    rw [hE]
    exact He.glo_ok X G (cS.fact 28 (f := .glo "NoWait") rfl)
  have e_NoMany : mg "NoMany" = some (.ref (c.eA 7)) := by
    rw [hE]
    exact He.glo_ok X G (cS.fact 29 (f := .glo "NoMany") rfl)
  have e_NoMinds : mg "NoMinds" = some (.ref (c.eA 8)) := by
    rw [hE]
    exact He.glo_ok X G (cS.fact 30 (f := .glo "NoMinds") rfl)
  have e_NoSpun : mg "NoSpun" = some (.ref (c.eA 9)) := by
    rw [hE]
    exact He.glo_ok X G (cS.fact 31 (f := .glo "NoSpun") rfl)
  have e_NoThread : mg "NoThread" = some (.ref (c.eA 10)) := by
    rw [hE]
    exact He.glo_ok X G (cS.fact 32 (f := .glo "NoThread") rfl)
  have e_TooMany : mg "TooMany" = some (.ref (c.eA 11)) := by
    rw [hE]
    exact He.glo_ok X G (cS.fact 33 (f := .glo "TooMany") rfl)
  have e_NoStrike : mg "NoStrike" = some (.ref (c.eA 12)) := by
    rw [hE]
    exact He.glo_ok X G (cS.fact 34 (f := .glo "NoStrike") rfl)
  have e_NoPlain : mg "NoPlain" = some (.ref (c.eA 13)) := by
    rw [hE]
    exact He.glo_ok X G (cS.fact 35 (f := .glo "NoPlain") rfl)
  have e_NoSmall : mg "NoSmall" = some (.ref (c.eA 14)) := by
    rw [hE]
    exact He.glo_ok X G (cS.fact 36 (f := .glo "NoSmall") rfl)
  have e_NoStory : mg "NoStory" = some (.ref (c.eA 15)) := by
    rw [hE]
    exact He.glo_ok X G (cS.fact 37 (f := .glo "NoStory") rfl)
  have e_NoCalls : mg "NoCalls" = some (.ref (c.eA 16)) := by
    rw [hE]
    exact He.glo_ok X G (cS.fact 38 (f := .glo "NoCalls") rfl)
  have e_NoDoffs : mg "NoDoffs" = some (.ref (c.eA 17)) := by
    rw [hE]
    exact He.glo_ok X G (cS.fact 39 (f := .glo "NoDoffs") rfl)
  have e_NoRow : mg "NoRow" = some (.ref (c.eA 18)) := by
    rw [hE]
    exact He.glo_ok X G (cS.fact 40 (f := .glo "NoRow") rfl)
  have e_NoText : mg "NoText" = some (.ref (c.eA 19)) := by
    rw [hE]
    exact He.glo_ok X G (cS.fact 41 (f := .glo "NoText") rfl)
  have g_RULES := He.glo_ok X G (cS.fact 42 (f := .glo "RULES") rfl)
  intro k
  induction k with
  | zero => exact { e_DoffError := e_DoffError, e_NoYard := e_NoYard, e_NoFrame := e_NoFrame, e_NoHand := e_NoHand, e_NoStray := e_NoStray, e_NoMoment := e_NoMoment, e_NoWait := e_NoWait, e_NoMany := e_NoMany, e_NoMinds := e_NoMinds, e_NoSpun := e_NoSpun, e_NoThread := e_NoThread, e_TooMany := e_TooMany, e_NoStrike := e_NoStrike, e_NoPlain := e_NoPlain, e_NoSmall := e_NoSmall, e_NoStory := e_NoStory, e_NoCalls := e_NoCalls, e_NoDoffs := e_NoDoffs, e_NoRow := e_NoRow, e_NoText := e_NoText, g_RULES := g_RULES, t_RULES := tupSB_ok (ba2 (ba2 cZ.more).2).1, r_NoSmall := Rsb.of e_NoSmall (by rw [hE]; rfl) (cS.fact 43 (f := .exc "NoSmall") rfl), r_NoStory := Rsb.of e_NoStory (by rw [hE]; rfl) (cS.fact 44 (f := .exc "NoStory") rfl), ex := by rw [hE]; exact exB_ok (ba2 cZ.more).1, b_ValueError := He.free_ok X G (cS.fact 45 (f := .free "ValueError") rfl), b_abs := He.free_ok X G (cS.fact 46 (f := .free "abs") rfl), b_all := He.free_ok X G (cS.fact 47 (f := .free "all") rfl), b_bool := He.free_ok X G (cS.fact 48 (f := .free "bool") rfl), b_divmod := He.free_ok X G (cS.fact 49 (f := .free "divmod") rfl), b_enumerate := He.free_ok X G (cS.fact 50 (f := .free "enumerate") rfl), b_int := He.free_ok X G (cS.fact 51 (f := .free "int") rfl), b_isinstance := He.free_ok X G (cS.fact 52 (f := .free "isinstance") rfl), b_len := He.free_ok X G (cS.fact 53 (f := .free "len") rfl), b_list := He.free_ok X G (cS.fact 54 (f := .free "list") rfl), b_max := He.free_ok X G (cS.fact 55 (f := .free "max") rfl), b_min := He.free_ok X G (cS.fact 56 (f := .free "min") rfl), b_range := He.free_ok X G (cS.fact 57 (f := .free "range") rfl), b_str := He.free_ok X G (cS.fact 58 (f := .free "str") rfl), b_sum := He.free_ok X G (cS.fact 59 (f := .free "sum") rfl), b_tuple := He.free_ok X G (cS.fact 60 (f := .free "tuple") rfl), i_MOST_SMALL := He.int_ok X G (cS.fact 61 (f := .int "MOST_SMALL" 3) rfl), f_is_whole := ⟨_, fd_is_whole, ["x"], g_is_whole, F_is_whole.kp, n_is_whole, fn_zero⟩, f_is_between := ⟨_, fd_is_between, ["x", "low", "high"], g_is_between, F_is_between.kp, n_is_between, fn_zero⟩, f_is_small_frame := ⟨_, fd_is_small_frame, ["thing"], g_is_small_frame, F_is_small_frame.kp, n_is_small_frame, fn_zero⟩, f_are_small_walks := ⟨_, fd_are_small_walks, ["thing", "many"], g_are_small_walks, F_are_small_walks.kp, n_are_small_walks, fn_zero⟩, f_is_small_yard := ⟨_, fd_is_small_yard, ["thing"], g_is_small_yard, F_is_small_yard.kp, n_is_small_yard, fn_zero⟩, f_is_small := ⟨_, fd_is_small, ["thing"], g_is_small, F_is_small.kp, n_is_small, fn_zero⟩, f_check_small := ⟨_, fd_check_small, ["small"], g_check_small, F_check_small.kp, n_check_small, fn_zero⟩, f_played := ⟨_, fd_played, ["small", "story"], g_played, F_played.kp, n_played, fn_zero⟩, f_worst_story := ⟨_, fd_worst_story, ["small"], g_worst_story, F_worst_story.kp, n_worst_story, fn_zero⟩, f__law_pool := ⟨_, fd__law_pool, ["_law_script", "_law_k"], g__law_pool, F__law_pool.kp, n__law_pool, fn_zero⟩, f__law_take := ⟨_, fd__law_take, ["_law_pool_here", "_law_many"], g__law_take, F__law_take.kp, n__law_take, fn_zero⟩, f__law_small := ⟨_, fd__law_small, ["_law_pool_here"], g__law_small, F__law_small.kp, n__law_small, fn_zero⟩, f__law_sort := ⟨_, fd__law_sort, ["_law_e"], g__law_sort, F__law_sort.kp, n__law_sort, fn_zero⟩, f__law_bent := ⟨_, fd__law_bent, ["_law_pool_here", "_law_thing"], g__law_bent, F__law_bent.kp, n__law_bent, fn_zero⟩, f__law_number := ⟨_, fd__law_number, ["_law_thing", "_law_low", "_law_high"], g__law_number, F__law_number.kp, n__law_number, fn_zero⟩, f__law_are_frames := ⟨_, fd__law_are_frames, ["_law_thing"], g__law_are_frames, F__law_are_frames.kp, n__law_are_frames, fn_zero⟩, f__law_are_walks := ⟨_, fd__law_are_walks, ["_law_thing", "_law_many"], g__law_are_walks, F__law_are_walks.kp, n__law_are_walks, fn_zero⟩, f__law_is_small := ⟨_, fd__law_is_small, ["_law_thing"], g__law_is_small, F__law_is_small.kp, n__law_is_small, fn_zero⟩, f__law_asked := ⟨_, fd__law_asked, ["_law_door", "_law_thing", "_law_story"], g__law_asked, F__law_asked.kp, n__law_asked, fn_zero⟩, f__law_right := ⟨_, fd__law_right, ["_law_thing", "_law_story"], g__law_right, F__law_right.kp, n__law_right, fn_zero⟩, f__law_at_bounds := ⟨_, fd__law_at_bounds, [], g__law_at_bounds, F__law_at_bounds.kp, n__law_at_bounds, fn_zero⟩, f_law := ⟨_, fd_law, ["_law_script"], g_law, F_law.kp, n_law, fn_zero⟩, q__law_sort := ⟨_, fd__law_sort, ["_law_e"], g__law_sort, F__law_sort.kp, n__law_sort, fnq_zero⟩ }
  | succ k ih => exact { e_DoffError := e_DoffError, e_NoYard := e_NoYard, e_NoFrame := e_NoFrame, e_NoHand := e_NoHand, e_NoStray := e_NoStray, e_NoMoment := e_NoMoment, e_NoWait := e_NoWait, e_NoMany := e_NoMany, e_NoMinds := e_NoMinds, e_NoSpun := e_NoSpun, e_NoThread := e_NoThread, e_TooMany := e_TooMany, e_NoStrike := e_NoStrike, e_NoPlain := e_NoPlain, e_NoSmall := e_NoSmall, e_NoStory := e_NoStory, e_NoCalls := e_NoCalls, e_NoDoffs := e_NoDoffs, e_NoRow := e_NoRow, e_NoText := e_NoText, g_RULES := g_RULES, t_RULES := tupSB_ok (ba2 (ba2 cZ.more).2).1, r_NoSmall := Rsb.of e_NoSmall (by rw [hE]; rfl) (cS.fact 43 (f := .exc "NoSmall") rfl), r_NoStory := Rsb.of e_NoStory (by rw [hE]; rfl) (cS.fact 44 (f := .exc "NoStory") rfl), ex := by rw [hE]; exact exB_ok (ba2 cZ.more).1, b_ValueError := He.free_ok X G (cS.fact 45 (f := .free "ValueError") rfl), b_abs := He.free_ok X G (cS.fact 46 (f := .free "abs") rfl), b_all := He.free_ok X G (cS.fact 47 (f := .free "all") rfl), b_bool := He.free_ok X G (cS.fact 48 (f := .free "bool") rfl), b_divmod := He.free_ok X G (cS.fact 49 (f := .free "divmod") rfl), b_enumerate := He.free_ok X G (cS.fact 50 (f := .free "enumerate") rfl), b_int := He.free_ok X G (cS.fact 51 (f := .free "int") rfl), b_isinstance := He.free_ok X G (cS.fact 52 (f := .free "isinstance") rfl), b_len := He.free_ok X G (cS.fact 53 (f := .free "len") rfl), b_list := He.free_ok X G (cS.fact 54 (f := .free "list") rfl), b_max := He.free_ok X G (cS.fact 55 (f := .free "max") rfl), b_min := He.free_ok X G (cS.fact 56 (f := .free "min") rfl), b_range := He.free_ok X G (cS.fact 57 (f := .free "range") rfl), b_str := He.free_ok X G (cS.fact 58 (f := .free "str") rfl), b_sum := He.free_ok X G (cS.fact 59 (f := .free "sum") rfl), b_tuple := He.free_ok X G (cS.fact 60 (f := .free "tuple") rfl), i_MOST_SMALL := He.int_ok X G (cS.fact 61 (f := .int "MOST_SMALL" 3) rfl), f_is_whole := ⟨_, fd_is_whole, ["x"], g_is_whole, F_is_whole.kp, n_is_whole, fn_means F_is_whole sc_is_whole (rfl : Pg[0]? = some m_is_whole) rfl rfl (by decide) fun cdv A outer s H E hr => b_is_whole ih hK hr⟩, f_is_between := ⟨_, fd_is_between, ["x", "low", "high"], g_is_between, F_is_between.kp, n_is_between, fn_means F_is_between sc_is_between (rfl : Pg[1]? = some m_is_between) rfl rfl (by decide) fun cdv A outer s H E hr => b_is_between ih hK hr⟩, f_is_small_frame := ⟨_, fd_is_small_frame, ["thing"], g_is_small_frame, F_is_small_frame.kp, n_is_small_frame, fn_means F_is_small_frame sc_is_small_frame (rfl : Pg[2]? = some m_is_small_frame) rfl rfl (by decide) fun cdv A outer s H E hr => b_is_small_frame ih hK hr⟩, f_are_small_walks := ⟨_, fd_are_small_walks, ["thing", "many"], g_are_small_walks, F_are_small_walks.kp, n_are_small_walks, fn_means F_are_small_walks sc_are_small_walks (rfl : Pg[3]? = some m_are_small_walks) rfl rfl (by decide) fun cdv A outer s H E hr => b_are_small_walks ih hK hr⟩, f_is_small_yard := ⟨_, fd_is_small_yard, ["thing"], g_is_small_yard, F_is_small_yard.kp, n_is_small_yard, fn_means F_is_small_yard sc_is_small_yard (rfl : Pg[4]? = some m_is_small_yard) rfl rfl (by decide) fun cdv A outer s H E hr => b_is_small_yard ih hK hr⟩, f_is_small := ⟨_, fd_is_small, ["thing"], g_is_small, F_is_small.kp, n_is_small, fn_means F_is_small sc_is_small (rfl : Pg[5]? = some m_is_small) rfl rfl (by decide) fun cdv A outer s H E hr => b_is_small ih hK hr⟩, f_check_small := ⟨_, fd_check_small, ["small"], g_check_small, F_check_small.kp, n_check_small, fn_means F_check_small sc_check_small (rfl : Pg[6]? = some m_check_small) rfl rfl (by decide) fun cdv A outer s H E hr => b_check_small ih hK hr⟩, f_played := ⟨_, fd_played, ["small", "story"], g_played, F_played.kp, n_played, fn_means F_played sc_played (rfl : Pg[17]? = some m_played) rfl rfl (by decide) fun cdv A outer s H E hr => b_played ih hK hr⟩, f_worst_story := ⟨_, fd_worst_story, ["small"], g_worst_story, F_worst_story.kp, n_worst_story, fn_means F_worst_story sc_worst_story (rfl : Pg[18]? = some m_worst_story) rfl rfl (by decide) fun cdv A outer s H E hr => b_worst_story ih hK hr⟩, f__law_pool := ⟨_, fd__law_pool, ["_law_script", "_law_k"], g__law_pool, F__law_pool.kp, n__law_pool, fn_means F__law_pool sc__law_pool (rfl : Pg[19]? = some m__law_pool) rfl rfl (by decide) fun cdv A outer s H E hr => b__law_pool ih hK hr⟩, f__law_take := ⟨_, fd__law_take, ["_law_pool_here", "_law_many"], g__law_take, F__law_take.kp, n__law_take, fn_means F__law_take sc__law_take (rfl : Pg[20]? = some m__law_take) rfl rfl (by decide) fun cdv A outer s H E hr => b__law_take ih hK hr⟩, f__law_small := ⟨_, fd__law_small, ["_law_pool_here"], g__law_small, F__law_small.kp, n__law_small, fn_means F__law_small sc__law_small (rfl : Pg[21]? = some m__law_small) rfl rfl (by decide) fun cdv A outer s H E hr => b__law_small ih hK hr⟩, f__law_sort := ⟨_, fd__law_sort, ["_law_e"], g__law_sort, F__law_sort.kp, n__law_sort, fn_means F__law_sort sc__law_sort (rfl : Pg[22]? = some m__law_sort) rfl rfl (by decide) fun cdv A outer s H E hr => b__law_sort ih hK hr⟩, f__law_bent := ⟨_, fd__law_bent, ["_law_pool_here", "_law_thing"], g__law_bent, F__law_bent.kp, n__law_bent, fn_means F__law_bent sc__law_bent (rfl : Pg[23]? = some m__law_bent) rfl rfl (by decide) fun cdv A outer s H E hr => b__law_bent ih hK hr⟩, f__law_number := ⟨_, fd__law_number, ["_law_thing", "_law_low", "_law_high"], g__law_number, F__law_number.kp, n__law_number, fn_means F__law_number sc__law_number (rfl : Pg[24]? = some m__law_number) rfl rfl (by decide) fun cdv A outer s H E hr => b__law_number ih hK hr⟩, f__law_are_frames := ⟨_, fd__law_are_frames, ["_law_thing"], g__law_are_frames, F__law_are_frames.kp, n__law_are_frames, fn_means F__law_are_frames sc__law_are_frames (rfl : Pg[25]? = some m__law_are_frames) rfl rfl (by decide) fun cdv A outer s H E hr => b__law_are_frames ih hK hr⟩, f__law_are_walks := ⟨_, fd__law_are_walks, ["_law_thing", "_law_many"], g__law_are_walks, F__law_are_walks.kp, n__law_are_walks, fn_means F__law_are_walks sc__law_are_walks (rfl : Pg[26]? = some m__law_are_walks) rfl rfl (by decide) fun cdv A outer s H E hr => b__law_are_walks ih hK hr⟩, f__law_is_small := ⟨_, fd__law_is_small, ["_law_thing"], g__law_is_small, F__law_is_small.kp, n__law_is_small, fn_means F__law_is_small sc__law_is_small (rfl : Pg[27]? = some m__law_is_small) rfl rfl (by decide) fun cdv A outer s H E hr => b__law_is_small ih hK hr⟩, f__law_asked := ⟨_, fd__law_asked, ["_law_door", "_law_thing", "_law_story"], g__law_asked, F__law_asked.kp, n__law_asked, fn_means F__law_asked sc__law_asked (rfl : Pg[28]? = some m__law_asked) rfl rfl (by decide) fun cdv A outer s H E hr => b__law_asked ih hK hr⟩, f__law_right := ⟨_, fd__law_right, ["_law_thing", "_law_story"], g__law_right, F__law_right.kp, n__law_right, fn_means F__law_right sc__law_right (rfl : Pg[29]? = some m__law_right) rfl rfl (by decide) fun cdv A outer s H E hr => b__law_right ih hK hr⟩, f__law_at_bounds := ⟨_, fd__law_at_bounds, [], g__law_at_bounds, F__law_at_bounds.kp, n__law_at_bounds, fn_means F__law_at_bounds sc__law_at_bounds (rfl : Pg[30]? = some m__law_at_bounds) rfl rfl (by decide) fun cdv A outer s H E hr => b__law_at_bounds ih hK hr⟩, f_law := ⟨_, fd_law, ["_law_script"], g_law, F_law.kp, n_law, fn_means F_law sc_law (rfl : Pg[31]? = some m_law) rfl rfl (by decide) fun cdv A outer s H E hr => b_law ih hK hr⟩, q__law_sort := ⟨_, fd__law_sort, ["_law_e"], g__law_sort, F__law_sort.kp, n__law_sort, fnq_means F__law_sort sc__law_sort (rfl : Pg[22]? = some m__law_sort) rfl rfl (by decide) fun cdv A outer s H E p hr => bq__law_sort ih hK hr⟩ }
def loose0 : List PySem.Str := ["DoffError", "NoYard", "NoFrame", "NoHand", "NoStray", "NoMoment", "NoWait", "NoMany", "NoMinds", "NoSpun", "NoThread", "TooMany", "NoStrike", "NoPlain", "NoSmall", "NoStory", "NoCalls", "NoDoffs", "NoRow", "NoText", "is_whole", "is_between", "MOST_SMALL", "RULES", "is_small_frame", "are_small_walks", "is_small_yard", "is_small", "check_small", "threads_of"]
def loose1 : List PySem.Str := ["first_state", "rank_by", "hand_with_job", "spinning", "may_break", "behind", "some_of", "walked", "are_threads", "played", "Paths", "worst_story", "_law_pool", "_law_take", "_law_small", "_law_sort", "_law_bent", "_law_number", "_law_are_frames", "_law_are_walks", "_law_is_small", "_law_asked", "_law_right", "_law_at_bounds"]
def loose : List PySem.Str := loose0 ++ loose1
abbrev R : PySem.W.OpenRow := PySem.W.OpenLaw.row PySem.Challenge.rw_doffyard_k34_what_small_yards_are
abbrev hk : PySem.W.Hook := hookZ 4 fa fn exK
def ob (s : PySem.W.SharedT) : AlZ := obsZG 4 fa fn exK (HandSHeadRun.getT s)
theorem ob_eq (s : PySem.W.SharedT) : ob s = hk.obs s.abs := obsZG_eq (HandSHeadRun.getT_eq s)
theorem run (w : World) : HandSHeadRun.RunEq R (PySem.W.view R.prog [59]) hk ob 6000 loose w := by
  intro os
  kernel_rfl
/-- all is well, if the law's meaning says so -/
theorem holds_of (hl : ∀ ns : List Int, ns.length ≤ 63 → ∃ A', callN Pg 11 31 [.lst (ns.map .int)] [] = some (.ok (.bl true) A')) : PySem.W.OpenLaw.Holds PySem.Challenge.rw_doffyard_k34_what_small_yards_are := by
  w_on; o_law
  refine HandSHeadRun.head_any (r := PySem.W.OpenLaw.row PySem.Challenge.rw_doffyard_k34_what_small_yards_are) (q := PySem.W.view (PySem.W.OpenLaw.row PySem.Challenge.rw_doffyard_k34_what_small_yards_are).prog [59]) (H := hk) (ob := ob) (M := 6000) (loose := loose) (d := HandSHeadRun.topDef (PySem.W.OpenLaw.row PySem.Challenge.rw_doffyard_k34_what_small_yards_are).prog 59) (kwd := []) ob_eq
    (by kernel_rfl) (fun s => by kernel_rfl) run (by kernel_rfl) (by kernel_rfl) (by kernel_rfl) (by rfl) (by first | assumption | decide +kernel) (by decide +kernel) ⟨rfl, rfl, rfl, rfl, rfl, by decide +kernel⟩ ?hw ?hc
  case hw => w_witness2
  case hc =>
    refine walkZ (l := PySem.Challenge.rw_doffyard_k34_what_small_yards_are) (n := 63) (k := 11) (x := "_law_script") rfl (by decide) (by kernel_rfl) ⟨rfl, by decide, by decide⟩ fun w mg fa h Y G hmg0 => ?_
    obtain ⟨K, KX, cZ⟩ := Y
    have cS := cZ.d
    have hmg : mg ("law" : PySem.Str) = some (.ref fa) := by
      have e : (HandSHeadRun.topDef (PySem.W.OpenLaw.row PySem.Challenge.rw_doffyard_k34_what_small_yards_are).prog 59).name = ("law" : PySem.Str) := by kernel_rfl
      rw [← e]
      exact hmg0
    obtain ⟨fd, Fd⟩ := cS.def_ 21 (d := dd_law) rfl
    have e := hmg.symm.trans (He.glo_ok KX G (cS.fact 21 (f := .glo "law") rfl))
    cases e
    have bn := FunD.bindsA (ps := ["_law_script"]) Fd fun _ _ _ _ _ _ us hl => match us, hl with | [_], _ => rfl
    refine ⟨K, fd, spF ⟨K, fun _ => 0, eAt K exNs, PySem.W.OpenLaw.prog PySem.Challenge.rw_doffyard_k34_what_small_yards_are, w⟩ (callN Pg 11 31), KX, fun s v => bn s [v] rfl, fun H a ns hz hO hS => law_start hO hS (hl ns hz), fun base X2 G2 => ?_⟩
    exact fn_means Fd sc_law (rfl : Pg[31]? = some m_law) rfl rfl (by decide) fun cdv A outer s H E hr => b_law (fs_all (K := K) (c := ⟨K, fun _ => 0, eAt K exNs, PySem.W.OpenLaw.prog PySem.Challenge.rw_doffyard_k34_what_small_yards_are, w⟩) rfl rfl KX G cZ 10) rfl hr

end Zp

set_option maxHeartbeats 4000000
namespace Zp
open PySem Z
abbrev BG : Int := 1000000000000000000000000000000
theorem andThen_ex {α β : Type} (x : Exn) (A : Hh) (f : α → Hh → Option (Z.R β)) : R.andThen (some (.ex x A)) f = some (.ex x A) := rfl
theorem of_ex {α : Type} (σ : Sl) (x : Exn) (A : Hh) (f : α → Hh → Option RS) : RS.of σ (some (.ex x A)) f = some (.ex x σ A) := rfl
theorem sthen_ex (x : Exn) (σ : Sl) (A : Hh) (t : Sv) : RS.andThen (some (.ex x σ A)) t = some (.ex x σ A) := rfl
theorem eq_str (A : Hh) (a b : Str) : eqD A (.str a) (.str b) = some (decide (a = b)) := rfl
theorem eqD_ii (A : Hh) (i j : Int) : eqD A (.int i) (.int j) = some (decide (i = j)) := rfl
theorem eqE_t (A : Hh) (xs : List D) : copD .eqE (.tup xs) (.tup []) A = some xs.isEmpty := rfl
theorem ty_emp (A : Hh) : tyD A .emp = some .dic := rfl
theorem lt_dd (x y : D) (A : Hh) : copD .lt x y A = ltI x y := rfl
theorem blsOf_bls : ∀ bs : List Bool, blsOf (bs.map D.bl) = some bs
  | [] => rfl
  | b :: bs => by rw [List.map_cons, blsOf, blsOf_bls bs]; rfl
theorem rng_nat (n : Nat) : rngI 0 (n : Int) = (List.range n).map fun (i : Nat) => D.int i := by
  unfold rngI
  rw [Int.sub_zero, Int.toNat_natCast]
  simp
/-- all([e for x in xs]), e a bool each time -/
theorem compL_bl {σ : Sl} {g : Gv} {e : Ev D} {A : Hh} (p : D → Bool) : ∀ (xs acc : List D), (∀ x ∈ xs, ∃ σ2, g x σ A = some (.ok σ2 A) ∧ e σ2 A = some (.ok (.bl (p x)) A)) → acc.length + xs.length < SZ →
    compL σ [] g ztt e xs acc A = some (.ok (acc ++ (xs.map p).map D.bl) A)
  | [], acc, _, _ => by simp [compL, wOk]
  | x :: xs, acc, hx, hz => by
    obtain ⟨σ2, h1, h2⟩ := hx x (List.mem_cons_self ..)
    rw [List.length_cons] at hz
    simp only [compL, wOk, List.all_nil, if_true, h1, ztt, ok, h2]
    rw [if_pos (by omega), compL_bl p xs _ (fun y hy => hx y (List.mem_cons_of_mem _ hy)) (by rw [List.length_append, List.length_singleton]; omega)]
    simp
theorem all_ok {vs : List Nat} {g : Gv} {it : Ev (List D × Wt)} {e : Ev D} {σ : Sl} {A : Hh} {xs : List D} (p : D → Bool) (hi : it σ A = some (.ok (xs, []) A)) (hx : ∀ x ∈ xs, ∃ σ2, g x (wipeD σ vs) A = some (.ok σ2 A) ∧ e σ2 A = some (.ok (.bl (p x)) A)) (hz : xs.length < 1000) :
    zallq (zcomp vs g it ztt e) σ A = some (.ok (.bl (xs.all p)) A) := by
  have hz2 : ([] : List D).length + xs.length < SZ := by unfold SZ; simp; omega
  simp only [zallq, zcomp, mb, hi, andThen_ok, compL_bl p xs [] hx hz2, List.nil_append, blsOf_bls, Option.map_some, mo, ok]
  rw [List.all_map]
  rfl
mutual
/-- no object, no error; texts that can be laid -/
def dat : D → Bool
  | .ref _ => false
  | .exc _ => false
  | .str x => (PyData.str x).canLay0
  | .tup xs => decide (xs.length ≤ 100) && dats xs
  | .lst xs => decide (xs.length ≤ 100) && dats xs
  | _ => true
def dats : List D → Bool
  | [] => true
  | x :: xs => dat x && dats xs
end
theorem dtup {xs : List D} (h : dat (.tup xs) = true) : dats xs = true := by
  have h' : (decide (xs.length ≤ 100) && dats xs) = true := h
  rw [Bool.and_eq_true] at h'
  exact h'.2
theorem dlen {xs : List D} (h : dat (.tup xs) = true) : xs.length ≤ 100 := by
  have h' : (decide (xs.length ≤ 100) && dats xs) = true := h
  rw [Bool.and_eq_true, decide_eq_true_eq] at h'
  exact h'.1
theorem dats_mem {xs : List D} (h : dats xs = true) : ∀ x ∈ xs, dat x = true := by
  induction xs with
  | nil => intro x hx; cases hx
  | cons y ys ih =>
    have h' : (dat y && dats ys) = true := h
    rw [Bool.and_eq_true] at h'
    intro x hx
    rcases List.mem_cons.mp hx with e | e
    · rw [e]; exact h'.1
    · exact ih h'.2 x e
theorem dats_of : ∀ {xs : List D}, (∀ x ∈ xs, dat x = true) → dats xs = true
  | [], _ => rfl
  | x :: xs, h => by
    show (dat x && dats xs) = true
    rw [h x (List.mem_cons_self ..), dats_of fun y hy => h y (List.mem_cons_of_mem _ hy)]
    rfl
def intB : D → Bool
  | .int _ => true
  | _ => false
def btwB (l h : Int) : D → Bool
  | .int i => decide (l ≤ i) && decide (i ≤ h)
  | _ => false
theorem btw_int {l h : Int} {x : D} (e : btwB l h x = true) : ∃ i : Int, x = .int i ∧ l ≤ i ∧ i ≤ h := by
  cases x with
  | int i =>
    have e' : (decide (l ≤ i) && decide (i ≤ h)) = true := e
    simp only [Bool.and_eq_true, decide_eq_true_eq] at e'
    exact ⟨i, rfl, e'⟩
  | _ => cases e
theorem e_whole (k : Nat) (x : D) (A : Hh) (hx : dat x = true) : callN Pg (k + 1) i_is_whole [x] A = some (.ok (.bl (intB x)) A) := by
  rw [c_is_whole, mb_is_whole]
  cases x with
  | ref _ => cases hx
  | exc _ => cases hx
  | _ => simp [Z.sseq, Z.snil, Z.sret, Z.sexp, Z.sasg, Z.spar, Z.sif, Z.spass, Z.sbrk, Z.scnt, Z.sthen_nx, Z.sthen_rt, Z.sthen_bk, Z.sthen_ct, Z.of_ok, Z.andThen_ok, Z.mb, Z.ok, Z.mo, Z.zvar, Z.zc, Z.zbin, Z.zneg, Z.zcmp, Z.zchn, Z.copM, Z.zbl, Z.ztru, Z.zand, Z.zor, Z.znot, Z.zandv, Z.zorv, Z.zite, Z.znil, Z.zcons, Z.ztup, Z.zix, Z.zlen, Z.zisi, Z.isiB, Z.zcall, Z.endD, Z.gnm, Z.gtup, Z.gcons, Z.gnil, Z.gc_self, Z.zallq, Z.zanyq, Z.zsumq, Z.zminq, Z.zmaxq, Z.zlenq, Z.ztupq, Z.zrow, Z.zst, Z.zof, Z.zofL, Z.zlst, Z.lstM, Z.zcomp, Z.zrng, Z.rngM, Z.zcat, Z.zrep, Z.zzip, Z.zsort, Z.zsortR, Z.zsortset, Z.zslT, Z.zslL, Z.znone, Z.zsome, Z.znew, Z.zfz, Z.alloc, Z.wipeD, Z.sfor, Z.zm1, Z.zm0, Z.bmD, Z.zdvm, Z.zabs, Z.zmx2, Z.zmn2, Z.zint, Z.zcnt, Z.gsub, Z.setD, Z.ztt, Z.seq_tup, Z.seq_lst, Z.lst_lst, Z.ty_non, Z.ty_bl, Z.ty_int, Z.ty_str, Z.ty_tup, Z.ty_lst, Z.tru_non, Z.tru_bl, Z.tru_int, Z.tru_tup, Z.tru_lst, Z.len_tup, Z.len_lst, Z.ix_int, Z.at_0, Z.at_1, Z.at_2, Z.at_3, Z.at_4, Z.add_ii, Z.sub_ii, Z.mul_ii, Z.fdiv_ii, Z.mod_ii, Z.pow_ii, Z.add_tt, Z.lt_ii, Z.le_ii, Z.gt_ii, Z.ge_ii, Z.eq_ii, Z.ne_ii, Z.eq_dd, Z.ne_dd, Z.isN_d, Z.notN_d, Z.wt_tup, Z.D.deq, intB, ty_emp]
theorem e_between (k : Nat) (x : D) (l h : Int) (A : Hh) (hx : dat x = true) : callN Pg (k + 2) i_is_between [x, .int l, .int h] A = some (.ok (.bl (btwB l h x)) A) := by
  rw [c_is_between, mb_is_between]
  have e := e_whole k x A hx
  cases x with
  | ref _ => cases hx
  | exc _ => cases hx
  | int i =>
    by_cases h1 : l ≤ i
    · simp [Z.sseq, Z.snil, Z.sret, Z.sexp, Z.sasg, Z.spar, Z.sif, Z.spass, Z.sbrk, Z.scnt, Z.sthen_nx, Z.sthen_rt, Z.sthen_bk, Z.sthen_ct, Z.of_ok, Z.andThen_ok, Z.mb, Z.ok, Z.mo, Z.zvar, Z.zc, Z.zbin, Z.zneg, Z.zcmp, Z.zchn, Z.copM, Z.zbl, Z.ztru, Z.zand, Z.zor, Z.znot, Z.zandv, Z.zorv, Z.zite, Z.znil, Z.zcons, Z.ztup, Z.zix, Z.zlen, Z.zisi, Z.isiB, Z.zcall, Z.endD, Z.gnm, Z.gtup, Z.gcons, Z.gnil, Z.gc_self, Z.zallq, Z.zanyq, Z.zsumq, Z.zminq, Z.zmaxq, Z.zlenq, Z.ztupq, Z.zrow, Z.zst, Z.zof, Z.zofL, Z.zlst, Z.lstM, Z.zcomp, Z.zrng, Z.rngM, Z.zcat, Z.zrep, Z.zzip, Z.zsort, Z.zsortR, Z.zsortset, Z.zslT, Z.zslL, Z.znone, Z.zsome, Z.znew, Z.zfz, Z.alloc, Z.wipeD, Z.sfor, Z.zm1, Z.zm0, Z.bmD, Z.zdvm, Z.zabs, Z.zmx2, Z.zmn2, Z.zint, Z.zcnt, Z.gsub, Z.setD, Z.ztt, Z.seq_tup, Z.seq_lst, Z.lst_lst, Z.ty_non, Z.ty_bl, Z.ty_int, Z.ty_str, Z.ty_tup, Z.ty_lst, Z.tru_non, Z.tru_bl, Z.tru_int, Z.tru_tup, Z.tru_lst, Z.len_tup, Z.len_lst, Z.ix_int, Z.at_0, Z.at_1, Z.at_2, Z.at_3, Z.at_4, Z.add_ii, Z.sub_ii, Z.mul_ii, Z.fdiv_ii, Z.mod_ii, Z.pow_ii, Z.add_tt, Z.lt_ii, Z.le_ii, Z.gt_ii, Z.ge_ii, Z.eq_ii, Z.ne_ii, Z.eq_dd, Z.ne_dd, Z.isN_d, Z.notN_d, Z.wt_tup, Z.D.deq, e, intB, btwB, h1]
    · simp [Z.sseq, Z.snil, Z.sret, Z.sexp, Z.sasg, Z.spar, Z.sif, Z.spass, Z.sbrk, Z.scnt, Z.sthen_nx, Z.sthen_rt, Z.sthen_bk, Z.sthen_ct, Z.of_ok, Z.andThen_ok, Z.mb, Z.ok, Z.mo, Z.zvar, Z.zc, Z.zbin, Z.zneg, Z.zcmp, Z.zchn, Z.copM, Z.zbl, Z.ztru, Z.zand, Z.zor, Z.znot, Z.zandv, Z.zorv, Z.zite, Z.znil, Z.zcons, Z.ztup, Z.zix, Z.zlen, Z.zisi, Z.isiB, Z.zcall, Z.endD, Z.gnm, Z.gtup, Z.gcons, Z.gnil, Z.gc_self, Z.zallq, Z.zanyq, Z.zsumq, Z.zminq, Z.zmaxq, Z.zlenq, Z.ztupq, Z.zrow, Z.zst, Z.zof, Z.zofL, Z.zlst, Z.lstM, Z.zcomp, Z.zrng, Z.rngM, Z.zcat, Z.zrep, Z.zzip, Z.zsort, Z.zsortR, Z.zsortset, Z.zslT, Z.zslL, Z.znone, Z.zsome, Z.znew, Z.zfz, Z.alloc, Z.wipeD, Z.sfor, Z.zm1, Z.zm0, Z.bmD, Z.zdvm, Z.zabs, Z.zmx2, Z.zmn2, Z.zint, Z.zcnt, Z.gsub, Z.setD, Z.ztt, Z.seq_tup, Z.seq_lst, Z.lst_lst, Z.ty_non, Z.ty_bl, Z.ty_int, Z.ty_str, Z.ty_tup, Z.ty_lst, Z.tru_non, Z.tru_bl, Z.tru_int, Z.tru_tup, Z.tru_lst, Z.len_tup, Z.len_lst, Z.ix_int, Z.at_0, Z.at_1, Z.at_2, Z.at_3, Z.at_4, Z.add_ii, Z.sub_ii, Z.mul_ii, Z.fdiv_ii, Z.mod_ii, Z.pow_ii, Z.add_tt, Z.lt_ii, Z.le_ii, Z.gt_ii, Z.ge_ii, Z.eq_ii, Z.ne_ii, Z.eq_dd, Z.ne_dd, Z.isN_d, Z.notN_d, Z.wt_tup, Z.D.deq, e, intB, btwB, h1]
  | _ => simp [Z.sseq, Z.snil, Z.sret, Z.sexp, Z.sasg, Z.spar, Z.sif, Z.spass, Z.sbrk, Z.scnt, Z.sthen_nx, Z.sthen_rt, Z.sthen_bk, Z.sthen_ct, Z.of_ok, Z.andThen_ok, Z.mb, Z.ok, Z.mo, Z.zvar, Z.zc, Z.zbin, Z.zneg, Z.zcmp, Z.zchn, Z.copM, Z.zbl, Z.ztru, Z.zand, Z.zor, Z.znot, Z.zandv, Z.zorv, Z.zite, Z.znil, Z.zcons, Z.ztup, Z.zix, Z.zlen, Z.zisi, Z.isiB, Z.zcall, Z.endD, Z.gnm, Z.gtup, Z.gcons, Z.gnil, Z.gc_self, Z.zallq, Z.zanyq, Z.zsumq, Z.zminq, Z.zmaxq, Z.zlenq, Z.ztupq, Z.zrow, Z.zst, Z.zof, Z.zofL, Z.zlst, Z.lstM, Z.zcomp, Z.zrng, Z.rngM, Z.zcat, Z.zrep, Z.zzip, Z.zsort, Z.zsortR, Z.zsortset, Z.zslT, Z.zslL, Z.znone, Z.zsome, Z.znew, Z.zfz, Z.alloc, Z.wipeD, Z.sfor, Z.zm1, Z.zm0, Z.bmD, Z.zdvm, Z.zabs, Z.zmx2, Z.zmn2, Z.zint, Z.zcnt, Z.gsub, Z.setD, Z.ztt, Z.seq_tup, Z.seq_lst, Z.lst_lst, Z.ty_non, Z.ty_bl, Z.ty_int, Z.ty_str, Z.ty_tup, Z.ty_lst, Z.tru_non, Z.tru_bl, Z.tru_int, Z.tru_tup, Z.tru_lst, Z.len_tup, Z.len_lst, Z.ix_int, Z.at_0, Z.at_1, Z.at_2, Z.at_3, Z.at_4, Z.add_ii, Z.sub_ii, Z.mul_ii, Z.fdiv_ii, Z.mod_ii, Z.pow_ii, Z.add_tt, Z.lt_ii, Z.le_ii, Z.gt_ii, Z.ge_ii, Z.eq_ii, Z.ne_ii, Z.eq_dd, Z.ne_dd, Z.isN_d, Z.notN_d, Z.wt_tup, Z.D.deq, e, intB, btwB]
def gD (xs : List D) (i : Nat) : D := (xs[i]?).getD .non
theorem gD_at {xs : List D} {i : Nat} (h : i < xs.length) : xs[i]? = some (gD xs i) := by
  unfold gD
  rw [List.getElem?_eq_getElem h]
  rfl
theorem gD_mem {xs : List D} {i : Nat} (h : i < xs.length) : gD xs i ∈ xs := List.mem_of_getElem? (gD_at h)
theorem rngM_ok {i : Int} {n : Nat} (h0 : 0 ≤ i) (h1 : i ≤ 10) (h : n ≤ 1000) (A : Hh) : rngM (.int i) (.int n) A = some (.ok (rngI i n) A) := by
  unfold rngM
  have a1 : decide (-(2 ^ 60 : Int) ≤ i) = true := decide_eq_true (by omega)
  have a2 : decide (i ≤ 2 ^ 60) = true := decide_eq_true (by omega)
  have a3 : decide (-(2 ^ 60 : Int) ≤ (n : Int)) = true := decide_eq_true (by omega)
  have a4 : decide ((n : Int) ≤ 2 ^ 60) = true := decide_eq_true (by omega)
  simp only [a1, a2, a3, a4, Bool.and_self, if_true]
theorem zrng_ok {a b : Ev D} {σ : Sl} {A : Hh} {x y : D} {xs : List D} (ha : a σ A = some (.ok x A)) (hb : b σ A = some (.ok y A)) (h : rngM x y A = some (.ok xs A)) : zst (zrng a b) σ A = some (.ok (xs, []) A) := by
  simp only [zst, zrng, mb, ha, hb, andThen_ok, h, ok]
def iv : D → Int
  | .int i => i
  | _ => 0
theorem gdat {xs : List D} (h : dats xs = true) (i : Nat) : dat (gD xs i) = true := by
  unfold gD
  cases e : xs[i]? with
  | none => rfl
  | some x => exact dats_mem h x (List.mem_of_getElem? e)
theorem three_ex {xs : List D} (h : xs.length = 3) : ∃ a b c, xs = [a, b, c] := by
  match xs, h with
  | [a, b, c], _ => exact ⟨a, b, c, rfl⟩
theorem two_ex {xs : List D} (h : xs.length = 2) : ∃ a b, xs = [a, b] := by
  match xs, h with
  | [a, b], _ => exact ⟨a, b, rfl⟩
def isZ : D → Bool
  | .int i => decide (i = 0)
  | _ => false
theorem all_c {g : Gv} {e : Ev D} {σ : Sl} {A : Hh} {xs : List D} (p : D → Bool) (hx : ∀ x ∈ xs, ∃ σ2, g x σ A = some (.ok σ2 A) ∧ e σ2 A = some (.ok (.bl (p x)) A)) (hz : xs.length < 1000) :
    ∃ bs : List Bool, compL σ [] g ztt e xs [] A = some (.ok (bs.map D.bl) A) ∧ bs.all id = xs.all p := by
  have hz2 : ([] : List D).length + xs.length < SZ := by unfold SZ; simp; omega
  refine ⟨xs.map p, by rw [compL_bl p xs [] hx hz2]; rfl, ?_⟩
  rw [List.all_map]
  rfl
def ruleB : D → Bool
  | .str z => [PyData.str "near", .str "old", .str "sort"].any fun w => PyData.eqv w (.str z)
  | _ => false
theorem rule_shaped {z : Str} (h : dat (.str z) = true) : SeqAt.shaped (.str z) = true := by
  have h' : (PyData.str z).canLay0 = true := h
  unfold SeqAt.shaped
  rw [h']
  simp [PyData.depth]
theorem inR (A : Hh) (z : Str) (h : dat (.str z) = true) : inA A (.str z) (.tup [.str "near", .str "old", .str "sort"]) = some (ruleB (.str z)) ∧ inA A (.str z) (.lst [.str "near", .str "old", .str "sort"]) = some (ruleB (.str z)) := by
  have h1 := rule_shaped h
  have h2 : SeqAt.shaped (.tuple [.str "near", .str "old", .str "sort"]) = true := by decide +kernel
  have h3 : SeqAt.shaped (.list [.str "near", .str "old", .str "sort"]) = true := by decide +kernel
  refine ⟨?_, ?_⟩
  · show (if SeqAt.shaped (.str z) && SeqAt.shaped (.tuple [.str "near", .str "old", .str "sort"]) then _ else _) = _
    rw [h1, h2]
    rfl
  · show (if SeqAt.shaped (.str z) && SeqAt.shaped (.list [.str "near", .str "old", .str "sort"]) then _ else _) = _
    rw [h1, h3]
    rfl
theorem in_dd (x y : D) (A : Hh) : copD .in_ x y A = inA A x y := rfl
theorem notIn_dd (x y : D) (A : Hh) : copD .notIn x y A = (inA A x y).map (!·) := rfl
end Zp

set_option maxHeartbeats 4000000
namespace Zp
open PySem Z
def frS : D → Bool
  | .tup xs => decide (xs.length = 3) && (btwB 0 1 (gD xs 0) && (btwB 1 3 (gD xs 1) && btwB 0 (iv (gD xs 1) - 1) (gD xs 2)))
  | _ => false
theorem frS_t (xs : List D) : frS (.tup xs) = (decide (xs.length = 3) && (btwB 0 1 (gD xs 0) && (btwB 1 3 (gD xs 1) && btwB 0 (iv (gD xs 1) - 1) (gD xs 2)))) := rfl
theorem frS_3 (a b c : D) : frS (.tup [a, b, c]) = (btwB 0 1 a && (btwB 1 3 b && btwB 0 (iv b - 1) c)) := rfl
theorem lt_iff_le (i j : Int) : decide (i < j) = decide (i ≤ j - 1) := decide_eq_decide.mpr (by omega)
theorem chn_lele {a b c : Ev D} {σ : Sl} {A : Hh} {i j l : Int} (ha : a σ A = some (.ok (.int i) A)) (hb : b σ A = some (.ok (.int j) A)) (hc : c σ A = some (.ok (.int l) A)) : zchn .le .le a b c σ A = some (.ok (decide (i ≤ j) && decide (j ≤ l)) A) := by
  by_cases h : i ≤ j
  · simp [zchn, mb, ha, hb, hc, andThen_ok, copM, le_ii, h]
  · simp [zchn, mb, ha, hb, hc, andThen_ok, copM, le_ii, h, ok]
theorem chn_lelt {a b c : Ev D} {σ : Sl} {A : Hh} {i j l : Int} (ha : a σ A = some (.ok (.int i) A)) (hb : b σ A = some (.ok (.int j) A)) (hc : c σ A = some (.ok (.int l) A)) : zchn .le .lt a b c σ A = some (.ok (decide (i ≤ j) && decide (j < l)) A) := by
  by_cases h : i ≤ j
  · simp [zchn, mb, ha, hb, hc, andThen_ok, copM, le_ii, lt_ii, h]
  · simp [zchn, mb, ha, hb, hc, andThen_ok, copM, le_ii, lt_ii, h, ok]
theorem andv_bl {t : Ev Bool} {e : Ev D} {σ : Sl} {A : Hh} {b : Bool} {r : Bool} (h : t σ A = some (.ok b A)) (he : e σ A = some (.ok (.bl r) A)) : zandv (zbl t) e σ A = some (.ok (.bl (b && r)) A) := by
  cases b <;> simp [zandv, zbl, mb, h, andThen_ok, ok, tru_bl, he]
theorem zbl_ok {t : Ev Bool} {σ : Sl} {A : Hh} {b : Bool} (h : t σ A = some (.ok b A)) : zbl t σ A = some (.ok (.bl b) A) := by
  simp only [zbl, mb, h, andThen_ok, ok]
theorem frS_ints {a b c : D} (h : [a, b, c].all intB = false) : frS (.tup [a, b, c]) = false := by
  cases q : frS (.tup [a, b, c]) with
  | false => rfl
  | true =>
    rw [frS_3, Bool.and_eq_true, Bool.and_eq_true] at q
    obtain ⟨i, e1, _⟩ := btw_int q.1
    obtain ⟨j, e2, _⟩ := btw_int q.2.1
    obtain ⟨l, e3, _⟩ := btw_int q.2.2
    subst e1 e2 e3
    cases h
theorem ints_3 {a b c : D} (h : [a, b, c].all intB = true) : ∃ i j l : Int, a = .int i ∧ b = .int j ∧ c = .int l := by
  have h2 : ∀ x : D, intB x = true → ∃ i : Int, x = .int i := fun x hx => by
    cases x with
    | int i => exact ⟨i, rfl⟩
    | _ => cases hx
  simp only [List.all_cons, List.all_nil, Bool.and_true, Bool.and_eq_true] at h
  obtain ⟨i, e1⟩ := h2 a h.1
  obtain ⟨j, e2⟩ := h2 b h.2.1
  obtain ⟨l, e3⟩ := h2 c h.2.2
  exact ⟨i, j, l, e1, e2, e3⟩
theorem e_sframe (k : Nat) (x : D) (A : Hh) (hx : dat x = true) : callN Pg (k + 3) i_is_small_frame [x] A = some (.ok (.bl (frS x)) A) := by
  rw [c_is_small_frame, mb_is_small_frame]
  cases x with
  | ref _ => cases hx
  | exc _ => cases hx
  | tup xs =>
    by_cases h : xs.length = 3
    · obtain ⟨a, b, c, rfl⟩ := three_ex h
      have dd := dtup hx
      obtain ⟨bs, cc, hb⟩ := all_c (g := gnm 1) (e := ce_is_small_frame_0 ⟨callN Pg (k + 2)⟩) (σ := [some (.tup [a, b, c]), none]) (A := A) (xs := [a, b, c]) intB (fun y hy => by
        have e := e_whole (k + 1) y A (dats_mem dd y hy)
        refine ⟨[some (.tup [a, b, c]), some y], rfl, ?_⟩
        unfold ce_is_small_frame_0
        simp [Z.sseq, Z.snil, Z.sret, Z.sexp, Z.sasg, Z.spar, Z.sif, Z.spass, Z.sbrk, Z.scnt, Z.sthen_nx, Z.sthen_rt, Z.sthen_bk, Z.sthen_ct, Z.of_ok, Z.andThen_ok, Z.mb, Z.ok, Z.mo, Z.zvar, Z.zc, Z.zbin, Z.zneg, Z.zcmp, Z.zchn, Z.copM, Z.zbl, Z.ztru, Z.zand, Z.zor, Z.znot, Z.zandv, Z.zorv, Z.zite, Z.znil, Z.zcons, Z.ztup, Z.zix, Z.zlen, Z.zisi, Z.isiB, Z.zcall, Z.endD, Z.gnm, Z.gtup, Z.gcons, Z.gnil, Z.gc_self, Z.zallq, Z.zanyq, Z.zsumq, Z.zminq, Z.zmaxq, Z.zlenq, Z.ztupq, Z.zrow, Z.zst, Z.zof, Z.zofL, Z.zlst, Z.lstM, Z.zcomp, Z.zrng, Z.rngM, Z.zcat, Z.zrep, Z.zzip, Z.zsort, Z.zsortR, Z.zsortset, Z.zslT, Z.zslL, Z.znone, Z.zsome, Z.znew, Z.zfz, Z.alloc, Z.wipeD, Z.sfor, Z.zm1, Z.zm0, Z.bmD, Z.zdvm, Z.zabs, Z.zmx2, Z.zmn2, Z.zint, Z.zcnt, Z.gsub, Z.setD, Z.ztt, Z.seq_tup, Z.seq_lst, Z.lst_lst, Z.ty_non, Z.ty_bl, Z.ty_int, Z.ty_str, Z.ty_tup, Z.ty_lst, Z.tru_non, Z.tru_bl, Z.tru_int, Z.tru_tup, Z.tru_lst, Z.len_tup, Z.len_lst, Z.ix_int, Z.at_0, Z.at_1, Z.at_2, Z.at_3, Z.at_4, Z.add_ii, Z.sub_ii, Z.mul_ii, Z.fdiv_ii, Z.mod_ii, Z.pow_ii, Z.add_tt, Z.lt_ii, Z.le_ii, Z.gt_ii, Z.ge_ii, Z.eq_ii, Z.ne_ii, Z.eq_dd, Z.ne_dd, Z.isN_d, Z.notN_d, Z.wt_tup, Z.D.deq, e]) (by show 3 < 1000; decide)
      cases q : [a, b, c].all intB with
      | false =>
        rw [q] at hb
        rw [frS_ints q]
        simp [Z.sseq, Z.snil, Z.sret, Z.sexp, Z.sasg, Z.spar, Z.sif, Z.spass, Z.sbrk, Z.scnt, Z.sthen_nx, Z.sthen_rt, Z.sthen_bk, Z.sthen_ct, Z.of_ok, Z.andThen_ok, Z.mb, Z.ok, Z.mo, Z.zvar, Z.zc, Z.zbin, Z.zneg, Z.zcmp, Z.zchn, Z.copM, Z.zbl, Z.ztru, Z.zand, Z.zor, Z.znot, Z.zandv, Z.zorv, Z.zite, Z.znil, Z.zcons, Z.ztup, Z.zix, Z.zlen, Z.zisi, Z.isiB, Z.zcall, Z.endD, Z.gnm, Z.gtup, Z.gcons, Z.gnil, Z.gc_self, Z.zallq, Z.zanyq, Z.zsumq, Z.zminq, Z.zmaxq, Z.zlenq, Z.ztupq, Z.zrow, Z.zst, Z.zof, Z.zofL, Z.zlst, Z.lstM, Z.zcomp, Z.zrng, Z.rngM, Z.zcat, Z.zrep, Z.zzip, Z.zsort, Z.zsortR, Z.zsortset, Z.zslT, Z.zslL, Z.znone, Z.zsome, Z.znew, Z.zfz, Z.alloc, Z.wipeD, Z.sfor, Z.zm1, Z.zm0, Z.bmD, Z.zdvm, Z.zabs, Z.zmx2, Z.zmn2, Z.zint, Z.zcnt, Z.gsub, Z.setD, Z.ztt, Z.seq_tup, Z.seq_lst, Z.lst_lst, Z.ty_non, Z.ty_bl, Z.ty_int, Z.ty_str, Z.ty_tup, Z.ty_lst, Z.tru_non, Z.tru_bl, Z.tru_int, Z.tru_tup, Z.tru_lst, Z.len_tup, Z.len_lst, Z.ix_int, Z.at_0, Z.at_1, Z.at_2, Z.at_3, Z.at_4, Z.add_ii, Z.sub_ii, Z.mul_ii, Z.fdiv_ii, Z.mod_ii, Z.pow_ii, Z.add_tt, Z.lt_ii, Z.le_ii, Z.gt_ii, Z.ge_ii, Z.eq_ii, Z.ne_ii, Z.eq_dd, Z.ne_dd, Z.isN_d, Z.notN_d, Z.wt_tup, Z.D.deq, eqD_ii, cc, blsOf_bls, hb]
      | true =>
        rw [q] at hb
        obtain ⟨i, j, l, rfl, rfl, rfl⟩ := ints_3 q
        have ret : zandv (zbl (zchn .le .le (zc (.int 0)) (zix (zvar 0) (zc (.int 0))) (zc (.int 1)))) (zandv (zbl (zchn .le .le (zc (.int 1)) (zix (zvar 0) (zc (.int 1))) (zc (.int 3)))) (zbl (zchn .le .lt (zc (.int 0)) (zix (zvar 0) (zc (.int 2))) (zix (zvar 0) (zc (.int 1)))))) [some (.tup [.int i, .int j, .int l]), none] A = some (.ok (.bl (frS (.tup [.int i, .int j, .int l]))) A) := by
          have r := andv_bl (chn_lele (a := zc (.int 0)) (b := zix (zvar 0) (zc (.int 0))) (c := zc (.int 1)) (σ := [some (.tup [.int i, .int j, .int l]), none]) (A := A) (i := 0) (j := i) (l := 1) rfl rfl rfl) (andv_bl (chn_lele (a := zc (.int 1)) (b := zix (zvar 0) (zc (.int 1))) (c := zc (.int 3)) (i := 1) (j := j) (l := 3) rfl rfl rfl)
            (zbl_ok (chn_lelt (a := zc (.int 0)) (b := zix (zvar 0) (zc (.int 2))) (c := zix (zvar 0) (zc (.int 1))) (i := 0) (j := l) (l := j) rfl rfl rfl)))
          rw [r, frS_3, lt_iff_le]
          rfl
        generalize frS (.tup [.int i, .int j, .int l]) = R at ret ⊢
        have s1 : sif (zor (znot (ztru (zisi .tuple (zvar 0)))) (zor (zcmp .ne (zlen (zvar 0)) (zc (.int 3))) (znot (ztru (zallq (zcomp [1] (gnm 1) (zof (zvar 0)) ztt (ce_is_small_frame_0 ⟨callN Pg (k + 2)⟩))))))) (sseq (sret (zc (.bl false))) snil) snil [some (.tup [.int i, .int j, .int l]), none] A = some (.nx [some (.tup [.int i, .int j, .int l]), none] A) := by
          simp [Z.sseq, Z.snil, Z.sret, Z.sexp, Z.sasg, Z.spar, Z.sif, Z.spass, Z.sbrk, Z.scnt, Z.sthen_nx, Z.sthen_rt, Z.sthen_bk, Z.sthen_ct, Z.of_ok, Z.andThen_ok, Z.mb, Z.ok, Z.mo, Z.zvar, Z.zc, Z.zbin, Z.zneg, Z.zcmp, Z.zchn, Z.copM, Z.zbl, Z.ztru, Z.zand, Z.zor, Z.znot, Z.zandv, Z.zorv, Z.zite, Z.znil, Z.zcons, Z.ztup, Z.zix, Z.zlen, Z.zisi, Z.isiB, Z.zcall, Z.endD, Z.gnm, Z.gtup, Z.gcons, Z.gnil, Z.gc_self, Z.zallq, Z.zanyq, Z.zsumq, Z.zminq, Z.zmaxq, Z.zlenq, Z.ztupq, Z.zrow, Z.zst, Z.zof, Z.zofL, Z.zlst, Z.lstM, Z.zcomp, Z.zrng, Z.rngM, Z.zcat, Z.zrep, Z.zzip, Z.zsort, Z.zsortR, Z.zsortset, Z.zslT, Z.zslL, Z.znone, Z.zsome, Z.znew, Z.zfz, Z.alloc, Z.wipeD, Z.sfor, Z.zm1, Z.zm0, Z.bmD, Z.zdvm, Z.zabs, Z.zmx2, Z.zmn2, Z.zint, Z.zcnt, Z.gsub, Z.setD, Z.ztt, Z.seq_tup, Z.seq_lst, Z.lst_lst, Z.ty_non, Z.ty_bl, Z.ty_int, Z.ty_str, Z.ty_tup, Z.ty_lst, Z.tru_non, Z.tru_bl, Z.tru_int, Z.tru_tup, Z.tru_lst, Z.len_tup, Z.len_lst, Z.ix_int, Z.at_0, Z.at_1, Z.at_2, Z.at_3, Z.at_4, Z.add_ii, Z.sub_ii, Z.mul_ii, Z.fdiv_ii, Z.mod_ii, Z.pow_ii, Z.add_tt, Z.lt_ii, Z.le_ii, Z.gt_ii, Z.ge_ii, Z.eq_ii, Z.ne_ii, Z.eq_dd, Z.ne_dd, Z.isN_d, Z.notN_d, Z.wt_tup, Z.D.deq, eqD_ii, cc, blsOf_bls, hb]
        simp only [sseq, s1, sthen_nx, sret, ret, of_ok, sthen_rt, endD, gc_self]
    · have hz : ¬ ((xs.length : Int) = 3) := by omega
      rw [frS_t, decide_eq_false h]
      simp [Z.sseq, Z.snil, Z.sret, Z.sexp, Z.sasg, Z.spar, Z.sif, Z.spass, Z.sbrk, Z.scnt, Z.sthen_nx, Z.sthen_rt, Z.sthen_bk, Z.sthen_ct, Z.of_ok, Z.andThen_ok, Z.mb, Z.ok, Z.mo, Z.zvar, Z.zc, Z.zbin, Z.zneg, Z.zcmp, Z.zchn, Z.copM, Z.zbl, Z.ztru, Z.zand, Z.zor, Z.znot, Z.zandv, Z.zorv, Z.zite, Z.znil, Z.zcons, Z.ztup, Z.zix, Z.zlen, Z.zisi, Z.isiB, Z.zcall, Z.endD, Z.gnm, Z.gtup, Z.gcons, Z.gnil, Z.gc_self, Z.zallq, Z.zanyq, Z.zsumq, Z.zminq, Z.zmaxq, Z.zlenq, Z.ztupq, Z.zrow, Z.zst, Z.zof, Z.zofL, Z.zlst, Z.lstM, Z.zcomp, Z.zrng, Z.rngM, Z.zcat, Z.zrep, Z.zzip, Z.zsort, Z.zsortR, Z.zsortset, Z.zslT, Z.zslL, Z.znone, Z.zsome, Z.znew, Z.zfz, Z.alloc, Z.wipeD, Z.sfor, Z.zm1, Z.zm0, Z.bmD, Z.zdvm, Z.zabs, Z.zmx2, Z.zmn2, Z.zint, Z.zcnt, Z.gsub, Z.setD, Z.ztt, Z.seq_tup, Z.seq_lst, Z.lst_lst, Z.ty_non, Z.ty_bl, Z.ty_int, Z.ty_str, Z.ty_tup, Z.ty_lst, Z.tru_non, Z.tru_bl, Z.tru_int, Z.tru_tup, Z.tru_lst, Z.len_tup, Z.len_lst, Z.ix_int, Z.at_0, Z.at_1, Z.at_2, Z.at_3, Z.at_4, Z.add_ii, Z.sub_ii, Z.mul_ii, Z.fdiv_ii, Z.mod_ii, Z.pow_ii, Z.add_tt, Z.lt_ii, Z.le_ii, Z.gt_ii, Z.ge_ii, Z.eq_ii, Z.ne_ii, Z.eq_dd, Z.ne_dd, Z.isN_d, Z.notN_d, Z.wt_tup, Z.D.deq, eqD_ii, hz]
  | _ => simp [Z.sseq, Z.snil, Z.sret, Z.sexp, Z.sasg, Z.spar, Z.sif, Z.spass, Z.sbrk, Z.scnt, Z.sthen_nx, Z.sthen_rt, Z.sthen_bk, Z.sthen_ct, Z.of_ok, Z.andThen_ok, Z.mb, Z.ok, Z.mo, Z.zvar, Z.zc, Z.zbin, Z.zneg, Z.zcmp, Z.zchn, Z.copM, Z.zbl, Z.ztru, Z.zand, Z.zor, Z.znot, Z.zandv, Z.zorv, Z.zite, Z.znil, Z.zcons, Z.ztup, Z.zix, Z.zlen, Z.zisi, Z.isiB, Z.zcall, Z.endD, Z.gnm, Z.gtup, Z.gcons, Z.gnil, Z.gc_self, Z.zallq, Z.zanyq, Z.zsumq, Z.zminq, Z.zmaxq, Z.zlenq, Z.ztupq, Z.zrow, Z.zst, Z.zof, Z.zofL, Z.zlst, Z.lstM, Z.zcomp, Z.zrng, Z.rngM, Z.zcat, Z.zrep, Z.zzip, Z.zsort, Z.zsortR, Z.zsortset, Z.zslT, Z.zslL, Z.znone, Z.zsome, Z.znew, Z.zfz, Z.alloc, Z.wipeD, Z.sfor, Z.zm1, Z.zm0, Z.bmD, Z.zdvm, Z.zabs, Z.zmx2, Z.zmn2, Z.zint, Z.zcnt, Z.gsub, Z.setD, Z.ztt, Z.seq_tup, Z.seq_lst, Z.lst_lst, Z.ty_non, Z.ty_bl, Z.ty_int, Z.ty_str, Z.ty_tup, Z.ty_lst, Z.tru_non, Z.tru_bl, Z.tru_int, Z.tru_tup, Z.tru_lst, Z.len_tup, Z.len_lst, Z.ix_int, Z.at_0, Z.at_1, Z.at_2, Z.at_3, Z.at_4, Z.add_ii, Z.sub_ii, Z.mul_ii, Z.fdiv_ii, Z.mod_ii, Z.pow_ii, Z.add_tt, Z.lt_ii, Z.le_ii, Z.gt_ii, Z.ge_ii, Z.eq_ii, Z.ne_ii, Z.eq_dd, Z.ne_dd, Z.isN_d, Z.notN_d, Z.wt_tup, Z.D.deq, ty_emp, frS]
def rowS (m i : Nat) : D → Bool
  | .tup xs => decide (xs.length = m) && (xs.all (btwB 0 3) && isZ (gD xs i))
  | _ => false
theorem rowS_t (m i : Nat) (xs : List D) : rowS m i (.tup xs) = (decide (xs.length = m) && (xs.all (btwB 0 3) && isZ (gD xs i))) := rfl
def wkS (m : Nat) : D → Bool
  | .tup xs => decide (xs.length = m) && (List.range m).all fun i => rowS m i (gD xs i)
  | _ => false
theorem wkS_t (m : Nat) (xs : List D) : wkS m (.tup xs) = (decide (xs.length = m) && (List.range m).all fun i => rowS m i (gD xs i)) := rfl
def okOr (b : Bool) (σ : Sl) (A : Hh) : Option RS := if b = true then some (.nx σ A) else some (.rt (.bl false) A)
theorem e_swalk (k : Nat) (s0 : Option D) (m i : Nat) (y : D) (s4 : Option D) (A : Hh) (hy : dat y = true) (hi : i < m) :
    lb_are_small_walks_1 ⟨callN Pg (k + 2)⟩ [s0, some (.int m), some (.int i), some y, none] A = okOr (rowS m i y) [s0, some (.int m), some (.int i), some y, none] A := by
  unfold lb_are_small_walks_1 okOr
  cases y with
  | ref _ => cases hy
  | exc _ => cases hy
  | tup ys =>
    rw [rowS_t]
    by_cases h : ys.length = m
    · have hz : ((ys.length : Int) = (m : Int)) := by omega
      obtain ⟨bs, c, hb⟩ := all_c (g := gnm 4) (e := ce_are_small_walks_0 ⟨callN Pg (k + 2)⟩) (σ := [s0, some (.int m), some (.int i), some (.tup ys), none]) (A := A) (xs := ys) (btwB 0 3) (fun z hz => by
        have e := e_between k z 0 3 A (dats_mem (dtup hy) z hz)
        refine ⟨[s0, some (.int m), some (.int i), some (.tup ys), some z], rfl, ?_⟩
        unfold ce_are_small_walks_0
        simp [Z.sseq, Z.snil, Z.sret, Z.sexp, Z.sasg, Z.spar, Z.sif, Z.spass, Z.sbrk, Z.scnt, Z.sthen_nx, Z.sthen_rt, Z.sthen_bk, Z.sthen_ct, Z.of_ok, Z.andThen_ok, Z.mb, Z.ok, Z.mo, Z.zvar, Z.zc, Z.zbin, Z.zneg, Z.zcmp, Z.zchn, Z.copM, Z.zbl, Z.ztru, Z.zand, Z.zor, Z.znot, Z.zandv, Z.zorv, Z.zite, Z.znil, Z.zcons, Z.ztup, Z.zix, Z.zlen, Z.zisi, Z.isiB, Z.zcall, Z.endD, Z.gnm, Z.gtup, Z.gcons, Z.gnil, Z.gc_self, Z.zallq, Z.zanyq, Z.zsumq, Z.zminq, Z.zmaxq, Z.zlenq, Z.ztupq, Z.zrow, Z.zst, Z.zof, Z.zofL, Z.zlst, Z.lstM, Z.zcomp, Z.zrng, Z.rngM, Z.zcat, Z.zrep, Z.zzip, Z.zsort, Z.zsortR, Z.zsortset, Z.zslT, Z.zslL, Z.znone, Z.zsome, Z.znew, Z.zfz, Z.alloc, Z.wipeD, Z.sfor, Z.zm1, Z.zm0, Z.bmD, Z.zdvm, Z.zabs, Z.zmx2, Z.zmn2, Z.zint, Z.zcnt, Z.gsub, Z.setD, Z.ztt, Z.seq_tup, Z.seq_lst, Z.lst_lst, Z.ty_non, Z.ty_bl, Z.ty_int, Z.ty_str, Z.ty_tup, Z.ty_lst, Z.tru_non, Z.tru_bl, Z.tru_int, Z.tru_tup, Z.tru_lst, Z.len_tup, Z.len_lst, Z.ix_int, Z.at_0, Z.at_1, Z.at_2, Z.at_3, Z.at_4, Z.add_ii, Z.sub_ii, Z.mul_ii, Z.fdiv_ii, Z.mod_ii, Z.pow_ii, Z.add_tt, Z.lt_ii, Z.le_ii, Z.gt_ii, Z.ge_ii, Z.eq_ii, Z.ne_ii, Z.eq_dd, Z.ne_dd, Z.isN_d, Z.notN_d, Z.wt_tup, Z.D.deq, e]) (by have := dlen hy; omega)
      rw [decide_eq_true h]
      cases q : ys.all (btwB 0 3) with
      | false => rw [q] at hb; simp [Z.sseq, Z.snil, Z.sret, Z.sexp, Z.sasg, Z.spar, Z.sif, Z.spass, Z.sbrk, Z.scnt, Z.sthen_nx, Z.sthen_rt, Z.sthen_bk, Z.sthen_ct, Z.of_ok, Z.andThen_ok, Z.mb, Z.ok, Z.mo, Z.zvar, Z.zc, Z.zbin, Z.zneg, Z.zcmp, Z.zchn, Z.copM, Z.zbl, Z.ztru, Z.zand, Z.zor, Z.znot, Z.zandv, Z.zorv, Z.zite, Z.znil, Z.zcons, Z.ztup, Z.zix, Z.zlen, Z.zisi, Z.isiB, Z.zcall, Z.endD, Z.gnm, Z.gtup, Z.gcons, Z.gnil, Z.gc_self, Z.zallq, Z.zanyq, Z.zsumq, Z.zminq, Z.zmaxq, Z.zlenq, Z.ztupq, Z.zrow, Z.zst, Z.zof, Z.zofL, Z.zlst, Z.lstM, Z.zcomp, Z.zrng, Z.rngM, Z.zcat, Z.zrep, Z.zzip, Z.zsort, Z.zsortR, Z.zsortset, Z.zslT, Z.zslL, Z.znone, Z.zsome, Z.znew, Z.zfz, Z.alloc, Z.wipeD, Z.sfor, Z.zm1, Z.zm0, Z.bmD, Z.zdvm, Z.zabs, Z.zmx2, Z.zmn2, Z.zint, Z.zcnt, Z.gsub, Z.setD, Z.ztt, Z.seq_tup, Z.seq_lst, Z.lst_lst, Z.ty_non, Z.ty_bl, Z.ty_int, Z.ty_str, Z.ty_tup, Z.ty_lst, Z.tru_non, Z.tru_bl, Z.tru_int, Z.tru_tup, Z.tru_lst, Z.len_tup, Z.len_lst, Z.ix_int, Z.at_0, Z.at_1, Z.at_2, Z.at_3, Z.at_4, Z.add_ii, Z.sub_ii, Z.mul_ii, Z.fdiv_ii, Z.mod_ii, Z.pow_ii, Z.add_tt, Z.lt_ii, Z.le_ii, Z.gt_ii, Z.ge_ii, Z.eq_ii, Z.ne_ii, Z.eq_dd, Z.ne_dd, Z.isN_d, Z.notN_d, Z.wt_tup, Z.D.deq, eqD_ii, hz, c, blsOf_bls, hb]
      | true =>
        rw [q] at hb
        obtain ⟨z, ez, _⟩ := btw_int (List.all_eq_true.mp q _ (gD_mem (xs := ys) (i := i) (by omega)))
        have iy : L2.atI ys (i : Int) = some (.int z) := by rw [at_nat, gD_at (by omega), ez]
        rw [ez]
        have zz : isZ (.int z) = decide (z = 0) := rfl
        rw [zz]
        by_cases hz0 : z = 0
        · simp [Z.sseq, Z.snil, Z.sret, Z.sexp, Z.sasg, Z.spar, Z.sif, Z.spass, Z.sbrk, Z.scnt, Z.sthen_nx, Z.sthen_rt, Z.sthen_bk, Z.sthen_ct, Z.of_ok, Z.andThen_ok, Z.mb, Z.ok, Z.mo, Z.zvar, Z.zc, Z.zbin, Z.zneg, Z.zcmp, Z.zchn, Z.copM, Z.zbl, Z.ztru, Z.zand, Z.zor, Z.znot, Z.zandv, Z.zorv, Z.zite, Z.znil, Z.zcons, Z.ztup, Z.zix, Z.zlen, Z.zisi, Z.isiB, Z.zcall, Z.endD, Z.gnm, Z.gtup, Z.gcons, Z.gnil, Z.gc_self, Z.zallq, Z.zanyq, Z.zsumq, Z.zminq, Z.zmaxq, Z.zlenq, Z.ztupq, Z.zrow, Z.zst, Z.zof, Z.zofL, Z.zlst, Z.lstM, Z.zcomp, Z.zrng, Z.rngM, Z.zcat, Z.zrep, Z.zzip, Z.zsort, Z.zsortR, Z.zsortset, Z.zslT, Z.zslL, Z.znone, Z.zsome, Z.znew, Z.zfz, Z.alloc, Z.wipeD, Z.sfor, Z.zm1, Z.zm0, Z.bmD, Z.zdvm, Z.zabs, Z.zmx2, Z.zmn2, Z.zint, Z.zcnt, Z.gsub, Z.setD, Z.ztt, Z.seq_tup, Z.seq_lst, Z.lst_lst, Z.ty_non, Z.ty_bl, Z.ty_int, Z.ty_str, Z.ty_tup, Z.ty_lst, Z.tru_non, Z.tru_bl, Z.tru_int, Z.tru_tup, Z.tru_lst, Z.len_tup, Z.len_lst, Z.ix_int, Z.at_0, Z.at_1, Z.at_2, Z.at_3, Z.at_4, Z.add_ii, Z.sub_ii, Z.mul_ii, Z.fdiv_ii, Z.mod_ii, Z.pow_ii, Z.add_tt, Z.lt_ii, Z.le_ii, Z.gt_ii, Z.ge_ii, Z.eq_ii, Z.ne_ii, Z.eq_dd, Z.ne_dd, Z.isN_d, Z.notN_d, Z.wt_tup, Z.D.deq, eqD_ii, hz, iy, c, blsOf_bls, hb, hz0]
        · simp [Z.sseq, Z.snil, Z.sret, Z.sexp, Z.sasg, Z.spar, Z.sif, Z.spass, Z.sbrk, Z.scnt, Z.sthen_nx, Z.sthen_rt, Z.sthen_bk, Z.sthen_ct, Z.of_ok, Z.andThen_ok, Z.mb, Z.ok, Z.mo, Z.zvar, Z.zc, Z.zbin, Z.zneg, Z.zcmp, Z.zchn, Z.copM, Z.zbl, Z.ztru, Z.zand, Z.zor, Z.znot, Z.zandv, Z.zorv, Z.zite, Z.znil, Z.zcons, Z.ztup, Z.zix, Z.zlen, Z.zisi, Z.isiB, Z.zcall, Z.endD, Z.gnm, Z.gtup, Z.gcons, Z.gnil, Z.gc_self, Z.zallq, Z.zanyq, Z.zsumq, Z.zminq, Z.zmaxq, Z.zlenq, Z.ztupq, Z.zrow, Z.zst, Z.zof, Z.zofL, Z.zlst, Z.lstM, Z.zcomp, Z.zrng, Z.rngM, Z.zcat, Z.zrep, Z.zzip, Z.zsort, Z.zsortR, Z.zsortset, Z.zslT, Z.zslL, Z.znone, Z.zsome, Z.znew, Z.zfz, Z.alloc, Z.wipeD, Z.sfor, Z.zm1, Z.zm0, Z.bmD, Z.zdvm, Z.zabs, Z.zmx2, Z.zmn2, Z.zint, Z.zcnt, Z.gsub, Z.setD, Z.ztt, Z.seq_tup, Z.seq_lst, Z.lst_lst, Z.ty_non, Z.ty_bl, Z.ty_int, Z.ty_str, Z.ty_tup, Z.ty_lst, Z.tru_non, Z.tru_bl, Z.tru_int, Z.tru_tup, Z.tru_lst, Z.len_tup, Z.len_lst, Z.ix_int, Z.at_0, Z.at_1, Z.at_2, Z.at_3, Z.at_4, Z.add_ii, Z.sub_ii, Z.mul_ii, Z.fdiv_ii, Z.mod_ii, Z.pow_ii, Z.add_tt, Z.lt_ii, Z.le_ii, Z.gt_ii, Z.ge_ii, Z.eq_ii, Z.ne_ii, Z.eq_dd, Z.ne_dd, Z.isN_d, Z.notN_d, Z.wt_tup, Z.D.deq, eqD_ii, hz, iy, c, blsOf_bls, hb, hz0]
    · have hz : ¬ ((ys.length : Int) = (m : Int)) := by omega
      rw [decide_eq_false h]
      simp [Z.sseq, Z.snil, Z.sret, Z.sexp, Z.sasg, Z.spar, Z.sif, Z.spass, Z.sbrk, Z.scnt, Z.sthen_nx, Z.sthen_rt, Z.sthen_bk, Z.sthen_ct, Z.of_ok, Z.andThen_ok, Z.mb, Z.ok, Z.mo, Z.zvar, Z.zc, Z.zbin, Z.zneg, Z.zcmp, Z.zchn, Z.copM, Z.zbl, Z.ztru, Z.zand, Z.zor, Z.znot, Z.zandv, Z.zorv, Z.zite, Z.znil, Z.zcons, Z.ztup, Z.zix, Z.zlen, Z.zisi, Z.isiB, Z.zcall, Z.endD, Z.gnm, Z.gtup, Z.gcons, Z.gnil, Z.gc_self, Z.zallq, Z.zanyq, Z.zsumq, Z.zminq, Z.zmaxq, Z.zlenq, Z.ztupq, Z.zrow, Z.zst, Z.zof, Z.zofL, Z.zlst, Z.lstM, Z.zcomp, Z.zrng, Z.rngM, Z.zcat, Z.zrep, Z.zzip, Z.zsort, Z.zsortR, Z.zsortset, Z.zslT, Z.zslL, Z.znone, Z.zsome, Z.znew, Z.zfz, Z.alloc, Z.wipeD, Z.sfor, Z.zm1, Z.zm0, Z.bmD, Z.zdvm, Z.zabs, Z.zmx2, Z.zmn2, Z.zint, Z.zcnt, Z.gsub, Z.setD, Z.ztt, Z.seq_tup, Z.seq_lst, Z.lst_lst, Z.ty_non, Z.ty_bl, Z.ty_int, Z.ty_str, Z.ty_tup, Z.ty_lst, Z.tru_non, Z.tru_bl, Z.tru_int, Z.tru_tup, Z.tru_lst, Z.len_tup, Z.len_lst, Z.ix_int, Z.at_0, Z.at_1, Z.at_2, Z.at_3, Z.at_4, Z.add_ii, Z.sub_ii, Z.mul_ii, Z.fdiv_ii, Z.mod_ii, Z.pow_ii, Z.add_tt, Z.lt_ii, Z.le_ii, Z.gt_ii, Z.ge_ii, Z.eq_ii, Z.ne_ii, Z.eq_dd, Z.ne_dd, Z.isN_d, Z.notN_d, Z.wt_tup, Z.D.deq, eqD_ii, hz]
  | _ => simp [Z.sseq, Z.snil, Z.sret, Z.sexp, Z.sasg, Z.spar, Z.sif, Z.spass, Z.sbrk, Z.scnt, Z.sthen_nx, Z.sthen_rt, Z.sthen_bk, Z.sthen_ct, Z.of_ok, Z.andThen_ok, Z.mb, Z.ok, Z.mo, Z.zvar, Z.zc, Z.zbin, Z.zneg, Z.zcmp, Z.zchn, Z.copM, Z.zbl, Z.ztru, Z.zand, Z.zor, Z.znot, Z.zandv, Z.zorv, Z.zite, Z.znil, Z.zcons, Z.ztup, Z.zix, Z.zlen, Z.zisi, Z.isiB, Z.zcall, Z.endD, Z.gnm, Z.gtup, Z.gcons, Z.gnil, Z.gc_self, Z.zallq, Z.zanyq, Z.zsumq, Z.zminq, Z.zmaxq, Z.zlenq, Z.ztupq, Z.zrow, Z.zst, Z.zof, Z.zofL, Z.zlst, Z.lstM, Z.zcomp, Z.zrng, Z.rngM, Z.zcat, Z.zrep, Z.zzip, Z.zsort, Z.zsortR, Z.zsortset, Z.zslT, Z.zslL, Z.znone, Z.zsome, Z.znew, Z.zfz, Z.alloc, Z.wipeD, Z.sfor, Z.zm1, Z.zm0, Z.bmD, Z.zdvm, Z.zabs, Z.zmx2, Z.zmn2, Z.zint, Z.zcnt, Z.gsub, Z.setD, Z.ztt, Z.seq_tup, Z.seq_lst, Z.lst_lst, Z.ty_non, Z.ty_bl, Z.ty_int, Z.ty_str, Z.ty_tup, Z.ty_lst, Z.tru_non, Z.tru_bl, Z.tru_int, Z.tru_tup, Z.tru_lst, Z.len_tup, Z.len_lst, Z.ix_int, Z.at_0, Z.at_1, Z.at_2, Z.at_3, Z.at_4, Z.add_ii, Z.sub_ii, Z.mul_ii, Z.fdiv_ii, Z.mod_ii, Z.pow_ii, Z.add_tt, Z.lt_ii, Z.le_ii, Z.gt_ii, Z.ge_ii, Z.eq_ii, Z.ne_ii, Z.eq_dd, Z.ne_dd, Z.isN_d, Z.notN_d, Z.wt_tup, Z.D.deq, ty_emp, rowS]
theorem enum_from (xs : List D) : enumD xs = (List.range xs.length).map fun i => D.tup [.int (i : Nat), gD xs i] := by
  unfold enumD
  apply List.ext_getElem?
  intro i
  rw [List.getElem?_map, List.getElem?_map]
  by_cases h : i < xs.length
  · rw [List.getElem?_zipIdx, List.getElem?_range h, gD_at h]
    simp
  · rw [List.getElem?_eq_none (by rw [List.length_zipIdx]; omega), List.getElem?_eq_none (by rw [List.length_range]; omega)]
    rfl
theorem walk_all {b : Sv} {s0 s1 : Option D} {A : Hh} {xs : List D} (p : Nat → D → Bool) (hb : ∀ i y, i < xs.length → dat y = true → b [s0, s1, some (.int (i : Nat)), some y, none] A = okOr (p i y) [s0, s1, some (.int (i : Nat)), some y, none] A) (hd : dats xs = true) :
    ∀ (is : List Nat) (s2 s3 : Option D), (∀ i ∈ is, i < xs.length) → ∃ s2' s3', forL [] (gtup 2 (gcons (gnm 2) (gcons (gnm 3) gnil))) b (is.map fun i => D.tup [.int (i : Nat), gD xs i]) [s0, s1, s2, s3, none] A = okOr (is.all fun i => p i (gD xs i)) [s0, s1, s2', s3', none] A
  | [], s2, s3, _ => ⟨s2, s3, rfl⟩
  | i :: is, s2, s3, h => by
    have hb := hb
    have b1 := hb i (gD xs i) (h i (List.mem_cons_self ..)) (gdat hd i)
    have g1 : gtup 2 (gcons (gnm 2) (gcons (gnm 3) gnil)) (.tup [.int (i : Nat), gD xs i]) [s0, s1, s2, s3, none] A = some (.ok [s0, s1, some (.int (i : Nat)), some (gD xs i), none] A) := rfl
    obtain ⟨u2, u3, r⟩ := walk_all p hb hd is (some (.int (i : Nat))) (some (gD xs i)) fun j hj => h j (List.mem_cons_of_mem _ hj)
    unfold okOr at b1 r ⊢
    cases q : p i (gD xs i) with
    | false =>
      rw [q, if_neg Bool.false_ne_true] at b1
      refine ⟨none, none, ?_⟩
      rw [List.all_cons, q, Bool.false_and, if_neg Bool.false_ne_true]
      simp only [List.map_cons, forL, wOk, List.all_nil, if_true, g1, b1]
    | true =>
      rw [q, if_pos rfl] at b1
      refine ⟨u2, u3, ?_⟩
      rw [List.all_cons, q, Bool.true_and]
      simp only [List.map_cons, forL, wOk, List.all_nil, if_true, g1, b1]
      exact r
theorem e_swalks (k : Nat) (x : D) (m : Nat) (A : Hh) (hx : dat x = true) : callN Pg (k + 3) i_are_small_walks [x, .int m] A = some (.ok (.bl (wkS m x)) A) := by
  rw [c_are_small_walks, mb_are_small_walks]
  cases x with
  | ref _ => cases hx
  | exc _ => cases hx
  | tup xs =>
    rw [wkS_t]
    by_cases h : xs.length = m
    · have hz : ((xs.length : Int) = (m : Int)) := by omega
      obtain ⟨s2', s3', l⟩ := walk_all (b := lb_are_small_walks_1 ⟨callN Pg (k + 2)⟩) (s0 := some (.tup xs)) (s1 := some (.int m)) (A := A) (xs := xs) (rowS m) (fun i y hi hy => e_swalk k _ m i y none A hy (by omega)) (dtup hx) (List.range xs.length) none none (fun i hi => List.mem_range.mp hi)
      rw [← enum_from, h] at l
      rw [decide_eq_true h]
      have ez : zenum (zof (zvar 0)) [some (.tup xs), some (.int m), none, none, none] A = some (.ok (enumD xs, []) A) := rfl
      unfold okOr at l
      cases q : (List.range m).all (fun i => rowS m i (gD xs i)) with
      | false => rw [q, if_neg Bool.false_ne_true] at l; simp [Z.sseq, Z.snil, Z.sret, Z.sexp, Z.sasg, Z.spar, Z.sif, Z.spass, Z.sbrk, Z.scnt, Z.sthen_nx, Z.sthen_rt, Z.sthen_bk, Z.sthen_ct, Z.of_ok, Z.andThen_ok, Z.mb, Z.ok, Z.mo, Z.zvar, Z.zc, Z.zbin, Z.zneg, Z.zcmp, Z.zchn, Z.copM, Z.zbl, Z.ztru, Z.zand, Z.zor, Z.znot, Z.zandv, Z.zorv, Z.zite, Z.znil, Z.zcons, Z.ztup, Z.zix, Z.zlen, Z.zisi, Z.isiB, Z.zcall, Z.endD, Z.gnm, Z.gtup, Z.gcons, Z.gnil, Z.gc_self, Z.zallq, Z.zanyq, Z.zsumq, Z.zminq, Z.zmaxq, Z.zlenq, Z.ztupq, Z.zrow, Z.zst, Z.zof, Z.zofL, Z.zlst, Z.lstM, Z.zcomp, Z.zrng, Z.rngM, Z.zcat, Z.zrep, Z.zzip, Z.zsort, Z.zsortR, Z.zsortset, Z.zslT, Z.zslL, Z.znone, Z.zsome, Z.znew, Z.zfz, Z.alloc, Z.wipeD, Z.sfor, Z.zm1, Z.zm0, Z.bmD, Z.zdvm, Z.zabs, Z.zmx2, Z.zmn2, Z.zint, Z.zcnt, Z.gsub, Z.setD, Z.ztt, Z.seq_tup, Z.seq_lst, Z.lst_lst, Z.ty_non, Z.ty_bl, Z.ty_int, Z.ty_str, Z.ty_tup, Z.ty_lst, Z.tru_non, Z.tru_bl, Z.tru_int, Z.tru_tup, Z.tru_lst, Z.len_tup, Z.len_lst, Z.ix_int, Z.at_0, Z.at_1, Z.at_2, Z.at_3, Z.at_4, Z.add_ii, Z.sub_ii, Z.mul_ii, Z.fdiv_ii, Z.mod_ii, Z.pow_ii, Z.add_tt, Z.lt_ii, Z.le_ii, Z.gt_ii, Z.ge_ii, Z.eq_ii, Z.ne_ii, Z.eq_dd, Z.ne_dd, Z.isN_d, Z.notN_d, Z.wt_tup, Z.D.deq, eqD_ii, hz, ez, l]
      | true => rw [q, if_pos rfl] at l; simp [Z.sseq, Z.snil, Z.sret, Z.sexp, Z.sasg, Z.spar, Z.sif, Z.spass, Z.sbrk, Z.scnt, Z.sthen_nx, Z.sthen_rt, Z.sthen_bk, Z.sthen_ct, Z.of_ok, Z.andThen_ok, Z.mb, Z.ok, Z.mo, Z.zvar, Z.zc, Z.zbin, Z.zneg, Z.zcmp, Z.zchn, Z.copM, Z.zbl, Z.ztru, Z.zand, Z.zor, Z.znot, Z.zandv, Z.zorv, Z.zite, Z.znil, Z.zcons, Z.ztup, Z.zix, Z.zlen, Z.zisi, Z.isiB, Z.zcall, Z.endD, Z.gnm, Z.gtup, Z.gcons, Z.gnil, Z.gc_self, Z.zallq, Z.zanyq, Z.zsumq, Z.zminq, Z.zmaxq, Z.zlenq, Z.ztupq, Z.zrow, Z.zst, Z.zof, Z.zofL, Z.zlst, Z.lstM, Z.zcomp, Z.zrng, Z.rngM, Z.zcat, Z.zrep, Z.zzip, Z.zsort, Z.zsortR, Z.zsortset, Z.zslT, Z.zslL, Z.znone, Z.zsome, Z.znew, Z.zfz, Z.alloc, Z.wipeD, Z.sfor, Z.zm1, Z.zm0, Z.bmD, Z.zdvm, Z.zabs, Z.zmx2, Z.zmn2, Z.zint, Z.zcnt, Z.gsub, Z.setD, Z.ztt, Z.seq_tup, Z.seq_lst, Z.lst_lst, Z.ty_non, Z.ty_bl, Z.ty_int, Z.ty_str, Z.ty_tup, Z.ty_lst, Z.tru_non, Z.tru_bl, Z.tru_int, Z.tru_tup, Z.tru_lst, Z.len_tup, Z.len_lst, Z.ix_int, Z.at_0, Z.at_1, Z.at_2, Z.at_3, Z.at_4, Z.add_ii, Z.sub_ii, Z.mul_ii, Z.fdiv_ii, Z.mod_ii, Z.pow_ii, Z.add_tt, Z.lt_ii, Z.le_ii, Z.gt_ii, Z.ge_ii, Z.eq_ii, Z.ne_ii, Z.eq_dd, Z.ne_dd, Z.isN_d, Z.notN_d, Z.wt_tup, Z.D.deq, eqD_ii, hz, ez, l]
    · have hz : ¬ ((xs.length : Int) = (m : Int)) := by omega
      rw [decide_eq_false h]
      simp [Z.sseq, Z.snil, Z.sret, Z.sexp, Z.sasg, Z.spar, Z.sif, Z.spass, Z.sbrk, Z.scnt, Z.sthen_nx, Z.sthen_rt, Z.sthen_bk, Z.sthen_ct, Z.of_ok, Z.andThen_ok, Z.mb, Z.ok, Z.mo, Z.zvar, Z.zc, Z.zbin, Z.zneg, Z.zcmp, Z.zchn, Z.copM, Z.zbl, Z.ztru, Z.zand, Z.zor, Z.znot, Z.zandv, Z.zorv, Z.zite, Z.znil, Z.zcons, Z.ztup, Z.zix, Z.zlen, Z.zisi, Z.isiB, Z.zcall, Z.endD, Z.gnm, Z.gtup, Z.gcons, Z.gnil, Z.gc_self, Z.zallq, Z.zanyq, Z.zsumq, Z.zminq, Z.zmaxq, Z.zlenq, Z.ztupq, Z.zrow, Z.zst, Z.zof, Z.zofL, Z.zlst, Z.lstM, Z.zcomp, Z.zrng, Z.rngM, Z.zcat, Z.zrep, Z.zzip, Z.zsort, Z.zsortR, Z.zsortset, Z.zslT, Z.zslL, Z.znone, Z.zsome, Z.znew, Z.zfz, Z.alloc, Z.wipeD, Z.sfor, Z.zm1, Z.zm0, Z.bmD, Z.zdvm, Z.zabs, Z.zmx2, Z.zmn2, Z.zint, Z.zcnt, Z.gsub, Z.setD, Z.ztt, Z.seq_tup, Z.seq_lst, Z.lst_lst, Z.ty_non, Z.ty_bl, Z.ty_int, Z.ty_str, Z.ty_tup, Z.ty_lst, Z.tru_non, Z.tru_bl, Z.tru_int, Z.tru_tup, Z.tru_lst, Z.len_tup, Z.len_lst, Z.ix_int, Z.at_0, Z.at_1, Z.at_2, Z.at_3, Z.at_4, Z.add_ii, Z.sub_ii, Z.mul_ii, Z.fdiv_ii, Z.mod_ii, Z.pow_ii, Z.add_tt, Z.lt_ii, Z.le_ii, Z.gt_ii, Z.ge_ii, Z.eq_ii, Z.ne_ii, Z.eq_dd, Z.ne_dd, Z.isN_d, Z.notN_d, Z.wt_tup, Z.D.deq, eqD_ii, hz]
  | _ => simp [Z.sseq, Z.snil, Z.sret, Z.sexp, Z.sasg, Z.spar, Z.sif, Z.spass, Z.sbrk, Z.scnt, Z.sthen_nx, Z.sthen_rt, Z.sthen_bk, Z.sthen_ct, Z.of_ok, Z.andThen_ok, Z.mb, Z.ok, Z.mo, Z.zvar, Z.zc, Z.zbin, Z.zneg, Z.zcmp, Z.zchn, Z.copM, Z.zbl, Z.ztru, Z.zand, Z.zor, Z.znot, Z.zandv, Z.zorv, Z.zite, Z.znil, Z.zcons, Z.ztup, Z.zix, Z.zlen, Z.zisi, Z.isiB, Z.zcall, Z.endD, Z.gnm, Z.gtup, Z.gcons, Z.gnil, Z.gc_self, Z.zallq, Z.zanyq, Z.zsumq, Z.zminq, Z.zmaxq, Z.zlenq, Z.ztupq, Z.zrow, Z.zst, Z.zof, Z.zofL, Z.zlst, Z.lstM, Z.zcomp, Z.zrng, Z.rngM, Z.zcat, Z.zrep, Z.zzip, Z.zsort, Z.zsortR, Z.zsortset, Z.zslT, Z.zslL, Z.znone, Z.zsome, Z.znew, Z.zfz, Z.alloc, Z.wipeD, Z.sfor, Z.zm1, Z.zm0, Z.bmD, Z.zdvm, Z.zabs, Z.zmx2, Z.zmn2, Z.zint, Z.zcnt, Z.gsub, Z.setD, Z.ztt, Z.seq_tup, Z.seq_lst, Z.lst_lst, Z.ty_non, Z.ty_bl, Z.ty_int, Z.ty_str, Z.ty_tup, Z.ty_lst, Z.tru_non, Z.tru_bl, Z.tru_int, Z.tru_tup, Z.tru_lst, Z.len_tup, Z.len_lst, Z.ix_int, Z.at_0, Z.at_1, Z.at_2, Z.at_3, Z.at_4, Z.add_ii, Z.sub_ii, Z.mul_ii, Z.fdiv_ii, Z.mod_ii, Z.pow_ii, Z.add_tt, Z.lt_ii, Z.le_ii, Z.gt_ii, Z.ge_ii, Z.eq_ii, Z.ne_ii, Z.eq_dd, Z.ne_dd, Z.isN_d, Z.notN_d, Z.wt_tup, Z.D.deq, ty_emp, wkS]
def th1 : D → Int
  | .tup ys => iv (gD ys 1)
  | _ => 0
def thr (xs : List D) : List Int := xs.map th1
def fsS : D → Bool
  | .tup xs => (decide (1 ≤ xs.length) && decide (xs.length ≤ 3)) && (xs.all frS && decide ((thr xs).sum ≤ 3))
  | _ => false
theorem fsS_t (xs : List D) : fsS (.tup xs) = ((decide (1 ≤ xs.length) && decide (xs.length ≤ 3)) && (xs.all frS && decide ((thr xs).sum ≤ 3))) := rfl
def tlen : D → Nat
  | .tup xs => xs.length
  | _ => 0
def pcS : D → Bool
  | .tup xs => decide (xs.length = 2) && xs.all (btwB 1 3)
  | _ => false
theorem pcS_t (xs : List D) : pcS (.tup xs) = (decide (xs.length = 2) && xs.all (btwB 1 3)) := rfl
def smallB : D → Bool
  | .tup xs => decide (xs.length = 5) && (fsS (gD xs 0) && (wkS (tlen (gD xs 0)) (gD xs 1) && (pcS (gD xs 2) && (ruleB (gD xs 3) && btwB 0 2 (gD xs 4)))))
  | _ => false
theorem smallB_t (xs : List D) : smallB (.tup xs) = (decide (xs.length = 5) && (fsS (gD xs 0) && (wkS (tlen (gD xs 0)) (gD xs 1) && (pcS (gD xs 2) && (ruleB (gD xs 3) && btwB 0 2 (gD xs 4)))))) := rfl
theorem smallB_5 (a b c d e : D) : smallB (.tup [a, b, c, d, e]) = (fsS a && (wkS (tlen a) b && (pcS c && (ruleB d && btwB 0 2 e)))) := rfl
theorem five_ex {xs : List D} (h : xs.length = 5) : ∃ a b c d e, xs = [a, b, c, d, e] := by
  match xs, h with
  | [a, b, c, d, e], _ => exact ⟨a, b, c, d, e, rfl⟩
theorem frS_thr {x : D} (h : frS x = true) : ∃ a b c : D, ∃ j : Int, x = .tup [a, .int j, c] := by
  cases x with
  | tup xs =>
    rw [frS_t, Bool.and_eq_true] at h
    obtain ⟨a, b, c, rfl⟩ := three_ex (of_decide_eq_true h.1)
    have h2 := h.2
    simp only [Bool.and_eq_true] at h2
    obtain ⟨j, e, _⟩ := btw_int h2.2.1
    have e' : b = .int j := e
    exact ⟨a, b, c, j, by rw [e']⟩
  | _ => cases h
theorem thr_c {σ : Sl} {A : Hh} {e : Ev D} (j : Nat) (he : ∀ y, e (σ.set j (some y)) A = zix (zvar j) (zc (.int 1)) (σ.set j (some y)) A) (hj : j < σ.length) {xs : List D} (h : xs.all frS = true) (hz : xs.length < 1000) : compL σ [] (gnm j) ztt e xs [] A = some (.ok ((thr xs).map .int) A) := by
  rw [compL_map (fun x => σ.set j (some x)) (fun _ => true) (fun x => .int (th1 x)) xs [] (fun x hx => ?_) (by show 0 + xs.length < SZ; unfold SZ; omega)]
  · unfold thr
    rw [List.map_map]
    simp only [List.nil_append]
    congr 2
    have : xs.filter (fun _ => true) = xs := List.filter_eq_self.mpr fun _ _ => rfl
    rw [this]
    rfl
  · obtain ⟨a, b, c, i, rfl⟩ := frS_thr (List.all_eq_true.mp h x hx)
    refine ⟨rfl, rfl, fun _ => ?_⟩
    have ej : (σ.set j (some (.tup [a, .int i, c])))[j]? = some (some (.tup [a, .int i, c])) := List.getElem?_set_self hj
    rw [he]
    simp only [zix, zvar, mb, ej, ok, andThen_ok, zc, ix_int, seq_tup, Option.bind_some, at_1, List.getElem?_cons_succ, List.getElem?_cons_zero, Option.map_some]
    rfl
theorem e_small0 (k : Nat) (x : D) (A : Hh) (hx : dat x = true) : callN Pg (k + 4) i_is_small_yard [x] A = some (.ok (.bl (smallB x)) A) := by
  rw [c_is_small_yard, mb_is_small_yard]
  cases x with
  | ref _ => cases hx
  | exc _ => cases hx
  | tup xs =>
    by_cases h : xs.length = 5
    · obtain ⟨a, b, c, d, e, rfl⟩ := five_ex h
      have dd := dtup hx
      have da := dats_mem dd a (by simp)
      have db := dats_mem dd b (by simp)
      have dc := dats_mem dd c (by simp)
      have d4 := dats_mem dd d (by simp)
      have de := dats_mem dd e (by simp)
      have e5 := e_between (k + 1) e 0 2 A de
      rw [smallB_5]
      cases a with
      | ref _ => cases da
      | exc _ => cases da
      | tup fs =>
        have tl : tlen (.tup fs) = fs.length := rfl
        rw [fsS_t, tl]
        have wk := e_swalks k b fs.length A db
        by_cases h1 : 1 ≤ fs.length
        · by_cases h3 : fs.length ≤ 3
          · have h1' : (1 : Int) ≤ fs.length := by omega
            have h3' : (fs.length : Int) ≤ 3 := by omega
            have hfl := dlen da
            obtain ⟨bs, cc, hb⟩ := all_c (g := gnm 6) (e := ce_is_small_yard_0 ⟨callN Pg (k + 3)⟩) (σ := [some (.tup [.tup fs, b, c, d, e]), some (.tup fs), some b, some c, some d, some e, none, none]) (A := A) (xs := fs) frS (fun y hy => by
              have e := e_sframe k y A (dats_mem (dtup da) y hy)
              refine ⟨_, rfl, ?_⟩
              unfold ce_is_small_yard_0
              simp [Z.sseq, Z.snil, Z.sret, Z.sexp, Z.sasg, Z.spar, Z.sif, Z.spass, Z.sbrk, Z.scnt, Z.sthen_nx, Z.sthen_rt, Z.sthen_bk, Z.sthen_ct, Z.of_ok, Z.andThen_ok, Z.mb, Z.ok, Z.mo, Z.zvar, Z.zc, Z.zbin, Z.zneg, Z.zcmp, Z.zchn, Z.copM, Z.zbl, Z.ztru, Z.zand, Z.zor, Z.znot, Z.zandv, Z.zorv, Z.zite, Z.znil, Z.zcons, Z.ztup, Z.zix, Z.zlen, Z.zisi, Z.isiB, Z.zcall, Z.endD, Z.gnm, Z.gtup, Z.gcons, Z.gnil, Z.gc_self, Z.zallq, Z.zanyq, Z.zsumq, Z.zminq, Z.zmaxq, Z.zlenq, Z.ztupq, Z.zrow, Z.zst, Z.zof, Z.zofL, Z.zlst, Z.lstM, Z.zcomp, Z.zrng, Z.rngM, Z.zcat, Z.zrep, Z.zzip, Z.zsort, Z.zsortR, Z.zsortset, Z.zslT, Z.zslL, Z.znone, Z.zsome, Z.znew, Z.zfz, Z.alloc, Z.wipeD, Z.sfor, Z.zm1, Z.zm0, Z.bmD, Z.zdvm, Z.zabs, Z.zmx2, Z.zmn2, Z.zint, Z.zcnt, Z.gsub, Z.setD, Z.ztt, Z.seq_tup, Z.seq_lst, Z.lst_lst, Z.ty_non, Z.ty_bl, Z.ty_int, Z.ty_str, Z.ty_tup, Z.ty_lst, Z.tru_non, Z.tru_bl, Z.tru_int, Z.tru_tup, Z.tru_lst, Z.len_tup, Z.len_lst, Z.ix_int, Z.at_0, Z.at_1, Z.at_2, Z.at_3, Z.at_4, Z.add_ii, Z.sub_ii, Z.mul_ii, Z.fdiv_ii, Z.mod_ii, Z.pow_ii, Z.add_tt, Z.lt_ii, Z.le_ii, Z.gt_ii, Z.ge_ii, Z.eq_ii, Z.ne_ii, Z.eq_dd, Z.ne_dd, Z.isN_d, Z.notN_d, Z.wt_tup, Z.D.deq, e]) (by omega)
            cases q : fs.all frS with
            | false => rw [q] at hb; simp [Z.sseq, Z.snil, Z.sret, Z.sexp, Z.sasg, Z.spar, Z.sif, Z.spass, Z.sbrk, Z.scnt, Z.sthen_nx, Z.sthen_rt, Z.sthen_bk, Z.sthen_ct, Z.of_ok, Z.andThen_ok, Z.mb, Z.ok, Z.mo, Z.zvar, Z.zc, Z.zbin, Z.zneg, Z.zcmp, Z.zchn, Z.copM, Z.zbl, Z.ztru, Z.zand, Z.zor, Z.znot, Z.zandv, Z.zorv, Z.zite, Z.znil, Z.zcons, Z.ztup, Z.zix, Z.zlen, Z.zisi, Z.isiB, Z.zcall, Z.endD, Z.gnm, Z.gtup, Z.gcons, Z.gnil, Z.gc_self, Z.zallq, Z.zanyq, Z.zsumq, Z.zminq, Z.zmaxq, Z.zlenq, Z.ztupq, Z.zrow, Z.zst, Z.zof, Z.zofL, Z.zlst, Z.lstM, Z.zcomp, Z.zrng, Z.rngM, Z.zcat, Z.zrep, Z.zzip, Z.zsort, Z.zsortR, Z.zsortset, Z.zslT, Z.zslL, Z.znone, Z.zsome, Z.znew, Z.zfz, Z.alloc, Z.wipeD, Z.sfor, Z.zm1, Z.zm0, Z.bmD, Z.zdvm, Z.zabs, Z.zmx2, Z.zmn2, Z.zint, Z.zcnt, Z.gsub, Z.setD, Z.ztt, Z.seq_tup, Z.seq_lst, Z.lst_lst, Z.ty_non, Z.ty_bl, Z.ty_int, Z.ty_str, Z.ty_tup, Z.ty_lst, Z.tru_non, Z.tru_bl, Z.tru_int, Z.tru_tup, Z.tru_lst, Z.len_tup, Z.len_lst, Z.ix_int, Z.at_0, Z.at_1, Z.at_2, Z.at_3, Z.at_4, Z.add_ii, Z.sub_ii, Z.mul_ii, Z.fdiv_ii, Z.mod_ii, Z.pow_ii, Z.add_tt, Z.lt_ii, Z.le_ii, Z.gt_ii, Z.ge_ii, Z.eq_ii, Z.ne_ii, Z.eq_dd, Z.ne_dd, Z.isN_d, Z.notN_d, Z.wt_tup, Z.D.deq, eqD_ii, h1', h3', cc, blsOf_bls, hb, h1, h3]
            | true =>
              rw [q] at hb
              have ct := thr_c (σ := [some (.tup [.tup fs, b, c, d, e]), some (.tup fs), some b, some c, some d, some e, none, none]) (A := A) (e := ce_is_small_yard_1 ⟨callN Pg (k + 3)⟩) 6 (fun y => rfl) (by show 6 < 8; decide) q (by omega)
              by_cases hs : (thr fs).sum ≤ 3
              · have hs' : ¬ (3 : Int) < (thr fs).sum := by omega
                cases q2 : wkS fs.length b with
                | false => rw [q2] at wk; simp [Z.sseq, Z.snil, Z.sret, Z.sexp, Z.sasg, Z.spar, Z.sif, Z.spass, Z.sbrk, Z.scnt, Z.sthen_nx, Z.sthen_rt, Z.sthen_bk, Z.sthen_ct, Z.of_ok, Z.andThen_ok, Z.mb, Z.ok, Z.mo, Z.zvar, Z.zc, Z.zbin, Z.zneg, Z.zcmp, Z.zchn, Z.copM, Z.zbl, Z.ztru, Z.zand, Z.zor, Z.znot, Z.zandv, Z.zorv, Z.zite, Z.znil, Z.zcons, Z.ztup, Z.zix, Z.zlen, Z.zisi, Z.isiB, Z.zcall, Z.endD, Z.gnm, Z.gtup, Z.gcons, Z.gnil, Z.gc_self, Z.zallq, Z.zanyq, Z.zsumq, Z.zminq, Z.zmaxq, Z.zlenq, Z.ztupq, Z.zrow, Z.zst, Z.zof, Z.zofL, Z.zlst, Z.lstM, Z.zcomp, Z.zrng, Z.rngM, Z.zcat, Z.zrep, Z.zzip, Z.zsort, Z.zsortR, Z.zsortset, Z.zslT, Z.zslL, Z.znone, Z.zsome, Z.znew, Z.zfz, Z.alloc, Z.wipeD, Z.sfor, Z.zm1, Z.zm0, Z.bmD, Z.zdvm, Z.zabs, Z.zmx2, Z.zmn2, Z.zint, Z.zcnt, Z.gsub, Z.setD, Z.ztt, Z.seq_tup, Z.seq_lst, Z.lst_lst, Z.ty_non, Z.ty_bl, Z.ty_int, Z.ty_str, Z.ty_tup, Z.ty_lst, Z.tru_non, Z.tru_bl, Z.tru_int, Z.tru_tup, Z.tru_lst, Z.len_tup, Z.len_lst, Z.ix_int, Z.at_0, Z.at_1, Z.at_2, Z.at_3, Z.at_4, Z.add_ii, Z.sub_ii, Z.mul_ii, Z.fdiv_ii, Z.mod_ii, Z.pow_ii, Z.add_tt, Z.lt_ii, Z.le_ii, Z.gt_ii, Z.ge_ii, Z.eq_ii, Z.ne_ii, Z.eq_dd, Z.ne_dd, Z.isN_d, Z.notN_d, Z.wt_tup, Z.D.deq, eqD_ii, h1', h3', cc, blsOf_bls, hb, h1, h3, ct, intsOf_ints, hs, hs', wk]
                | true =>
                  rw [q2] at wk
                  cases c with
                  | ref _ => cases dc
                  | exc _ => cases dc
                  | tup ps =>
                    rw [pcS_t]
                    by_cases hp : ps.length = 2
                    · have hp' : (ps.length : Int) = 2 := by omega
                      obtain ⟨bs2, c2, hb2⟩ := all_c (g := gnm 7) (e := ce_is_small_yard_2 ⟨callN Pg (k + 3)⟩) (σ := [some (.tup [.tup fs, b, .tup ps, d, e]), some (.tup fs), some b, some (.tup ps), some d, some e, none, none]) (A := A) (xs := ps) (btwB 1 3) (fun y hy => by
                        have e := e_between (k + 1) y 1 3 A (dats_mem (dtup dc) y hy)
                        refine ⟨_, rfl, ?_⟩
                        unfold ce_is_small_yard_2
                        simp [Z.sseq, Z.snil, Z.sret, Z.sexp, Z.sasg, Z.spar, Z.sif, Z.spass, Z.sbrk, Z.scnt, Z.sthen_nx, Z.sthen_rt, Z.sthen_bk, Z.sthen_ct, Z.of_ok, Z.andThen_ok, Z.mb, Z.ok, Z.mo, Z.zvar, Z.zc, Z.zbin, Z.zneg, Z.zcmp, Z.zchn, Z.copM, Z.zbl, Z.ztru, Z.zand, Z.zor, Z.znot, Z.zandv, Z.zorv, Z.zite, Z.znil, Z.zcons, Z.ztup, Z.zix, Z.zlen, Z.zisi, Z.isiB, Z.zcall, Z.endD, Z.gnm, Z.gtup, Z.gcons, Z.gnil, Z.gc_self, Z.zallq, Z.zanyq, Z.zsumq, Z.zminq, Z.zmaxq, Z.zlenq, Z.ztupq, Z.zrow, Z.zst, Z.zof, Z.zofL, Z.zlst, Z.lstM, Z.zcomp, Z.zrng, Z.rngM, Z.zcat, Z.zrep, Z.zzip, Z.zsort, Z.zsortR, Z.zsortset, Z.zslT, Z.zslL, Z.znone, Z.zsome, Z.znew, Z.zfz, Z.alloc, Z.wipeD, Z.sfor, Z.zm1, Z.zm0, Z.bmD, Z.zdvm, Z.zabs, Z.zmx2, Z.zmn2, Z.zint, Z.zcnt, Z.gsub, Z.setD, Z.ztt, Z.seq_tup, Z.seq_lst, Z.lst_lst, Z.ty_non, Z.ty_bl, Z.ty_int, Z.ty_str, Z.ty_tup, Z.ty_lst, Z.tru_non, Z.tru_bl, Z.tru_int, Z.tru_tup, Z.tru_lst, Z.len_tup, Z.len_lst, Z.ix_int, Z.at_0, Z.at_1, Z.at_2, Z.at_3, Z.at_4, Z.add_ii, Z.sub_ii, Z.mul_ii, Z.fdiv_ii, Z.mod_ii, Z.pow_ii, Z.add_tt, Z.lt_ii, Z.le_ii, Z.gt_ii, Z.ge_ii, Z.eq_ii, Z.ne_ii, Z.eq_dd, Z.ne_dd, Z.isN_d, Z.notN_d, Z.wt_tup, Z.D.deq, e]) (by omega)
                      cases q3 : ps.all (btwB 1 3) with
                      | false => rw [q3] at hb2; simp [Z.sseq, Z.snil, Z.sret, Z.sexp, Z.sasg, Z.spar, Z.sif, Z.spass, Z.sbrk, Z.scnt, Z.sthen_nx, Z.sthen_rt, Z.sthen_bk, Z.sthen_ct, Z.of_ok, Z.andThen_ok, Z.mb, Z.ok, Z.mo, Z.zvar, Z.zc, Z.zbin, Z.zneg, Z.zcmp, Z.zchn, Z.copM, Z.zbl, Z.ztru, Z.zand, Z.zor, Z.znot, Z.zandv, Z.zorv, Z.zite, Z.znil, Z.zcons, Z.ztup, Z.zix, Z.zlen, Z.zisi, Z.isiB, Z.zcall, Z.endD, Z.gnm, Z.gtup, Z.gcons, Z.gnil, Z.gc_self, Z.zallq, Z.zanyq, Z.zsumq, Z.zminq, Z.zmaxq, Z.zlenq, Z.ztupq, Z.zrow, Z.zst, Z.zof, Z.zofL, Z.zlst, Z.lstM, Z.zcomp, Z.zrng, Z.rngM, Z.zcat, Z.zrep, Z.zzip, Z.zsort, Z.zsortR, Z.zsortset, Z.zslT, Z.zslL, Z.znone, Z.zsome, Z.znew, Z.zfz, Z.alloc, Z.wipeD, Z.sfor, Z.zm1, Z.zm0, Z.bmD, Z.zdvm, Z.zabs, Z.zmx2, Z.zmn2, Z.zint, Z.zcnt, Z.gsub, Z.setD, Z.ztt, Z.seq_tup, Z.seq_lst, Z.lst_lst, Z.ty_non, Z.ty_bl, Z.ty_int, Z.ty_str, Z.ty_tup, Z.ty_lst, Z.tru_non, Z.tru_bl, Z.tru_int, Z.tru_tup, Z.tru_lst, Z.len_tup, Z.len_lst, Z.ix_int, Z.at_0, Z.at_1, Z.at_2, Z.at_3, Z.at_4, Z.add_ii, Z.sub_ii, Z.mul_ii, Z.fdiv_ii, Z.mod_ii, Z.pow_ii, Z.add_tt, Z.lt_ii, Z.le_ii, Z.gt_ii, Z.ge_ii, Z.eq_ii, Z.ne_ii, Z.eq_dd, Z.ne_dd, Z.isN_d, Z.notN_d, Z.wt_tup, Z.D.deq, eqD_ii, h1', h3', cc, blsOf_bls, hb, h1, h3, ct, intsOf_ints, hs, hs', wk, hp, hp', c2, hb2]
                      | true =>
                        rw [q3] at hb2
                        cases d with
                        | ref _ => cases d4
                        | exc _ => cases d4
                        | str z =>
                          have r := (inR A z d4).1
                          cases q4 : ruleB (.str z) with
                          | false => rw [q4] at r; simp [Z.sseq, Z.snil, Z.sret, Z.sexp, Z.sasg, Z.spar, Z.sif, Z.spass, Z.sbrk, Z.scnt, Z.sthen_nx, Z.sthen_rt, Z.sthen_bk, Z.sthen_ct, Z.of_ok, Z.andThen_ok, Z.mb, Z.ok, Z.mo, Z.zvar, Z.zc, Z.zbin, Z.zneg, Z.zcmp, Z.zchn, Z.copM, Z.zbl, Z.ztru, Z.zand, Z.zor, Z.znot, Z.zandv, Z.zorv, Z.zite, Z.znil, Z.zcons, Z.ztup, Z.zix, Z.zlen, Z.zisi, Z.isiB, Z.zcall, Z.endD, Z.gnm, Z.gtup, Z.gcons, Z.gnil, Z.gc_self, Z.zallq, Z.zanyq, Z.zsumq, Z.zminq, Z.zmaxq, Z.zlenq, Z.ztupq, Z.zrow, Z.zst, Z.zof, Z.zofL, Z.zlst, Z.lstM, Z.zcomp, Z.zrng, Z.rngM, Z.zcat, Z.zrep, Z.zzip, Z.zsort, Z.zsortR, Z.zsortset, Z.zslT, Z.zslL, Z.znone, Z.zsome, Z.znew, Z.zfz, Z.alloc, Z.wipeD, Z.sfor, Z.zm1, Z.zm0, Z.bmD, Z.zdvm, Z.zabs, Z.zmx2, Z.zmn2, Z.zint, Z.zcnt, Z.gsub, Z.setD, Z.ztt, Z.seq_tup, Z.seq_lst, Z.lst_lst, Z.ty_non, Z.ty_bl, Z.ty_int, Z.ty_str, Z.ty_tup, Z.ty_lst, Z.tru_non, Z.tru_bl, Z.tru_int, Z.tru_tup, Z.tru_lst, Z.len_tup, Z.len_lst, Z.ix_int, Z.at_0, Z.at_1, Z.at_2, Z.at_3, Z.at_4, Z.add_ii, Z.sub_ii, Z.mul_ii, Z.fdiv_ii, Z.mod_ii, Z.pow_ii, Z.add_tt, Z.lt_ii, Z.le_ii, Z.gt_ii, Z.ge_ii, Z.eq_ii, Z.ne_ii, Z.eq_dd, Z.ne_dd, Z.isN_d, Z.notN_d, Z.wt_tup, Z.D.deq, eqD_ii, h1', h3', cc, blsOf_bls, hb, h1, h3, ct, intsOf_ints, hs, hs', wk, hp, hp', c2, hb2, notIn_dd, r]
                          | true => rw [q4] at r; simp [Z.sseq, Z.snil, Z.sret, Z.sexp, Z.sasg, Z.spar, Z.sif, Z.spass, Z.sbrk, Z.scnt, Z.sthen_nx, Z.sthen_rt, Z.sthen_bk, Z.sthen_ct, Z.of_ok, Z.andThen_ok, Z.mb, Z.ok, Z.mo, Z.zvar, Z.zc, Z.zbin, Z.zneg, Z.zcmp, Z.zchn, Z.copM, Z.zbl, Z.ztru, Z.zand, Z.zor, Z.znot, Z.zandv, Z.zorv, Z.zite, Z.znil, Z.zcons, Z.ztup, Z.zix, Z.zlen, Z.zisi, Z.isiB, Z.zcall, Z.endD, Z.gnm, Z.gtup, Z.gcons, Z.gnil, Z.gc_self, Z.zallq, Z.zanyq, Z.zsumq, Z.zminq, Z.zmaxq, Z.zlenq, Z.ztupq, Z.zrow, Z.zst, Z.zof, Z.zofL, Z.zlst, Z.lstM, Z.zcomp, Z.zrng, Z.rngM, Z.zcat, Z.zrep, Z.zzip, Z.zsort, Z.zsortR, Z.zsortset, Z.zslT, Z.zslL, Z.znone, Z.zsome, Z.znew, Z.zfz, Z.alloc, Z.wipeD, Z.sfor, Z.zm1, Z.zm0, Z.bmD, Z.zdvm, Z.zabs, Z.zmx2, Z.zmn2, Z.zint, Z.zcnt, Z.gsub, Z.setD, Z.ztt, Z.seq_tup, Z.seq_lst, Z.lst_lst, Z.ty_non, Z.ty_bl, Z.ty_int, Z.ty_str, Z.ty_tup, Z.ty_lst, Z.tru_non, Z.tru_bl, Z.tru_int, Z.tru_tup, Z.tru_lst, Z.len_tup, Z.len_lst, Z.ix_int, Z.at_0, Z.at_1, Z.at_2, Z.at_3, Z.at_4, Z.add_ii, Z.sub_ii, Z.mul_ii, Z.fdiv_ii, Z.mod_ii, Z.pow_ii, Z.add_tt, Z.lt_ii, Z.le_ii, Z.gt_ii, Z.ge_ii, Z.eq_ii, Z.ne_ii, Z.eq_dd, Z.ne_dd, Z.isN_d, Z.notN_d, Z.wt_tup, Z.D.deq, eqD_ii, h1', h3', cc, blsOf_bls, hb, h1, h3, ct, intsOf_ints, hs, hs', wk, hp, hp', c2, hb2, notIn_dd, r, e5]
                        | _ => simp [Z.sseq, Z.snil, Z.sret, Z.sexp, Z.sasg, Z.spar, Z.sif, Z.spass, Z.sbrk, Z.scnt, Z.sthen_nx, Z.sthen_rt, Z.sthen_bk, Z.sthen_ct, Z.of_ok, Z.andThen_ok, Z.mb, Z.ok, Z.mo, Z.zvar, Z.zc, Z.zbin, Z.zneg, Z.zcmp, Z.zchn, Z.copM, Z.zbl, Z.ztru, Z.zand, Z.zor, Z.znot, Z.zandv, Z.zorv, Z.zite, Z.znil, Z.zcons, Z.ztup, Z.zix, Z.zlen, Z.zisi, Z.isiB, Z.zcall, Z.endD, Z.gnm, Z.gtup, Z.gcons, Z.gnil, Z.gc_self, Z.zallq, Z.zanyq, Z.zsumq, Z.zminq, Z.zmaxq, Z.zlenq, Z.ztupq, Z.zrow, Z.zst, Z.zof, Z.zofL, Z.zlst, Z.lstM, Z.zcomp, Z.zrng, Z.rngM, Z.zcat, Z.zrep, Z.zzip, Z.zsort, Z.zsortR, Z.zsortset, Z.zslT, Z.zslL, Z.znone, Z.zsome, Z.znew, Z.zfz, Z.alloc, Z.wipeD, Z.sfor, Z.zm1, Z.zm0, Z.bmD, Z.zdvm, Z.zabs, Z.zmx2, Z.zmn2, Z.zint, Z.zcnt, Z.gsub, Z.setD, Z.ztt, Z.seq_tup, Z.seq_lst, Z.lst_lst, Z.ty_non, Z.ty_bl, Z.ty_int, Z.ty_str, Z.ty_tup, Z.ty_lst, Z.tru_non, Z.tru_bl, Z.tru_int, Z.tru_tup, Z.tru_lst, Z.len_tup, Z.len_lst, Z.ix_int, Z.at_0, Z.at_1, Z.at_2, Z.at_3, Z.at_4, Z.add_ii, Z.sub_ii, Z.mul_ii, Z.fdiv_ii, Z.mod_ii, Z.pow_ii, Z.add_tt, Z.lt_ii, Z.le_ii, Z.gt_ii, Z.ge_ii, Z.eq_ii, Z.ne_ii, Z.eq_dd, Z.ne_dd, Z.isN_d, Z.notN_d, Z.wt_tup, Z.D.deq, eqD_ii, h1', h3', cc, blsOf_bls, hb, h1, h3, ct, intsOf_ints, hs, hs', wk, hp, hp', c2, hb2, ruleB, ty_emp]
                    · have hp' : ¬ (ps.length : Int) = 2 := by omega
                      simp [Z.sseq, Z.snil, Z.sret, Z.sexp, Z.sasg, Z.spar, Z.sif, Z.spass, Z.sbrk, Z.scnt, Z.sthen_nx, Z.sthen_rt, Z.sthen_bk, Z.sthen_ct, Z.of_ok, Z.andThen_ok, Z.mb, Z.ok, Z.mo, Z.zvar, Z.zc, Z.zbin, Z.zneg, Z.zcmp, Z.zchn, Z.copM, Z.zbl, Z.ztru, Z.zand, Z.zor, Z.znot, Z.zandv, Z.zorv, Z.zite, Z.znil, Z.zcons, Z.ztup, Z.zix, Z.zlen, Z.zisi, Z.isiB, Z.zcall, Z.endD, Z.gnm, Z.gtup, Z.gcons, Z.gnil, Z.gc_self, Z.zallq, Z.zanyq, Z.zsumq, Z.zminq, Z.zmaxq, Z.zlenq, Z.ztupq, Z.zrow, Z.zst, Z.zof, Z.zofL, Z.zlst, Z.lstM, Z.zcomp, Z.zrng, Z.rngM, Z.zcat, Z.zrep, Z.zzip, Z.zsort, Z.zsortR, Z.zsortset, Z.zslT, Z.zslL, Z.znone, Z.zsome, Z.znew, Z.zfz, Z.alloc, Z.wipeD, Z.sfor, Z.zm1, Z.zm0, Z.bmD, Z.zdvm, Z.zabs, Z.zmx2, Z.zmn2, Z.zint, Z.zcnt, Z.gsub, Z.setD, Z.ztt, Z.seq_tup, Z.seq_lst, Z.lst_lst, Z.ty_non, Z.ty_bl, Z.ty_int, Z.ty_str, Z.ty_tup, Z.ty_lst, Z.tru_non, Z.tru_bl, Z.tru_int, Z.tru_tup, Z.tru_lst, Z.len_tup, Z.len_lst, Z.ix_int, Z.at_0, Z.at_1, Z.at_2, Z.at_3, Z.at_4, Z.add_ii, Z.sub_ii, Z.mul_ii, Z.fdiv_ii, Z.mod_ii, Z.pow_ii, Z.add_tt, Z.lt_ii, Z.le_ii, Z.gt_ii, Z.ge_ii, Z.eq_ii, Z.ne_ii, Z.eq_dd, Z.ne_dd, Z.isN_d, Z.notN_d, Z.wt_tup, Z.D.deq, eqD_ii, h1', h3', cc, blsOf_bls, hb, h1, h3, ct, intsOf_ints, hs, hs', wk, hp, hp']
                  | _ => simp [Z.sseq, Z.snil, Z.sret, Z.sexp, Z.sasg, Z.spar, Z.sif, Z.spass, Z.sbrk, Z.scnt, Z.sthen_nx, Z.sthen_rt, Z.sthen_bk, Z.sthen_ct, Z.of_ok, Z.andThen_ok, Z.mb, Z.ok, Z.mo, Z.zvar, Z.zc, Z.zbin, Z.zneg, Z.zcmp, Z.zchn, Z.copM, Z.zbl, Z.ztru, Z.zand, Z.zor, Z.znot, Z.zandv, Z.zorv, Z.zite, Z.znil, Z.zcons, Z.ztup, Z.zix, Z.zlen, Z.zisi, Z.isiB, Z.zcall, Z.endD, Z.gnm, Z.gtup, Z.gcons, Z.gnil, Z.gc_self, Z.zallq, Z.zanyq, Z.zsumq, Z.zminq, Z.zmaxq, Z.zlenq, Z.ztupq, Z.zrow, Z.zst, Z.zof, Z.zofL, Z.zlst, Z.lstM, Z.zcomp, Z.zrng, Z.rngM, Z.zcat, Z.zrep, Z.zzip, Z.zsort, Z.zsortR, Z.zsortset, Z.zslT, Z.zslL, Z.znone, Z.zsome, Z.znew, Z.zfz, Z.alloc, Z.wipeD, Z.sfor, Z.zm1, Z.zm0, Z.bmD, Z.zdvm, Z.zabs, Z.zmx2, Z.zmn2, Z.zint, Z.zcnt, Z.gsub, Z.setD, Z.ztt, Z.seq_tup, Z.seq_lst, Z.lst_lst, Z.ty_non, Z.ty_bl, Z.ty_int, Z.ty_str, Z.ty_tup, Z.ty_lst, Z.tru_non, Z.tru_bl, Z.tru_int, Z.tru_tup, Z.tru_lst, Z.len_tup, Z.len_lst, Z.ix_int, Z.at_0, Z.at_1, Z.at_2, Z.at_3, Z.at_4, Z.add_ii, Z.sub_ii, Z.mul_ii, Z.fdiv_ii, Z.mod_ii, Z.pow_ii, Z.add_tt, Z.lt_ii, Z.le_ii, Z.gt_ii, Z.ge_ii, Z.eq_ii, Z.ne_ii, Z.eq_dd, Z.ne_dd, Z.isN_d, Z.notN_d, Z.wt_tup, Z.D.deq, eqD_ii, h1', h3', cc, blsOf_bls, hb, h1, h3, ct, intsOf_ints, hs, hs', wk, pcS, ty_emp]
              · have hs' : (3 : Int) < (thr fs).sum := by omega
                simp [Z.sseq, Z.snil, Z.sret, Z.sexp, Z.sasg, Z.spar, Z.sif, Z.spass, Z.sbrk, Z.scnt, Z.sthen_nx, Z.sthen_rt, Z.sthen_bk, Z.sthen_ct, Z.of_ok, Z.andThen_ok, Z.mb, Z.ok, Z.mo, Z.zvar, Z.zc, Z.zbin, Z.zneg, Z.zcmp, Z.zchn, Z.copM, Z.zbl, Z.ztru, Z.zand, Z.zor, Z.znot, Z.zandv, Z.zorv, Z.zite, Z.znil, Z.zcons, Z.ztup, Z.zix, Z.zlen, Z.zisi, Z.isiB, Z.zcall, Z.endD, Z.gnm, Z.gtup, Z.gcons, Z.gnil, Z.gc_self, Z.zallq, Z.zanyq, Z.zsumq, Z.zminq, Z.zmaxq, Z.zlenq, Z.ztupq, Z.zrow, Z.zst, Z.zof, Z.zofL, Z.zlst, Z.lstM, Z.zcomp, Z.zrng, Z.rngM, Z.zcat, Z.zrep, Z.zzip, Z.zsort, Z.zsortR, Z.zsortset, Z.zslT, Z.zslL, Z.znone, Z.zsome, Z.znew, Z.zfz, Z.alloc, Z.wipeD, Z.sfor, Z.zm1, Z.zm0, Z.bmD, Z.zdvm, Z.zabs, Z.zmx2, Z.zmn2, Z.zint, Z.zcnt, Z.gsub, Z.setD, Z.ztt, Z.seq_tup, Z.seq_lst, Z.lst_lst, Z.ty_non, Z.ty_bl, Z.ty_int, Z.ty_str, Z.ty_tup, Z.ty_lst, Z.tru_non, Z.tru_bl, Z.tru_int, Z.tru_tup, Z.tru_lst, Z.len_tup, Z.len_lst, Z.ix_int, Z.at_0, Z.at_1, Z.at_2, Z.at_3, Z.at_4, Z.add_ii, Z.sub_ii, Z.mul_ii, Z.fdiv_ii, Z.mod_ii, Z.pow_ii, Z.add_tt, Z.lt_ii, Z.le_ii, Z.gt_ii, Z.ge_ii, Z.eq_ii, Z.ne_ii, Z.eq_dd, Z.ne_dd, Z.isN_d, Z.notN_d, Z.wt_tup, Z.D.deq, eqD_ii, h1', h3', cc, blsOf_bls, hb, h1, h3, ct, intsOf_ints, hs, hs']
          · have h1' : (1 : Int) ≤ fs.length := by omega
            have h3' : ¬ (fs.length : Int) ≤ 3 := by omega
            simp [Z.sseq, Z.snil, Z.sret, Z.sexp, Z.sasg, Z.spar, Z.sif, Z.spass, Z.sbrk, Z.scnt, Z.sthen_nx, Z.sthen_rt, Z.sthen_bk, Z.sthen_ct, Z.of_ok, Z.andThen_ok, Z.mb, Z.ok, Z.mo, Z.zvar, Z.zc, Z.zbin, Z.zneg, Z.zcmp, Z.zchn, Z.copM, Z.zbl, Z.ztru, Z.zand, Z.zor, Z.znot, Z.zandv, Z.zorv, Z.zite, Z.znil, Z.zcons, Z.ztup, Z.zix, Z.zlen, Z.zisi, Z.isiB, Z.zcall, Z.endD, Z.gnm, Z.gtup, Z.gcons, Z.gnil, Z.gc_self, Z.zallq, Z.zanyq, Z.zsumq, Z.zminq, Z.zmaxq, Z.zlenq, Z.ztupq, Z.zrow, Z.zst, Z.zof, Z.zofL, Z.zlst, Z.lstM, Z.zcomp, Z.zrng, Z.rngM, Z.zcat, Z.zrep, Z.zzip, Z.zsort, Z.zsortR, Z.zsortset, Z.zslT, Z.zslL, Z.znone, Z.zsome, Z.znew, Z.zfz, Z.alloc, Z.wipeD, Z.sfor, Z.zm1, Z.zm0, Z.bmD, Z.zdvm, Z.zabs, Z.zmx2, Z.zmn2, Z.zint, Z.zcnt, Z.gsub, Z.setD, Z.ztt, Z.seq_tup, Z.seq_lst, Z.lst_lst, Z.ty_non, Z.ty_bl, Z.ty_int, Z.ty_str, Z.ty_tup, Z.ty_lst, Z.tru_non, Z.tru_bl, Z.tru_int, Z.tru_tup, Z.tru_lst, Z.len_tup, Z.len_lst, Z.ix_int, Z.at_0, Z.at_1, Z.at_2, Z.at_3, Z.at_4, Z.add_ii, Z.sub_ii, Z.mul_ii, Z.fdiv_ii, Z.mod_ii, Z.pow_ii, Z.add_tt, Z.lt_ii, Z.le_ii, Z.gt_ii, Z.ge_ii, Z.eq_ii, Z.ne_ii, Z.eq_dd, Z.ne_dd, Z.isN_d, Z.notN_d, Z.wt_tup, Z.D.deq, eqD_ii, h1', h3', h1, h3]
        · have h1' : ¬ (1 : Int) ≤ fs.length := by omega
          simp [Z.sseq, Z.snil, Z.sret, Z.sexp, Z.sasg, Z.spar, Z.sif, Z.spass, Z.sbrk, Z.scnt, Z.sthen_nx, Z.sthen_rt, Z.sthen_bk, Z.sthen_ct, Z.of_ok, Z.andThen_ok, Z.mb, Z.ok, Z.mo, Z.zvar, Z.zc, Z.zbin, Z.zneg, Z.zcmp, Z.zchn, Z.copM, Z.zbl, Z.ztru, Z.zand, Z.zor, Z.znot, Z.zandv, Z.zorv, Z.zite, Z.znil, Z.zcons, Z.ztup, Z.zix, Z.zlen, Z.zisi, Z.isiB, Z.zcall, Z.endD, Z.gnm, Z.gtup, Z.gcons, Z.gnil, Z.gc_self, Z.zallq, Z.zanyq, Z.zsumq, Z.zminq, Z.zmaxq, Z.zlenq, Z.ztupq, Z.zrow, Z.zst, Z.zof, Z.zofL, Z.zlst, Z.lstM, Z.zcomp, Z.zrng, Z.rngM, Z.zcat, Z.zrep, Z.zzip, Z.zsort, Z.zsortR, Z.zsortset, Z.zslT, Z.zslL, Z.znone, Z.zsome, Z.znew, Z.zfz, Z.alloc, Z.wipeD, Z.sfor, Z.zm1, Z.zm0, Z.bmD, Z.zdvm, Z.zabs, Z.zmx2, Z.zmn2, Z.zint, Z.zcnt, Z.gsub, Z.setD, Z.ztt, Z.seq_tup, Z.seq_lst, Z.lst_lst, Z.ty_non, Z.ty_bl, Z.ty_int, Z.ty_str, Z.ty_tup, Z.ty_lst, Z.tru_non, Z.tru_bl, Z.tru_int, Z.tru_tup, Z.tru_lst, Z.len_tup, Z.len_lst, Z.ix_int, Z.at_0, Z.at_1, Z.at_2, Z.at_3, Z.at_4, Z.add_ii, Z.sub_ii, Z.mul_ii, Z.fdiv_ii, Z.mod_ii, Z.pow_ii, Z.add_tt, Z.lt_ii, Z.le_ii, Z.gt_ii, Z.ge_ii, Z.eq_ii, Z.ne_ii, Z.eq_dd, Z.ne_dd, Z.isN_d, Z.notN_d, Z.wt_tup, Z.D.deq, eqD_ii, h1', h1]
      | _ => simp [Z.sseq, Z.snil, Z.sret, Z.sexp, Z.sasg, Z.spar, Z.sif, Z.spass, Z.sbrk, Z.scnt, Z.sthen_nx, Z.sthen_rt, Z.sthen_bk, Z.sthen_ct, Z.of_ok, Z.andThen_ok, Z.mb, Z.ok, Z.mo, Z.zvar, Z.zc, Z.zbin, Z.zneg, Z.zcmp, Z.zchn, Z.copM, Z.zbl, Z.ztru, Z.zand, Z.zor, Z.znot, Z.zandv, Z.zorv, Z.zite, Z.znil, Z.zcons, Z.ztup, Z.zix, Z.zlen, Z.zisi, Z.isiB, Z.zcall, Z.endD, Z.gnm, Z.gtup, Z.gcons, Z.gnil, Z.gc_self, Z.zallq, Z.zanyq, Z.zsumq, Z.zminq, Z.zmaxq, Z.zlenq, Z.ztupq, Z.zrow, Z.zst, Z.zof, Z.zofL, Z.zlst, Z.lstM, Z.zcomp, Z.zrng, Z.rngM, Z.zcat, Z.zrep, Z.zzip, Z.zsort, Z.zsortR, Z.zsortset, Z.zslT, Z.zslL, Z.znone, Z.zsome, Z.znew, Z.zfz, Z.alloc, Z.wipeD, Z.sfor, Z.zm1, Z.zm0, Z.bmD, Z.zdvm, Z.zabs, Z.zmx2, Z.zmn2, Z.zint, Z.zcnt, Z.gsub, Z.setD, Z.ztt, Z.seq_tup, Z.seq_lst, Z.lst_lst, Z.ty_non, Z.ty_bl, Z.ty_int, Z.ty_str, Z.ty_tup, Z.ty_lst, Z.tru_non, Z.tru_bl, Z.tru_int, Z.tru_tup, Z.tru_lst, Z.len_tup, Z.len_lst, Z.ix_int, Z.at_0, Z.at_1, Z.at_2, Z.at_3, Z.at_4, Z.add_ii, Z.sub_ii, Z.mul_ii, Z.fdiv_ii, Z.mod_ii, Z.pow_ii, Z.add_tt, Z.lt_ii, Z.le_ii, Z.gt_ii, Z.ge_ii, Z.eq_ii, Z.ne_ii, Z.eq_dd, Z.ne_dd, Z.isN_d, Z.notN_d, Z.wt_tup, Z.D.deq, eqD_ii, fsS, ty_emp]
    · have hz : ¬ ((xs.length : Int) = 5) := by omega
      rw [smallB_t, decide_eq_false h]
      simp [Z.sseq, Z.snil, Z.sret, Z.sexp, Z.sasg, Z.spar, Z.sif, Z.spass, Z.sbrk, Z.scnt, Z.sthen_nx, Z.sthen_rt, Z.sthen_bk, Z.sthen_ct, Z.of_ok, Z.andThen_ok, Z.mb, Z.ok, Z.mo, Z.zvar, Z.zc, Z.zbin, Z.zneg, Z.zcmp, Z.zchn, Z.copM, Z.zbl, Z.ztru, Z.zand, Z.zor, Z.znot, Z.zandv, Z.zorv, Z.zite, Z.znil, Z.zcons, Z.ztup, Z.zix, Z.zlen, Z.zisi, Z.isiB, Z.zcall, Z.endD, Z.gnm, Z.gtup, Z.gcons, Z.gnil, Z.gc_self, Z.zallq, Z.zanyq, Z.zsumq, Z.zminq, Z.zmaxq, Z.zlenq, Z.ztupq, Z.zrow, Z.zst, Z.zof, Z.zofL, Z.zlst, Z.lstM, Z.zcomp, Z.zrng, Z.rngM, Z.zcat, Z.zrep, Z.zzip, Z.zsort, Z.zsortR, Z.zsortset, Z.zslT, Z.zslL, Z.znone, Z.zsome, Z.znew, Z.zfz, Z.alloc, Z.wipeD, Z.sfor, Z.zm1, Z.zm0, Z.bmD, Z.zdvm, Z.zabs, Z.zmx2, Z.zmn2, Z.zint, Z.zcnt, Z.gsub, Z.setD, Z.ztt, Z.seq_tup, Z.seq_lst, Z.lst_lst, Z.ty_non, Z.ty_bl, Z.ty_int, Z.ty_str, Z.ty_tup, Z.ty_lst, Z.tru_non, Z.tru_bl, Z.tru_int, Z.tru_tup, Z.tru_lst, Z.len_tup, Z.len_lst, Z.ix_int, Z.at_0, Z.at_1, Z.at_2, Z.at_3, Z.at_4, Z.add_ii, Z.sub_ii, Z.mul_ii, Z.fdiv_ii, Z.mod_ii, Z.pow_ii, Z.add_tt, Z.lt_ii, Z.le_ii, Z.gt_ii, Z.ge_ii, Z.eq_ii, Z.ne_ii, Z.eq_dd, Z.ne_dd, Z.isN_d, Z.notN_d, Z.wt_tup, Z.D.deq, eqD_ii, hz]
  | _ => simp [Z.sseq, Z.snil, Z.sret, Z.sexp, Z.sasg, Z.spar, Z.sif, Z.spass, Z.sbrk, Z.scnt, Z.sthen_nx, Z.sthen_rt, Z.sthen_bk, Z.sthen_ct, Z.of_ok, Z.andThen_ok, Z.mb, Z.ok, Z.mo, Z.zvar, Z.zc, Z.zbin, Z.zneg, Z.zcmp, Z.zchn, Z.copM, Z.zbl, Z.ztru, Z.zand, Z.zor, Z.znot, Z.zandv, Z.zorv, Z.zite, Z.znil, Z.zcons, Z.ztup, Z.zix, Z.zlen, Z.zisi, Z.isiB, Z.zcall, Z.endD, Z.gnm, Z.gtup, Z.gcons, Z.gnil, Z.gc_self, Z.zallq, Z.zanyq, Z.zsumq, Z.zminq, Z.zmaxq, Z.zlenq, Z.ztupq, Z.zrow, Z.zst, Z.zof, Z.zofL, Z.zlst, Z.lstM, Z.zcomp, Z.zrng, Z.rngM, Z.zcat, Z.zrep, Z.zzip, Z.zsort, Z.zsortR, Z.zsortset, Z.zslT, Z.zslL, Z.znone, Z.zsome, Z.znew, Z.zfz, Z.alloc, Z.wipeD, Z.sfor, Z.zm1, Z.zm0, Z.bmD, Z.zdvm, Z.zabs, Z.zmx2, Z.zmn2, Z.zint, Z.zcnt, Z.gsub, Z.setD, Z.ztt, Z.seq_tup, Z.seq_lst, Z.lst_lst, Z.ty_non, Z.ty_bl, Z.ty_int, Z.ty_str, Z.ty_tup, Z.ty_lst, Z.tru_non, Z.tru_bl, Z.tru_int, Z.tru_tup, Z.tru_lst, Z.len_tup, Z.len_lst, Z.ix_int, Z.at_0, Z.at_1, Z.at_2, Z.at_3, Z.at_4, Z.add_ii, Z.sub_ii, Z.mul_ii, Z.fdiv_ii, Z.mod_ii, Z.pow_ii, Z.add_tt, Z.lt_ii, Z.le_ii, Z.gt_ii, Z.ge_ii, Z.eq_ii, Z.ne_ii, Z.eq_dd, Z.ne_dd, Z.isN_d, Z.notN_d, Z.wt_tup, Z.D.deq, ty_emp, smallB]
theorem e_small (k : Nat) (x : D) (A : Hh) (hx : dat x = true) : callN Pg (k + 5) i_is_small [x] A = some (.ok (.bl (smallB x)) A) := by
  rw [c_is_small, mb_is_small]
  have e := e_small0 k x A hx
  simp [Z.sseq, Z.snil, Z.sret, Z.sexp, Z.sasg, Z.spar, Z.sif, Z.spass, Z.sbrk, Z.scnt, Z.sthen_nx, Z.sthen_rt, Z.sthen_bk, Z.sthen_ct, Z.of_ok, Z.andThen_ok, Z.mb, Z.ok, Z.mo, Z.zvar, Z.zc, Z.zbin, Z.zneg, Z.zcmp, Z.zchn, Z.copM, Z.zbl, Z.ztru, Z.zand, Z.zor, Z.znot, Z.zandv, Z.zorv, Z.zite, Z.znil, Z.zcons, Z.ztup, Z.zix, Z.zlen, Z.zisi, Z.isiB, Z.zcall, Z.endD, Z.gnm, Z.gtup, Z.gcons, Z.gnil, Z.gc_self, Z.zallq, Z.zanyq, Z.zsumq, Z.zminq, Z.zmaxq, Z.zlenq, Z.ztupq, Z.zrow, Z.zst, Z.zof, Z.zofL, Z.zlst, Z.lstM, Z.zcomp, Z.zrng, Z.rngM, Z.zcat, Z.zrep, Z.zzip, Z.zsort, Z.zsortR, Z.zsortset, Z.zslT, Z.zslL, Z.znone, Z.zsome, Z.znew, Z.zfz, Z.alloc, Z.wipeD, Z.sfor, Z.zm1, Z.zm0, Z.bmD, Z.zdvm, Z.zabs, Z.zmx2, Z.zmn2, Z.zint, Z.zcnt, Z.gsub, Z.setD, Z.ztt, Z.seq_tup, Z.seq_lst, Z.lst_lst, Z.ty_non, Z.ty_bl, Z.ty_int, Z.ty_str, Z.ty_tup, Z.ty_lst, Z.tru_non, Z.tru_bl, Z.tru_int, Z.tru_tup, Z.tru_lst, Z.len_tup, Z.len_lst, Z.ix_int, Z.at_0, Z.at_1, Z.at_2, Z.at_3, Z.at_4, Z.add_ii, Z.sub_ii, Z.mul_ii, Z.fdiv_ii, Z.mod_ii, Z.pow_ii, Z.add_tt, Z.lt_ii, Z.le_ii, Z.gt_ii, Z.ge_ii, Z.eq_ii, Z.ne_ii, Z.eq_dd, Z.ne_dd, Z.isN_d, Z.notN_d, Z.wt_tup, Z.D.deq, e]
end Zp

set_option maxHeartbeats 4000000
namespace Zp
open PySem Z
theorem e_lnum (k : Nat) (x : D) (l h : Int) (A : Hh) (hx : dat x = true) : callN Pg (k + 1) i__law_number [x, .int l, .int h] A = some (.ok (.bl (btwB l h x)) A) := by
  rw [c__law_number, mb__law_number]
  cases x with
  | ref _ => cases hx
  | exc _ => cases hx
  | int i =>
    by_cases h1 : l ≤ i
    · simp [Z.sseq, Z.snil, Z.sret, Z.sexp, Z.sasg, Z.spar, Z.sif, Z.spass, Z.sbrk, Z.scnt, Z.sthen_nx, Z.sthen_rt, Z.sthen_bk, Z.sthen_ct, Z.of_ok, Z.andThen_ok, Z.mb, Z.ok, Z.mo, Z.zvar, Z.zc, Z.zbin, Z.zneg, Z.zcmp, Z.zchn, Z.copM, Z.zbl, Z.ztru, Z.zand, Z.zor, Z.znot, Z.zandv, Z.zorv, Z.zite, Z.znil, Z.zcons, Z.ztup, Z.zix, Z.zlen, Z.zisi, Z.isiB, Z.zcall, Z.endD, Z.gnm, Z.gtup, Z.gcons, Z.gnil, Z.gc_self, Z.zallq, Z.zanyq, Z.zsumq, Z.zminq, Z.zmaxq, Z.zlenq, Z.ztupq, Z.zrow, Z.zst, Z.zof, Z.zofL, Z.zlst, Z.lstM, Z.zcomp, Z.zrng, Z.rngM, Z.zcat, Z.zrep, Z.zzip, Z.zsort, Z.zsortR, Z.zsortset, Z.zslT, Z.zslL, Z.znone, Z.zsome, Z.znew, Z.zfz, Z.alloc, Z.wipeD, Z.sfor, Z.zm1, Z.zm0, Z.bmD, Z.zdvm, Z.zabs, Z.zmx2, Z.zmn2, Z.zint, Z.zcnt, Z.gsub, Z.setD, Z.ztt, Z.seq_tup, Z.seq_lst, Z.lst_lst, Z.ty_non, Z.ty_bl, Z.ty_int, Z.ty_str, Z.ty_tup, Z.ty_lst, Z.tru_non, Z.tru_bl, Z.tru_int, Z.tru_tup, Z.tru_lst, Z.len_tup, Z.len_lst, Z.ix_int, Z.at_0, Z.at_1, Z.at_2, Z.at_3, Z.at_4, Z.add_ii, Z.sub_ii, Z.mul_ii, Z.fdiv_ii, Z.mod_ii, Z.pow_ii, Z.add_tt, Z.lt_ii, Z.le_ii, Z.gt_ii, Z.ge_ii, Z.eq_ii, Z.ne_ii, Z.eq_dd, Z.ne_dd, Z.isN_d, Z.notN_d, Z.wt_tup, Z.D.deq, btwB, h1]
    · simp [Z.sseq, Z.snil, Z.sret, Z.sexp, Z.sasg, Z.spar, Z.sif, Z.spass, Z.sbrk, Z.scnt, Z.sthen_nx, Z.sthen_rt, Z.sthen_bk, Z.sthen_ct, Z.of_ok, Z.andThen_ok, Z.mb, Z.ok, Z.mo, Z.zvar, Z.zc, Z.zbin, Z.zneg, Z.zcmp, Z.zchn, Z.copM, Z.zbl, Z.ztru, Z.zand, Z.zor, Z.znot, Z.zandv, Z.zorv, Z.zite, Z.znil, Z.zcons, Z.ztup, Z.zix, Z.zlen, Z.zisi, Z.isiB, Z.zcall, Z.endD, Z.gnm, Z.gtup, Z.gcons, Z.gnil, Z.gc_self, Z.zallq, Z.zanyq, Z.zsumq, Z.zminq, Z.zmaxq, Z.zlenq, Z.ztupq, Z.zrow, Z.zst, Z.zof, Z.zofL, Z.zlst, Z.lstM, Z.zcomp, Z.zrng, Z.rngM, Z.zcat, Z.zrep, Z.zzip, Z.zsort, Z.zsortR, Z.zsortset, Z.zslT, Z.zslL, Z.znone, Z.zsome, Z.znew, Z.zfz, Z.alloc, Z.wipeD, Z.sfor, Z.zm1, Z.zm0, Z.bmD, Z.zdvm, Z.zabs, Z.zmx2, Z.zmn2, Z.zint, Z.zcnt, Z.gsub, Z.setD, Z.ztt, Z.seq_tup, Z.seq_lst, Z.lst_lst, Z.ty_non, Z.ty_bl, Z.ty_int, Z.ty_str, Z.ty_tup, Z.ty_lst, Z.tru_non, Z.tru_bl, Z.tru_int, Z.tru_tup, Z.tru_lst, Z.len_tup, Z.len_lst, Z.ix_int, Z.at_0, Z.at_1, Z.at_2, Z.at_3, Z.at_4, Z.add_ii, Z.sub_ii, Z.mul_ii, Z.fdiv_ii, Z.mod_ii, Z.pow_ii, Z.add_tt, Z.lt_ii, Z.le_ii, Z.gt_ii, Z.ge_ii, Z.eq_ii, Z.ne_ii, Z.eq_dd, Z.ne_dd, Z.isN_d, Z.notN_d, Z.wt_tup, Z.D.deq, btwB, h1]
  | _ => simp [Z.sseq, Z.snil, Z.sret, Z.sexp, Z.sasg, Z.spar, Z.sif, Z.spass, Z.sbrk, Z.scnt, Z.sthen_nx, Z.sthen_rt, Z.sthen_bk, Z.sthen_ct, Z.of_ok, Z.andThen_ok, Z.mb, Z.ok, Z.mo, Z.zvar, Z.zc, Z.zbin, Z.zneg, Z.zcmp, Z.zchn, Z.copM, Z.zbl, Z.ztru, Z.zand, Z.zor, Z.znot, Z.zandv, Z.zorv, Z.zite, Z.znil, Z.zcons, Z.ztup, Z.zix, Z.zlen, Z.zisi, Z.isiB, Z.zcall, Z.endD, Z.gnm, Z.gtup, Z.gcons, Z.gnil, Z.gc_self, Z.zallq, Z.zanyq, Z.zsumq, Z.zminq, Z.zmaxq, Z.zlenq, Z.ztupq, Z.zrow, Z.zst, Z.zof, Z.zofL, Z.zlst, Z.lstM, Z.zcomp, Z.zrng, Z.rngM, Z.zcat, Z.zrep, Z.zzip, Z.zsort, Z.zsortR, Z.zsortset, Z.zslT, Z.zslL, Z.znone, Z.zsome, Z.znew, Z.zfz, Z.alloc, Z.wipeD, Z.sfor, Z.zm1, Z.zm0, Z.bmD, Z.zdvm, Z.zabs, Z.zmx2, Z.zmn2, Z.zint, Z.zcnt, Z.gsub, Z.setD, Z.ztt, Z.seq_tup, Z.seq_lst, Z.lst_lst, Z.ty_non, Z.ty_bl, Z.ty_int, Z.ty_str, Z.ty_tup, Z.ty_lst, Z.tru_non, Z.tru_bl, Z.tru_int, Z.tru_tup, Z.tru_lst, Z.len_tup, Z.len_lst, Z.ix_int, Z.at_0, Z.at_1, Z.at_2, Z.at_3, Z.at_4, Z.add_ii, Z.sub_ii, Z.mul_ii, Z.fdiv_ii, Z.mod_ii, Z.pow_ii, Z.add_tt, Z.lt_ii, Z.le_ii, Z.gt_ii, Z.ge_ii, Z.eq_ii, Z.ne_ii, Z.eq_dd, Z.ne_dd, Z.isN_d, Z.notN_d, Z.wt_tup, Z.D.deq, btwB, ty_emp]
theorem e_lfr (k : Nat) (s0 : Option D) (n : Int) (x : D) (A : Hh) (hx : dat x = true) : lb__law_are_frames_0 ⟨callN Pg (k + 1)⟩ [s0, some (.int n), some x] A
    = if frS x = true then some (.nx [s0, some (.int (n + th1 x)), some x] A) else some (.rt (.bl false) A) := by
  unfold lb__law_are_frames_0
  cases x with
  | ref _ => cases hx
  | exc _ => cases hx
  | tup xs =>
    by_cases h : xs.length = 3
    · obtain ⟨a, b, c, rfl⟩ := three_ex h
      have dd := dtup hx
      have e1 := e_lnum k a 0 1 A (dats_mem dd a (by simp))
      have e2 := e_lnum k b 1 3 A (dats_mem dd b (by simp))
      rw [frS_3]
      cases q1 : btwB 0 1 a with
      | false => rw [q1] at e1; simp [Z.sseq, Z.snil, Z.sret, Z.sexp, Z.sasg, Z.spar, Z.sif, Z.spass, Z.sbrk, Z.scnt, Z.sthen_nx, Z.sthen_rt, Z.sthen_bk, Z.sthen_ct, Z.of_ok, Z.andThen_ok, Z.mb, Z.ok, Z.mo, Z.zvar, Z.zc, Z.zbin, Z.zneg, Z.zcmp, Z.zchn, Z.copM, Z.zbl, Z.ztru, Z.zand, Z.zor, Z.znot, Z.zandv, Z.zorv, Z.zite, Z.znil, Z.zcons, Z.ztup, Z.zix, Z.zlen, Z.zisi, Z.isiB, Z.zcall, Z.endD, Z.gnm, Z.gtup, Z.gcons, Z.gnil, Z.gc_self, Z.zallq, Z.zanyq, Z.zsumq, Z.zminq, Z.zmaxq, Z.zlenq, Z.ztupq, Z.zrow, Z.zst, Z.zof, Z.zofL, Z.zlst, Z.lstM, Z.zcomp, Z.zrng, Z.rngM, Z.zcat, Z.zrep, Z.zzip, Z.zsort, Z.zsortR, Z.zsortset, Z.zslT, Z.zslL, Z.znone, Z.zsome, Z.znew, Z.zfz, Z.alloc, Z.wipeD, Z.sfor, Z.zm1, Z.zm0, Z.bmD, Z.zdvm, Z.zabs, Z.zmx2, Z.zmn2, Z.zint, Z.zcnt, Z.gsub, Z.setD, Z.ztt, Z.seq_tup, Z.seq_lst, Z.lst_lst, Z.ty_non, Z.ty_bl, Z.ty_int, Z.ty_str, Z.ty_tup, Z.ty_lst, Z.tru_non, Z.tru_bl, Z.tru_int, Z.tru_tup, Z.tru_lst, Z.len_tup, Z.len_lst, Z.ix_int, Z.at_0, Z.at_1, Z.at_2, Z.at_3, Z.at_4, Z.add_ii, Z.sub_ii, Z.mul_ii, Z.fdiv_ii, Z.mod_ii, Z.pow_ii, Z.add_tt, Z.lt_ii, Z.le_ii, Z.gt_ii, Z.ge_ii, Z.eq_ii, Z.ne_ii, Z.eq_dd, Z.ne_dd, Z.isN_d, Z.notN_d, Z.wt_tup, Z.D.deq, eqD_ii, e1]
      | true =>
        rw [q1] at e1
        cases q2 : btwB 1 3 b with
        | false => rw [q2] at e2; simp [Z.sseq, Z.snil, Z.sret, Z.sexp, Z.sasg, Z.spar, Z.sif, Z.spass, Z.sbrk, Z.scnt, Z.sthen_nx, Z.sthen_rt, Z.sthen_bk, Z.sthen_ct, Z.of_ok, Z.andThen_ok, Z.mb, Z.ok, Z.mo, Z.zvar, Z.zc, Z.zbin, Z.zneg, Z.zcmp, Z.zchn, Z.copM, Z.zbl, Z.ztru, Z.zand, Z.zor, Z.znot, Z.zandv, Z.zorv, Z.zite, Z.znil, Z.zcons, Z.ztup, Z.zix, Z.zlen, Z.zisi, Z.isiB, Z.zcall, Z.endD, Z.gnm, Z.gtup, Z.gcons, Z.gnil, Z.gc_self, Z.zallq, Z.zanyq, Z.zsumq, Z.zminq, Z.zmaxq, Z.zlenq, Z.ztupq, Z.zrow, Z.zst, Z.zof, Z.zofL, Z.zlst, Z.lstM, Z.zcomp, Z.zrng, Z.rngM, Z.zcat, Z.zrep, Z.zzip, Z.zsort, Z.zsortR, Z.zsortset, Z.zslT, Z.zslL, Z.znone, Z.zsome, Z.znew, Z.zfz, Z.alloc, Z.wipeD, Z.sfor, Z.zm1, Z.zm0, Z.bmD, Z.zdvm, Z.zabs, Z.zmx2, Z.zmn2, Z.zint, Z.zcnt, Z.gsub, Z.setD, Z.ztt, Z.seq_tup, Z.seq_lst, Z.lst_lst, Z.ty_non, Z.ty_bl, Z.ty_int, Z.ty_str, Z.ty_tup, Z.ty_lst, Z.tru_non, Z.tru_bl, Z.tru_int, Z.tru_tup, Z.tru_lst, Z.len_tup, Z.len_lst, Z.ix_int, Z.at_0, Z.at_1, Z.at_2, Z.at_3, Z.at_4, Z.add_ii, Z.sub_ii, Z.mul_ii, Z.fdiv_ii, Z.mod_ii, Z.pow_ii, Z.add_tt, Z.lt_ii, Z.le_ii, Z.gt_ii, Z.ge_ii, Z.eq_ii, Z.ne_ii, Z.eq_dd, Z.ne_dd, Z.isN_d, Z.notN_d, Z.wt_tup, Z.D.deq, eqD_ii, e1, e2]
        | true =>
          rw [q2] at e2
          obtain ⟨j, rfl, _⟩ := btw_int q2
          have it : iv (.int j) = j := rfl
          have e3 := e_lnum k c 0 (j - 1) A (dats_mem dd c (by simp))
          rw [it]
          cases q3 : btwB 0 (j - 1) c with
          | false => rw [q3] at e3; simp [Z.sseq, Z.snil, Z.sret, Z.sexp, Z.sasg, Z.spar, Z.sif, Z.spass, Z.sbrk, Z.scnt, Z.sthen_nx, Z.sthen_rt, Z.sthen_bk, Z.sthen_ct, Z.of_ok, Z.andThen_ok, Z.mb, Z.ok, Z.mo, Z.zvar, Z.zc, Z.zbin, Z.zneg, Z.zcmp, Z.zchn, Z.copM, Z.zbl, Z.ztru, Z.zand, Z.zor, Z.znot, Z.zandv, Z.zorv, Z.zite, Z.znil, Z.zcons, Z.ztup, Z.zix, Z.zlen, Z.zisi, Z.isiB, Z.zcall, Z.endD, Z.gnm, Z.gtup, Z.gcons, Z.gnil, Z.gc_self, Z.zallq, Z.zanyq, Z.zsumq, Z.zminq, Z.zmaxq, Z.zlenq, Z.ztupq, Z.zrow, Z.zst, Z.zof, Z.zofL, Z.zlst, Z.lstM, Z.zcomp, Z.zrng, Z.rngM, Z.zcat, Z.zrep, Z.zzip, Z.zsort, Z.zsortR, Z.zsortset, Z.zslT, Z.zslL, Z.znone, Z.zsome, Z.znew, Z.zfz, Z.alloc, Z.wipeD, Z.sfor, Z.zm1, Z.zm0, Z.bmD, Z.zdvm, Z.zabs, Z.zmx2, Z.zmn2, Z.zint, Z.zcnt, Z.gsub, Z.setD, Z.ztt, Z.seq_tup, Z.seq_lst, Z.lst_lst, Z.ty_non, Z.ty_bl, Z.ty_int, Z.ty_str, Z.ty_tup, Z.ty_lst, Z.tru_non, Z.tru_bl, Z.tru_int, Z.tru_tup, Z.tru_lst, Z.len_tup, Z.len_lst, Z.ix_int, Z.at_0, Z.at_1, Z.at_2, Z.at_3, Z.at_4, Z.add_ii, Z.sub_ii, Z.mul_ii, Z.fdiv_ii, Z.mod_ii, Z.pow_ii, Z.add_tt, Z.lt_ii, Z.le_ii, Z.gt_ii, Z.ge_ii, Z.eq_ii, Z.ne_ii, Z.eq_dd, Z.ne_dd, Z.isN_d, Z.notN_d, Z.wt_tup, Z.D.deq, eqD_ii, e1, e2, e3]
          | true =>
            rw [q3] at e3
            have gg : th1 (.tup [a, .int j, c]) = j := rfl
            simp [Z.sseq, Z.snil, Z.sret, Z.sexp, Z.sasg, Z.spar, Z.sif, Z.spass, Z.sbrk, Z.scnt, Z.sthen_nx, Z.sthen_rt, Z.sthen_bk, Z.sthen_ct, Z.of_ok, Z.andThen_ok, Z.mb, Z.ok, Z.mo, Z.zvar, Z.zc, Z.zbin, Z.zneg, Z.zcmp, Z.zchn, Z.copM, Z.zbl, Z.ztru, Z.zand, Z.zor, Z.znot, Z.zandv, Z.zorv, Z.zite, Z.znil, Z.zcons, Z.ztup, Z.zix, Z.zlen, Z.zisi, Z.isiB, Z.zcall, Z.endD, Z.gnm, Z.gtup, Z.gcons, Z.gnil, Z.gc_self, Z.zallq, Z.zanyq, Z.zsumq, Z.zminq, Z.zmaxq, Z.zlenq, Z.ztupq, Z.zrow, Z.zst, Z.zof, Z.zofL, Z.zlst, Z.lstM, Z.zcomp, Z.zrng, Z.rngM, Z.zcat, Z.zrep, Z.zzip, Z.zsort, Z.zsortR, Z.zsortset, Z.zslT, Z.zslL, Z.znone, Z.zsome, Z.znew, Z.zfz, Z.alloc, Z.wipeD, Z.sfor, Z.zm1, Z.zm0, Z.bmD, Z.zdvm, Z.zabs, Z.zmx2, Z.zmn2, Z.zint, Z.zcnt, Z.gsub, Z.setD, Z.ztt, Z.seq_tup, Z.seq_lst, Z.lst_lst, Z.ty_non, Z.ty_bl, Z.ty_int, Z.ty_str, Z.ty_tup, Z.ty_lst, Z.tru_non, Z.tru_bl, Z.tru_int, Z.tru_tup, Z.tru_lst, Z.len_tup, Z.len_lst, Z.ix_int, Z.at_0, Z.at_1, Z.at_2, Z.at_3, Z.at_4, Z.add_ii, Z.sub_ii, Z.mul_ii, Z.fdiv_ii, Z.mod_ii, Z.pow_ii, Z.add_tt, Z.lt_ii, Z.le_ii, Z.gt_ii, Z.ge_ii, Z.eq_ii, Z.ne_ii, Z.eq_dd, Z.ne_dd, Z.isN_d, Z.notN_d, Z.wt_tup, Z.D.deq, eqD_ii, e1, e2, e3, gg]
    · have hz : ¬ ((xs.length : Int) = 3) := by omega
      rw [frS_t, decide_eq_false h]
      simp [Z.sseq, Z.snil, Z.sret, Z.sexp, Z.sasg, Z.spar, Z.sif, Z.spass, Z.sbrk, Z.scnt, Z.sthen_nx, Z.sthen_rt, Z.sthen_bk, Z.sthen_ct, Z.of_ok, Z.andThen_ok, Z.mb, Z.ok, Z.mo, Z.zvar, Z.zc, Z.zbin, Z.zneg, Z.zcmp, Z.zchn, Z.copM, Z.zbl, Z.ztru, Z.zand, Z.zor, Z.znot, Z.zandv, Z.zorv, Z.zite, Z.znil, Z.zcons, Z.ztup, Z.zix, Z.zlen, Z.zisi, Z.isiB, Z.zcall, Z.endD, Z.gnm, Z.gtup, Z.gcons, Z.gnil, Z.gc_self, Z.zallq, Z.zanyq, Z.zsumq, Z.zminq, Z.zmaxq, Z.zlenq, Z.ztupq, Z.zrow, Z.zst, Z.zof, Z.zofL, Z.zlst, Z.lstM, Z.zcomp, Z.zrng, Z.rngM, Z.zcat, Z.zrep, Z.zzip, Z.zsort, Z.zsortR, Z.zsortset, Z.zslT, Z.zslL, Z.znone, Z.zsome, Z.znew, Z.zfz, Z.alloc, Z.wipeD, Z.sfor, Z.zm1, Z.zm0, Z.bmD, Z.zdvm, Z.zabs, Z.zmx2, Z.zmn2, Z.zint, Z.zcnt, Z.gsub, Z.setD, Z.ztt, Z.seq_tup, Z.seq_lst, Z.lst_lst, Z.ty_non, Z.ty_bl, Z.ty_int, Z.ty_str, Z.ty_tup, Z.ty_lst, Z.tru_non, Z.tru_bl, Z.tru_int, Z.tru_tup, Z.tru_lst, Z.len_tup, Z.len_lst, Z.ix_int, Z.at_0, Z.at_1, Z.at_2, Z.at_3, Z.at_4, Z.add_ii, Z.sub_ii, Z.mul_ii, Z.fdiv_ii, Z.mod_ii, Z.pow_ii, Z.add_tt, Z.lt_ii, Z.le_ii, Z.gt_ii, Z.ge_ii, Z.eq_ii, Z.ne_ii, Z.eq_dd, Z.ne_dd, Z.isN_d, Z.notN_d, Z.wt_tup, Z.D.deq, eqD_ii, hz]
  | _ => simp [Z.sseq, Z.snil, Z.sret, Z.sexp, Z.sasg, Z.spar, Z.sif, Z.spass, Z.sbrk, Z.scnt, Z.sthen_nx, Z.sthen_rt, Z.sthen_bk, Z.sthen_ct, Z.of_ok, Z.andThen_ok, Z.mb, Z.ok, Z.mo, Z.zvar, Z.zc, Z.zbin, Z.zneg, Z.zcmp, Z.zchn, Z.copM, Z.zbl, Z.ztru, Z.zand, Z.zor, Z.znot, Z.zandv, Z.zorv, Z.zite, Z.znil, Z.zcons, Z.ztup, Z.zix, Z.zlen, Z.zisi, Z.isiB, Z.zcall, Z.endD, Z.gnm, Z.gtup, Z.gcons, Z.gnil, Z.gc_self, Z.zallq, Z.zanyq, Z.zsumq, Z.zminq, Z.zmaxq, Z.zlenq, Z.ztupq, Z.zrow, Z.zst, Z.zof, Z.zofL, Z.zlst, Z.lstM, Z.zcomp, Z.zrng, Z.rngM, Z.zcat, Z.zrep, Z.zzip, Z.zsort, Z.zsortR, Z.zsortset, Z.zslT, Z.zslL, Z.znone, Z.zsome, Z.znew, Z.zfz, Z.alloc, Z.wipeD, Z.sfor, Z.zm1, Z.zm0, Z.bmD, Z.zdvm, Z.zabs, Z.zmx2, Z.zmn2, Z.zint, Z.zcnt, Z.gsub, Z.setD, Z.ztt, Z.seq_tup, Z.seq_lst, Z.lst_lst, Z.ty_non, Z.ty_bl, Z.ty_int, Z.ty_str, Z.ty_tup, Z.ty_lst, Z.tru_non, Z.tru_bl, Z.tru_int, Z.tru_tup, Z.tru_lst, Z.len_tup, Z.len_lst, Z.ix_int, Z.at_0, Z.at_1, Z.at_2, Z.at_3, Z.at_4, Z.add_ii, Z.sub_ii, Z.mul_ii, Z.fdiv_ii, Z.mod_ii, Z.pow_ii, Z.add_tt, Z.lt_ii, Z.le_ii, Z.gt_ii, Z.ge_ii, Z.eq_ii, Z.ne_ii, Z.eq_dd, Z.ne_dd, Z.isN_d, Z.notN_d, Z.wt_tup, Z.D.deq, ty_emp, frS]
theorem l_frs (k : Nat) (s0 : Option D) (A : Hh) : ∀ (xs : List D) (n : Int) (s2 : Option D), dats xs = true → ∃ s2', forL [] (gnm 2) (lb__law_are_frames_0 ⟨callN Pg (k + 1)⟩) xs [s0, some (.int n), s2] A
    = if xs.all frS = true then some (.nx [s0, some (.int (n + (thr xs).sum)), s2'] A) else some (.rt (.bl false) A)
  | [], n, s2, _ => ⟨s2, by simp [forL, wOk, thr]⟩
  | x :: xs, n, s2, h => by
    have h' : (dat x && dats xs) = true := h
    rw [Bool.and_eq_true] at h'
    have b := e_lfr k s0 n x A h'.1
    have g1 : gnm 2 x [s0, some (.int n), s2] A = some (.ok [s0, some (.int n), some x] A) := rfl
    obtain ⟨t, r⟩ := l_frs k s0 A xs (n + th1 x) (some x) h'.2
    have ts : (thr (x :: xs)).sum = th1 x + (thr xs).sum := by
      unfold thr
      rw [List.map_cons, List.sum_cons]
    refine ⟨t, ?_⟩
    rw [List.all_cons]
    cases q : frS x with
    | false =>
      rw [q, if_neg Bool.false_ne_true] at b
      simp only [forL, wOk, List.all_nil, if_true, g1, b, Bool.false_and]
      rw [if_neg Bool.false_ne_true]
    | true =>
      rw [q, if_pos rfl] at b
      simp only [forL, wOk, List.all_nil, if_true, g1, b, Bool.true_and]
      rw [r, ts, Int.add_assoc]
theorem e_lfrs (k : Nat) (x : D) (A : Hh) (hx : dat x = true) : callN Pg (k + 2) i__law_are_frames [x] A = some (.ok (.bl (fsS x)) A) := by
  rw [c__law_are_frames, mb__law_are_frames]
  cases x with
  | ref _ => cases hx
  | exc _ => cases hx
  | tup fs =>
    rw [fsS_t]
    by_cases h1 : 1 ≤ fs.length
    · by_cases h3 : fs.length ≤ 3
      · have h1' : (1 : Int) ≤ fs.length := by omega
        have h3' : (fs.length : Int) ≤ 3 := by omega
        obtain ⟨t, l⟩ := l_frs k (some (.tup fs)) A fs 0 none (dtup hx)
        rw [Int.zero_add] at l
        cases q : fs.all frS with
        | false => rw [q, if_neg Bool.false_ne_true] at l; simp [Z.sseq, Z.snil, Z.sret, Z.sexp, Z.sasg, Z.spar, Z.sif, Z.spass, Z.sbrk, Z.scnt, Z.sthen_nx, Z.sthen_rt, Z.sthen_bk, Z.sthen_ct, Z.of_ok, Z.andThen_ok, Z.mb, Z.ok, Z.mo, Z.zvar, Z.zc, Z.zbin, Z.zneg, Z.zcmp, Z.zchn, Z.copM, Z.zbl, Z.ztru, Z.zand, Z.zor, Z.znot, Z.zandv, Z.zorv, Z.zite, Z.znil, Z.zcons, Z.ztup, Z.zix, Z.zlen, Z.zisi, Z.isiB, Z.zcall, Z.endD, Z.gnm, Z.gtup, Z.gcons, Z.gnil, Z.gc_self, Z.zallq, Z.zanyq, Z.zsumq, Z.zminq, Z.zmaxq, Z.zlenq, Z.ztupq, Z.zrow, Z.zst, Z.zof, Z.zofL, Z.zlst, Z.lstM, Z.zcomp, Z.zrng, Z.rngM, Z.zcat, Z.zrep, Z.zzip, Z.zsort, Z.zsortR, Z.zsortset, Z.zslT, Z.zslL, Z.znone, Z.zsome, Z.znew, Z.zfz, Z.alloc, Z.wipeD, Z.sfor, Z.zm1, Z.zm0, Z.bmD, Z.zdvm, Z.zabs, Z.zmx2, Z.zmn2, Z.zint, Z.zcnt, Z.gsub, Z.setD, Z.ztt, Z.seq_tup, Z.seq_lst, Z.lst_lst, Z.ty_non, Z.ty_bl, Z.ty_int, Z.ty_str, Z.ty_tup, Z.ty_lst, Z.tru_non, Z.tru_bl, Z.tru_int, Z.tru_tup, Z.tru_lst, Z.len_tup, Z.len_lst, Z.ix_int, Z.at_0, Z.at_1, Z.at_2, Z.at_3, Z.at_4, Z.add_ii, Z.sub_ii, Z.mul_ii, Z.fdiv_ii, Z.mod_ii, Z.pow_ii, Z.add_tt, Z.lt_ii, Z.le_ii, Z.gt_ii, Z.ge_ii, Z.eq_ii, Z.ne_ii, Z.eq_dd, Z.ne_dd, Z.isN_d, Z.notN_d, Z.wt_tup, Z.D.deq, h1', h3', h1, h3, l]
        | true => rw [q, if_pos rfl] at l; simp [Z.sseq, Z.snil, Z.sret, Z.sexp, Z.sasg, Z.spar, Z.sif, Z.spass, Z.sbrk, Z.scnt, Z.sthen_nx, Z.sthen_rt, Z.sthen_bk, Z.sthen_ct, Z.of_ok, Z.andThen_ok, Z.mb, Z.ok, Z.mo, Z.zvar, Z.zc, Z.zbin, Z.zneg, Z.zcmp, Z.zchn, Z.copM, Z.zbl, Z.ztru, Z.zand, Z.zor, Z.znot, Z.zandv, Z.zorv, Z.zite, Z.znil, Z.zcons, Z.ztup, Z.zix, Z.zlen, Z.zisi, Z.isiB, Z.zcall, Z.endD, Z.gnm, Z.gtup, Z.gcons, Z.gnil, Z.gc_self, Z.zallq, Z.zanyq, Z.zsumq, Z.zminq, Z.zmaxq, Z.zlenq, Z.ztupq, Z.zrow, Z.zst, Z.zof, Z.zofL, Z.zlst, Z.lstM, Z.zcomp, Z.zrng, Z.rngM, Z.zcat, Z.zrep, Z.zzip, Z.zsort, Z.zsortR, Z.zsortset, Z.zslT, Z.zslL, Z.znone, Z.zsome, Z.znew, Z.zfz, Z.alloc, Z.wipeD, Z.sfor, Z.zm1, Z.zm0, Z.bmD, Z.zdvm, Z.zabs, Z.zmx2, Z.zmn2, Z.zint, Z.zcnt, Z.gsub, Z.setD, Z.ztt, Z.seq_tup, Z.seq_lst, Z.lst_lst, Z.ty_non, Z.ty_bl, Z.ty_int, Z.ty_str, Z.ty_tup, Z.ty_lst, Z.tru_non, Z.tru_bl, Z.tru_int, Z.tru_tup, Z.tru_lst, Z.len_tup, Z.len_lst, Z.ix_int, Z.at_0, Z.at_1, Z.at_2, Z.at_3, Z.at_4, Z.add_ii, Z.sub_ii, Z.mul_ii, Z.fdiv_ii, Z.mod_ii, Z.pow_ii, Z.add_tt, Z.lt_ii, Z.le_ii, Z.gt_ii, Z.ge_ii, Z.eq_ii, Z.ne_ii, Z.eq_dd, Z.ne_dd, Z.isN_d, Z.notN_d, Z.wt_tup, Z.D.deq, h1', h3', h1, h3, l]
      · have h1' : (1 : Int) ≤ fs.length := by omega
        have h3' : ¬ (fs.length : Int) ≤ 3 := by omega
        simp [Z.sseq, Z.snil, Z.sret, Z.sexp, Z.sasg, Z.spar, Z.sif, Z.spass, Z.sbrk, Z.scnt, Z.sthen_nx, Z.sthen_rt, Z.sthen_bk, Z.sthen_ct, Z.of_ok, Z.andThen_ok, Z.mb, Z.ok, Z.mo, Z.zvar, Z.zc, Z.zbin, Z.zneg, Z.zcmp, Z.zchn, Z.copM, Z.zbl, Z.ztru, Z.zand, Z.zor, Z.znot, Z.zandv, Z.zorv, Z.zite, Z.znil, Z.zcons, Z.ztup, Z.zix, Z.zlen, Z.zisi, Z.isiB, Z.zcall, Z.endD, Z.gnm, Z.gtup, Z.gcons, Z.gnil, Z.gc_self, Z.zallq, Z.zanyq, Z.zsumq, Z.zminq, Z.zmaxq, Z.zlenq, Z.ztupq, Z.zrow, Z.zst, Z.zof, Z.zofL, Z.zlst, Z.lstM, Z.zcomp, Z.zrng, Z.rngM, Z.zcat, Z.zrep, Z.zzip, Z.zsort, Z.zsortR, Z.zsortset, Z.zslT, Z.zslL, Z.znone, Z.zsome, Z.znew, Z.zfz, Z.alloc, Z.wipeD, Z.sfor, Z.zm1, Z.zm0, Z.bmD, Z.zdvm, Z.zabs, Z.zmx2, Z.zmn2, Z.zint, Z.zcnt, Z.gsub, Z.setD, Z.ztt, Z.seq_tup, Z.seq_lst, Z.lst_lst, Z.ty_non, Z.ty_bl, Z.ty_int, Z.ty_str, Z.ty_tup, Z.ty_lst, Z.tru_non, Z.tru_bl, Z.tru_int, Z.tru_tup, Z.tru_lst, Z.len_tup, Z.len_lst, Z.ix_int, Z.at_0, Z.at_1, Z.at_2, Z.at_3, Z.at_4, Z.add_ii, Z.sub_ii, Z.mul_ii, Z.fdiv_ii, Z.mod_ii, Z.pow_ii, Z.add_tt, Z.lt_ii, Z.le_ii, Z.gt_ii, Z.ge_ii, Z.eq_ii, Z.ne_ii, Z.eq_dd, Z.ne_dd, Z.isN_d, Z.notN_d, Z.wt_tup, Z.D.deq, h1', h3', h1, h3]
    · have h1' : ¬ (1 : Int) ≤ fs.length := by omega
      simp [Z.sseq, Z.snil, Z.sret, Z.sexp, Z.sasg, Z.spar, Z.sif, Z.spass, Z.sbrk, Z.scnt, Z.sthen_nx, Z.sthen_rt, Z.sthen_bk, Z.sthen_ct, Z.of_ok, Z.andThen_ok, Z.mb, Z.ok, Z.mo, Z.zvar, Z.zc, Z.zbin, Z.zneg, Z.zcmp, Z.zchn, Z.copM, Z.zbl, Z.ztru, Z.zand, Z.zor, Z.znot, Z.zandv, Z.zorv, Z.zite, Z.znil, Z.zcons, Z.ztup, Z.zix, Z.zlen, Z.zisi, Z.isiB, Z.zcall, Z.endD, Z.gnm, Z.gtup, Z.gcons, Z.gnil, Z.gc_self, Z.zallq, Z.zanyq, Z.zsumq, Z.zminq, Z.zmaxq, Z.zlenq, Z.ztupq, Z.zrow, Z.zst, Z.zof, Z.zofL, Z.zlst, Z.lstM, Z.zcomp, Z.zrng, Z.rngM, Z.zcat, Z.zrep, Z.zzip, Z.zsort, Z.zsortR, Z.zsortset, Z.zslT, Z.zslL, Z.znone, Z.zsome, Z.znew, Z.zfz, Z.alloc, Z.wipeD, Z.sfor, Z.zm1, Z.zm0, Z.bmD, Z.zdvm, Z.zabs, Z.zmx2, Z.zmn2, Z.zint, Z.zcnt, Z.gsub, Z.setD, Z.ztt, Z.seq_tup, Z.seq_lst, Z.lst_lst, Z.ty_non, Z.ty_bl, Z.ty_int, Z.ty_str, Z.ty_tup, Z.ty_lst, Z.tru_non, Z.tru_bl, Z.tru_int, Z.tru_tup, Z.tru_lst, Z.len_tup, Z.len_lst, Z.ix_int, Z.at_0, Z.at_1, Z.at_2, Z.at_3, Z.at_4, Z.add_ii, Z.sub_ii, Z.mul_ii, Z.fdiv_ii, Z.mod_ii, Z.pow_ii, Z.add_tt, Z.lt_ii, Z.le_ii, Z.gt_ii, Z.ge_ii, Z.eq_ii, Z.ne_ii, Z.eq_dd, Z.ne_dd, Z.isN_d, Z.notN_d, Z.wt_tup, Z.D.deq, h1', h1]
  | _ => simp [Z.sseq, Z.snil, Z.sret, Z.sexp, Z.sasg, Z.spar, Z.sif, Z.spass, Z.sbrk, Z.scnt, Z.sthen_nx, Z.sthen_rt, Z.sthen_bk, Z.sthen_ct, Z.of_ok, Z.andThen_ok, Z.mb, Z.ok, Z.mo, Z.zvar, Z.zc, Z.zbin, Z.zneg, Z.zcmp, Z.zchn, Z.copM, Z.zbl, Z.ztru, Z.zand, Z.zor, Z.znot, Z.zandv, Z.zorv, Z.zite, Z.znil, Z.zcons, Z.ztup, Z.zix, Z.zlen, Z.zisi, Z.isiB, Z.zcall, Z.endD, Z.gnm, Z.gtup, Z.gcons, Z.gnil, Z.gc_self, Z.zallq, Z.zanyq, Z.zsumq, Z.zminq, Z.zmaxq, Z.zlenq, Z.ztupq, Z.zrow, Z.zst, Z.zof, Z.zofL, Z.zlst, Z.lstM, Z.zcomp, Z.zrng, Z.rngM, Z.zcat, Z.zrep, Z.zzip, Z.zsort, Z.zsortR, Z.zsortset, Z.zslT, Z.zslL, Z.znone, Z.zsome, Z.znew, Z.zfz, Z.alloc, Z.wipeD, Z.sfor, Z.zm1, Z.zm0, Z.bmD, Z.zdvm, Z.zabs, Z.zmx2, Z.zmn2, Z.zint, Z.zcnt, Z.gsub, Z.setD, Z.ztt, Z.seq_tup, Z.seq_lst, Z.lst_lst, Z.ty_non, Z.ty_bl, Z.ty_int, Z.ty_str, Z.ty_tup, Z.ty_lst, Z.tru_non, Z.tru_bl, Z.tru_int, Z.tru_tup, Z.tru_lst, Z.len_tup, Z.len_lst, Z.ix_int, Z.at_0, Z.at_1, Z.at_2, Z.at_3, Z.at_4, Z.add_ii, Z.sub_ii, Z.mul_ii, Z.fdiv_ii, Z.mod_ii, Z.pow_ii, Z.add_tt, Z.lt_ii, Z.le_ii, Z.gt_ii, Z.ge_ii, Z.eq_ii, Z.ne_ii, Z.eq_dd, Z.ne_dd, Z.isN_d, Z.notN_d, Z.wt_tup, Z.D.deq, ty_emp, fsS]
theorem e_lwalk (k : Nat) (s0 : Option D) (m i : Nat) (y : D) (s4 : Option D) (A : Hh) (hy : dat y = true) (hi : i < m) :
    lb__law_are_walks_1 ⟨callN Pg (k + 1)⟩ [s0, some (.int m), some (.int i), some y, none] A = okOr (rowS m i y) [s0, some (.int m), some (.int i), some y, none] A := by
  unfold lb__law_are_walks_1 okOr
  cases y with
  | ref _ => cases hy
  | exc _ => cases hy
  | tup ys =>
    rw [rowS_t]
    by_cases h : ys.length = m
    · have hz : ((ys.length : Int) = (m : Int)) := by omega
      obtain ⟨bs, c, hb⟩ := all_c (g := gnm 4) (e := ce__law_are_walks_0 ⟨callN Pg (k + 1)⟩) (σ := [s0, some (.int m), some (.int i), some (.tup ys), none]) (A := A) (xs := ys) (btwB 0 3) (fun z hz => by
        have e := e_lnum k z 0 3 A (dats_mem (dtup hy) z hz)
        refine ⟨[s0, some (.int m), some (.int i), some (.tup ys), some z], rfl, ?_⟩
        unfold ce__law_are_walks_0
        simp [Z.sseq, Z.snil, Z.sret, Z.sexp, Z.sasg, Z.spar, Z.sif, Z.spass, Z.sbrk, Z.scnt, Z.sthen_nx, Z.sthen_rt, Z.sthen_bk, Z.sthen_ct, Z.of_ok, Z.andThen_ok, Z.mb, Z.ok, Z.mo, Z.zvar, Z.zc, Z.zbin, Z.zneg, Z.zcmp, Z.zchn, Z.copM, Z.zbl, Z.ztru, Z.zand, Z.zor, Z.znot, Z.zandv, Z.zorv, Z.zite, Z.znil, Z.zcons, Z.ztup, Z.zix, Z.zlen, Z.zisi, Z.isiB, Z.zcall, Z.endD, Z.gnm, Z.gtup, Z.gcons, Z.gnil, Z.gc_self, Z.zallq, Z.zanyq, Z.zsumq, Z.zminq, Z.zmaxq, Z.zlenq, Z.ztupq, Z.zrow, Z.zst, Z.zof, Z.zofL, Z.zlst, Z.lstM, Z.zcomp, Z.zrng, Z.rngM, Z.zcat, Z.zrep, Z.zzip, Z.zsort, Z.zsortR, Z.zsortset, Z.zslT, Z.zslL, Z.znone, Z.zsome, Z.znew, Z.zfz, Z.alloc, Z.wipeD, Z.sfor, Z.zm1, Z.zm0, Z.bmD, Z.zdvm, Z.zabs, Z.zmx2, Z.zmn2, Z.zint, Z.zcnt, Z.gsub, Z.setD, Z.ztt, Z.seq_tup, Z.seq_lst, Z.lst_lst, Z.ty_non, Z.ty_bl, Z.ty_int, Z.ty_str, Z.ty_tup, Z.ty_lst, Z.tru_non, Z.tru_bl, Z.tru_int, Z.tru_tup, Z.tru_lst, Z.len_tup, Z.len_lst, Z.ix_int, Z.at_0, Z.at_1, Z.at_2, Z.at_3, Z.at_4, Z.add_ii, Z.sub_ii, Z.mul_ii, Z.fdiv_ii, Z.mod_ii, Z.pow_ii, Z.add_tt, Z.lt_ii, Z.le_ii, Z.gt_ii, Z.ge_ii, Z.eq_ii, Z.ne_ii, Z.eq_dd, Z.ne_dd, Z.isN_d, Z.notN_d, Z.wt_tup, Z.D.deq, e]) (by have := dlen hy; omega)
      rw [decide_eq_true h]
      cases q : ys.all (btwB 0 3) with
      | false => rw [q] at hb; simp [Z.sseq, Z.snil, Z.sret, Z.sexp, Z.sasg, Z.spar, Z.sif, Z.spass, Z.sbrk, Z.scnt, Z.sthen_nx, Z.sthen_rt, Z.sthen_bk, Z.sthen_ct, Z.of_ok, Z.andThen_ok, Z.mb, Z.ok, Z.mo, Z.zvar, Z.zc, Z.zbin, Z.zneg, Z.zcmp, Z.zchn, Z.copM, Z.zbl, Z.ztru, Z.zand, Z.zor, Z.znot, Z.zandv, Z.zorv, Z.zite, Z.znil, Z.zcons, Z.ztup, Z.zix, Z.zlen, Z.zisi, Z.isiB, Z.zcall, Z.endD, Z.gnm, Z.gtup, Z.gcons, Z.gnil, Z.gc_self, Z.zallq, Z.zanyq, Z.zsumq, Z.zminq, Z.zmaxq, Z.zlenq, Z.ztupq, Z.zrow, Z.zst, Z.zof, Z.zofL, Z.zlst, Z.lstM, Z.zcomp, Z.zrng, Z.rngM, Z.zcat, Z.zrep, Z.zzip, Z.zsort, Z.zsortR, Z.zsortset, Z.zslT, Z.zslL, Z.znone, Z.zsome, Z.znew, Z.zfz, Z.alloc, Z.wipeD, Z.sfor, Z.zm1, Z.zm0, Z.bmD, Z.zdvm, Z.zabs, Z.zmx2, Z.zmn2, Z.zint, Z.zcnt, Z.gsub, Z.setD, Z.ztt, Z.seq_tup, Z.seq_lst, Z.lst_lst, Z.ty_non, Z.ty_bl, Z.ty_int, Z.ty_str, Z.ty_tup, Z.ty_lst, Z.tru_non, Z.tru_bl, Z.tru_int, Z.tru_tup, Z.tru_lst, Z.len_tup, Z.len_lst, Z.ix_int, Z.at_0, Z.at_1, Z.at_2, Z.at_3, Z.at_4, Z.add_ii, Z.sub_ii, Z.mul_ii, Z.fdiv_ii, Z.mod_ii, Z.pow_ii, Z.add_tt, Z.lt_ii, Z.le_ii, Z.gt_ii, Z.ge_ii, Z.eq_ii, Z.ne_ii, Z.eq_dd, Z.ne_dd, Z.isN_d, Z.notN_d, Z.wt_tup, Z.D.deq, eqD_ii, hz, c, blsOf_bls, hb]
      | true =>
        rw [q] at hb
        obtain ⟨z, ez, _⟩ := btw_int (List.all_eq_true.mp q _ (gD_mem (xs := ys) (i := i) (by omega)))
        have iy : L2.atI ys (i : Int) = some (.int z) := by rw [at_nat, gD_at (by omega), ez]
        rw [ez]
        have zz : isZ (.int z) = decide (z = 0) := rfl
        rw [zz]
        by_cases hz0 : z = 0
        · simp [Z.sseq, Z.snil, Z.sret, Z.sexp, Z.sasg, Z.spar, Z.sif, Z.spass, Z.sbrk, Z.scnt, Z.sthen_nx, Z.sthen_rt, Z.sthen_bk, Z.sthen_ct, Z.of_ok, Z.andThen_ok, Z.mb, Z.ok, Z.mo, Z.zvar, Z.zc, Z.zbin, Z.zneg, Z.zcmp, Z.zchn, Z.copM, Z.zbl, Z.ztru, Z.zand, Z.zor, Z.znot, Z.zandv, Z.zorv, Z.zite, Z.znil, Z.zcons, Z.ztup, Z.zix, Z.zlen, Z.zisi, Z.isiB, Z.zcall, Z.endD, Z.gnm, Z.gtup, Z.gcons, Z.gnil, Z.gc_self, Z.zallq, Z.zanyq, Z.zsumq, Z.zminq, Z.zmaxq, Z.zlenq, Z.ztupq, Z.zrow, Z.zst, Z.zof, Z.zofL, Z.zlst, Z.lstM, Z.zcomp, Z.zrng, Z.rngM, Z.zcat, Z.zrep, Z.zzip, Z.zsort, Z.zsortR, Z.zsortset, Z.zslT, Z.zslL, Z.znone, Z.zsome, Z.znew, Z.zfz, Z.alloc, Z.wipeD, Z.sfor, Z.zm1, Z.zm0, Z.bmD, Z.zdvm, Z.zabs, Z.zmx2, Z.zmn2, Z.zint, Z.zcnt, Z.gsub, Z.setD, Z.ztt, Z.seq_tup, Z.seq_lst, Z.lst_lst, Z.ty_non, Z.ty_bl, Z.ty_int, Z.ty_str, Z.ty_tup, Z.ty_lst, Z.tru_non, Z.tru_bl, Z.tru_int, Z.tru_tup, Z.tru_lst, Z.len_tup, Z.len_lst, Z.ix_int, Z.at_0, Z.at_1, Z.at_2, Z.at_3, Z.at_4, Z.add_ii, Z.sub_ii, Z.mul_ii, Z.fdiv_ii, Z.mod_ii, Z.pow_ii, Z.add_tt, Z.lt_ii, Z.le_ii, Z.gt_ii, Z.ge_ii, Z.eq_ii, Z.ne_ii, Z.eq_dd, Z.ne_dd, Z.isN_d, Z.notN_d, Z.wt_tup, Z.D.deq, eqD_ii, hz, iy, c, blsOf_bls, hb, hz0]
        · simp [Z.sseq, Z.snil, Z.sret, Z.sexp, Z.sasg, Z.spar, Z.sif, Z.spass, Z.sbrk, Z.scnt, Z.sthen_nx, Z.sthen_rt, Z.sthen_bk, Z.sthen_ct, Z.of_ok, Z.andThen_ok, Z.mb, Z.ok, Z.mo, Z.zvar, Z.zc, Z.zbin, Z.zneg, Z.zcmp, Z.zchn, Z.copM, Z.zbl, Z.ztru, Z.zand, Z.zor, Z.znot, Z.zandv, Z.zorv, Z.zite, Z.znil, Z.zcons, Z.ztup, Z.zix, Z.zlen, Z.zisi, Z.isiB, Z.zcall, Z.endD, Z.gnm, Z.gtup, Z.gcons, Z.gnil, Z.gc_self, Z.zallq, Z.zanyq, Z.zsumq, Z.zminq, Z.zmaxq, Z.zlenq, Z.ztupq, Z.zrow, Z.zst, Z.zof, Z.zofL, Z.zlst, Z.lstM, Z.zcomp, Z.zrng, Z.rngM, Z.zcat, Z.zrep, Z.zzip, Z.zsort, Z.zsortR, Z.zsortset, Z.zslT, Z.zslL, Z.znone, Z.zsome, Z.znew, Z.zfz, Z.alloc, Z.wipeD, Z.sfor, Z.zm1, Z.zm0, Z.bmD, Z.zdvm, Z.zabs, Z.zmx2, Z.zmn2, Z.zint, Z.zcnt, Z.gsub, Z.setD, Z.ztt, Z.seq_tup, Z.seq_lst, Z.lst_lst, Z.ty_non, Z.ty_bl, Z.ty_int, Z.ty_str, Z.ty_tup, Z.ty_lst, Z.tru_non, Z.tru_bl, Z.tru_int, Z.tru_tup, Z.tru_lst, Z.len_tup, Z.len_lst, Z.ix_int, Z.at_0, Z.at_1, Z.at_2, Z.at_3, Z.at_4, Z.add_ii, Z.sub_ii, Z.mul_ii, Z.fdiv_ii, Z.mod_ii, Z.pow_ii, Z.add_tt, Z.lt_ii, Z.le_ii, Z.gt_ii, Z.ge_ii, Z.eq_ii, Z.ne_ii, Z.eq_dd, Z.ne_dd, Z.isN_d, Z.notN_d, Z.wt_tup, Z.D.deq, eqD_ii, hz, iy, c, blsOf_bls, hb, hz0]
    · have hz : ¬ ((ys.length : Int) = (m : Int)) := by omega
      rw [decide_eq_false h]
      simp [Z.sseq, Z.snil, Z.sret, Z.sexp, Z.sasg, Z.spar, Z.sif, Z.spass, Z.sbrk, Z.scnt, Z.sthen_nx, Z.sthen_rt, Z.sthen_bk, Z.sthen_ct, Z.of_ok, Z.andThen_ok, Z.mb, Z.ok, Z.mo, Z.zvar, Z.zc, Z.zbin, Z.zneg, Z.zcmp, Z.zchn, Z.copM, Z.zbl, Z.ztru, Z.zand, Z.zor, Z.znot, Z.zandv, Z.zorv, Z.zite, Z.znil, Z.zcons, Z.ztup, Z.zix, Z.zlen, Z.zisi, Z.isiB, Z.zcall, Z.endD, Z.gnm, Z.gtup, Z.gcons, Z.gnil, Z.gc_self, Z.zallq, Z.zanyq, Z.zsumq, Z.zminq, Z.zmaxq, Z.zlenq, Z.ztupq, Z.zrow, Z.zst, Z.zof, Z.zofL, Z.zlst, Z.lstM, Z.zcomp, Z.zrng, Z.rngM, Z.zcat, Z.zrep, Z.zzip, Z.zsort, Z.zsortR, Z.zsortset, Z.zslT, Z.zslL, Z.znone, Z.zsome, Z.znew, Z.zfz, Z.alloc, Z.wipeD, Z.sfor, Z.zm1, Z.zm0, Z.bmD, Z.zdvm, Z.zabs, Z.zmx2, Z.zmn2, Z.zint, Z.zcnt, Z.gsub, Z.setD, Z.ztt, Z.seq_tup, Z.seq_lst, Z.lst_lst, Z.ty_non, Z.ty_bl, Z.ty_int, Z.ty_str, Z.ty_tup, Z.ty_lst, Z.tru_non, Z.tru_bl, Z.tru_int, Z.tru_tup, Z.tru_lst, Z.len_tup, Z.len_lst, Z.ix_int, Z.at_0, Z.at_1, Z.at_2, Z.at_3, Z.at_4, Z.add_ii, Z.sub_ii, Z.mul_ii, Z.fdiv_ii, Z.mod_ii, Z.pow_ii, Z.add_tt, Z.lt_ii, Z.le_ii, Z.gt_ii, Z.ge_ii, Z.eq_ii, Z.ne_ii, Z.eq_dd, Z.ne_dd, Z.isN_d, Z.notN_d, Z.wt_tup, Z.D.deq, eqD_ii, hz]
  | _ => simp [Z.sseq, Z.snil, Z.sret, Z.sexp, Z.sasg, Z.spar, Z.sif, Z.spass, Z.sbrk, Z.scnt, Z.sthen_nx, Z.sthen_rt, Z.sthen_bk, Z.sthen_ct, Z.of_ok, Z.andThen_ok, Z.mb, Z.ok, Z.mo, Z.zvar, Z.zc, Z.zbin, Z.zneg, Z.zcmp, Z.zchn, Z.copM, Z.zbl, Z.ztru, Z.zand, Z.zor, Z.znot, Z.zandv, Z.zorv, Z.zite, Z.znil, Z.zcons, Z.ztup, Z.zix, Z.zlen, Z.zisi, Z.isiB, Z.zcall, Z.endD, Z.gnm, Z.gtup, Z.gcons, Z.gnil, Z.gc_self, Z.zallq, Z.zanyq, Z.zsumq, Z.zminq, Z.zmaxq, Z.zlenq, Z.ztupq, Z.zrow, Z.zst, Z.zof, Z.zofL, Z.zlst, Z.lstM, Z.zcomp, Z.zrng, Z.rngM, Z.zcat, Z.zrep, Z.zzip, Z.zsort, Z.zsortR, Z.zsortset, Z.zslT, Z.zslL, Z.znone, Z.zsome, Z.znew, Z.zfz, Z.alloc, Z.wipeD, Z.sfor, Z.zm1, Z.zm0, Z.bmD, Z.zdvm, Z.zabs, Z.zmx2, Z.zmn2, Z.zint, Z.zcnt, Z.gsub, Z.setD, Z.ztt, Z.seq_tup, Z.seq_lst, Z.lst_lst, Z.ty_non, Z.ty_bl, Z.ty_int, Z.ty_str, Z.ty_tup, Z.ty_lst, Z.tru_non, Z.tru_bl, Z.tru_int, Z.tru_tup, Z.tru_lst, Z.len_tup, Z.len_lst, Z.ix_int, Z.at_0, Z.at_1, Z.at_2, Z.at_3, Z.at_4, Z.add_ii, Z.sub_ii, Z.mul_ii, Z.fdiv_ii, Z.mod_ii, Z.pow_ii, Z.add_tt, Z.lt_ii, Z.le_ii, Z.gt_ii, Z.ge_ii, Z.eq_ii, Z.ne_ii, Z.eq_dd, Z.ne_dd, Z.isN_d, Z.notN_d, Z.wt_tup, Z.D.deq, ty_emp, rowS]
theorem e_lwalks (k : Nat) (x : D) (m : Nat) (A : Hh) (hx : dat x = true) : callN Pg (k + 2) i__law_are_walks [x, .int m] A = some (.ok (.bl (wkS m x)) A) := by
  rw [c__law_are_walks, mb__law_are_walks]
  cases x with
  | ref _ => cases hx
  | exc _ => cases hx
  | tup xs =>
    rw [wkS_t]
    by_cases h : xs.length = m
    · have hz : ((xs.length : Int) = (m : Int)) := by omega
      obtain ⟨s2', s3', l⟩ := walk_all (b := lb__law_are_walks_1 ⟨callN Pg (k + 1)⟩) (s0 := some (.tup xs)) (s1 := some (.int m)) (A := A) (xs := xs) (rowS m) (fun i y hi hy => e_lwalk k _ m i y none A hy (by omega)) (dtup hx) (List.range xs.length) none none (fun i hi => List.mem_range.mp hi)
      rw [← enum_from, h] at l
      rw [decide_eq_true h]
      have ez : zenum (zof (zvar 0)) [some (.tup xs), some (.int m), none, none, none] A = some (.ok (enumD xs, []) A) := rfl
      unfold okOr at l
      cases q : (List.range m).all (fun i => rowS m i (gD xs i)) with
      | false => rw [q, if_neg Bool.false_ne_true] at l; simp [Z.sseq, Z.snil, Z.sret, Z.sexp, Z.sasg, Z.spar, Z.sif, Z.spass, Z.sbrk, Z.scnt, Z.sthen_nx, Z.sthen_rt, Z.sthen_bk, Z.sthen_ct, Z.of_ok, Z.andThen_ok, Z.mb, Z.ok, Z.mo, Z.zvar, Z.zc, Z.zbin, Z.zneg, Z.zcmp, Z.zchn, Z.copM, Z.zbl, Z.ztru, Z.zand, Z.zor, Z.znot, Z.zandv, Z.zorv, Z.zite, Z.znil, Z.zcons, Z.ztup, Z.zix, Z.zlen, Z.zisi, Z.isiB, Z.zcall, Z.endD, Z.gnm, Z.gtup, Z.gcons, Z.gnil, Z.gc_self, Z.zallq, Z.zanyq, Z.zsumq, Z.zminq, Z.zmaxq, Z.zlenq, Z.ztupq, Z.zrow, Z.zst, Z.zof, Z.zofL, Z.zlst, Z.lstM, Z.zcomp, Z.zrng, Z.rngM, Z.zcat, Z.zrep, Z.zzip, Z.zsort, Z.zsortR, Z.zsortset, Z.zslT, Z.zslL, Z.znone, Z.zsome, Z.znew, Z.zfz, Z.alloc, Z.wipeD, Z.sfor, Z.zm1, Z.zm0, Z.bmD, Z.zdvm, Z.zabs, Z.zmx2, Z.zmn2, Z.zint, Z.zcnt, Z.gsub, Z.setD, Z.ztt, Z.seq_tup, Z.seq_lst, Z.lst_lst, Z.ty_non, Z.ty_bl, Z.ty_int, Z.ty_str, Z.ty_tup, Z.ty_lst, Z.tru_non, Z.tru_bl, Z.tru_int, Z.tru_tup, Z.tru_lst, Z.len_tup, Z.len_lst, Z.ix_int, Z.at_0, Z.at_1, Z.at_2, Z.at_3, Z.at_4, Z.add_ii, Z.sub_ii, Z.mul_ii, Z.fdiv_ii, Z.mod_ii, Z.pow_ii, Z.add_tt, Z.lt_ii, Z.le_ii, Z.gt_ii, Z.ge_ii, Z.eq_ii, Z.ne_ii, Z.eq_dd, Z.ne_dd, Z.isN_d, Z.notN_d, Z.wt_tup, Z.D.deq, eqD_ii, hz, ez, l]
      | true => rw [q, if_pos rfl] at l; simp [Z.sseq, Z.snil, Z.sret, Z.sexp, Z.sasg, Z.spar, Z.sif, Z.spass, Z.sbrk, Z.scnt, Z.sthen_nx, Z.sthen_rt, Z.sthen_bk, Z.sthen_ct, Z.of_ok, Z.andThen_ok, Z.mb, Z.ok, Z.mo, Z.zvar, Z.zc, Z.zbin, Z.zneg, Z.zcmp, Z.zchn, Z.copM, Z.zbl, Z.ztru, Z.zand, Z.zor, Z.znot, Z.zandv, Z.zorv, Z.zite, Z.znil, Z.zcons, Z.ztup, Z.zix, Z.zlen, Z.zisi, Z.isiB, Z.zcall, Z.endD, Z.gnm, Z.gtup, Z.gcons, Z.gnil, Z.gc_self, Z.zallq, Z.zanyq, Z.zsumq, Z.zminq, Z.zmaxq, Z.zlenq, Z.ztupq, Z.zrow, Z.zst, Z.zof, Z.zofL, Z.zlst, Z.lstM, Z.zcomp, Z.zrng, Z.rngM, Z.zcat, Z.zrep, Z.zzip, Z.zsort, Z.zsortR, Z.zsortset, Z.zslT, Z.zslL, Z.znone, Z.zsome, Z.znew, Z.zfz, Z.alloc, Z.wipeD, Z.sfor, Z.zm1, Z.zm0, Z.bmD, Z.zdvm, Z.zabs, Z.zmx2, Z.zmn2, Z.zint, Z.zcnt, Z.gsub, Z.setD, Z.ztt, Z.seq_tup, Z.seq_lst, Z.lst_lst, Z.ty_non, Z.ty_bl, Z.ty_int, Z.ty_str, Z.ty_tup, Z.ty_lst, Z.tru_non, Z.tru_bl, Z.tru_int, Z.tru_tup, Z.tru_lst, Z.len_tup, Z.len_lst, Z.ix_int, Z.at_0, Z.at_1, Z.at_2, Z.at_3, Z.at_4, Z.add_ii, Z.sub_ii, Z.mul_ii, Z.fdiv_ii, Z.mod_ii, Z.pow_ii, Z.add_tt, Z.lt_ii, Z.le_ii, Z.gt_ii, Z.ge_ii, Z.eq_ii, Z.ne_ii, Z.eq_dd, Z.ne_dd, Z.isN_d, Z.notN_d, Z.wt_tup, Z.D.deq, eqD_ii, hz, ez, l]
    · have hz : ¬ ((xs.length : Int) = (m : Int)) := by omega
      rw [decide_eq_false h]
      simp [Z.sseq, Z.snil, Z.sret, Z.sexp, Z.sasg, Z.spar, Z.sif, Z.spass, Z.sbrk, Z.scnt, Z.sthen_nx, Z.sthen_rt, Z.sthen_bk, Z.sthen_ct, Z.of_ok, Z.andThen_ok, Z.mb, Z.ok, Z.mo, Z.zvar, Z.zc, Z.zbin, Z.zneg, Z.zcmp, Z.zchn, Z.copM, Z.zbl, Z.ztru, Z.zand, Z.zor, Z.znot, Z.zandv, Z.zorv, Z.zite, Z.znil, Z.zcons, Z.ztup, Z.zix, Z.zlen, Z.zisi, Z.isiB, Z.zcall, Z.endD, Z.gnm, Z.gtup, Z.gcons, Z.gnil, Z.gc_self, Z.zallq, Z.zanyq, Z.zsumq, Z.zminq, Z.zmaxq, Z.zlenq, Z.ztupq, Z.zrow, Z.zst, Z.zof, Z.zofL, Z.zlst, Z.lstM, Z.zcomp, Z.zrng, Z.rngM, Z.zcat, Z.zrep, Z.zzip, Z.zsort, Z.zsortR, Z.zsortset, Z.zslT, Z.zslL, Z.znone, Z.zsome, Z.znew, Z.zfz, Z.alloc, Z.wipeD, Z.sfor, Z.zm1, Z.zm0, Z.bmD, Z.zdvm, Z.zabs, Z.zmx2, Z.zmn2, Z.zint, Z.zcnt, Z.gsub, Z.setD, Z.ztt, Z.seq_tup, Z.seq_lst, Z.lst_lst, Z.ty_non, Z.ty_bl, Z.ty_int, Z.ty_str, Z.ty_tup, Z.ty_lst, Z.tru_non, Z.tru_bl, Z.tru_int, Z.tru_tup, Z.tru_lst, Z.len_tup, Z.len_lst, Z.ix_int, Z.at_0, Z.at_1, Z.at_2, Z.at_3, Z.at_4, Z.add_ii, Z.sub_ii, Z.mul_ii, Z.fdiv_ii, Z.mod_ii, Z.pow_ii, Z.add_tt, Z.lt_ii, Z.le_ii, Z.gt_ii, Z.ge_ii, Z.eq_ii, Z.ne_ii, Z.eq_dd, Z.ne_dd, Z.isN_d, Z.notN_d, Z.wt_tup, Z.D.deq, eqD_ii, hz]
  | _ => simp [Z.sseq, Z.snil, Z.sret, Z.sexp, Z.sasg, Z.spar, Z.sif, Z.spass, Z.sbrk, Z.scnt, Z.sthen_nx, Z.sthen_rt, Z.sthen_bk, Z.sthen_ct, Z.of_ok, Z.andThen_ok, Z.mb, Z.ok, Z.mo, Z.zvar, Z.zc, Z.zbin, Z.zneg, Z.zcmp, Z.zchn, Z.copM, Z.zbl, Z.ztru, Z.zand, Z.zor, Z.znot, Z.zandv, Z.zorv, Z.zite, Z.znil, Z.zcons, Z.ztup, Z.zix, Z.zlen, Z.zisi, Z.isiB, Z.zcall, Z.endD, Z.gnm, Z.gtup, Z.gcons, Z.gnil, Z.gc_self, Z.zallq, Z.zanyq, Z.zsumq, Z.zminq, Z.zmaxq, Z.zlenq, Z.ztupq, Z.zrow, Z.zst, Z.zof, Z.zofL, Z.zlst, Z.lstM, Z.zcomp, Z.zrng, Z.rngM, Z.zcat, Z.zrep, Z.zzip, Z.zsort, Z.zsortR, Z.zsortset, Z.zslT, Z.zslL, Z.znone, Z.zsome, Z.znew, Z.zfz, Z.alloc, Z.wipeD, Z.sfor, Z.zm1, Z.zm0, Z.bmD, Z.zdvm, Z.zabs, Z.zmx2, Z.zmn2, Z.zint, Z.zcnt, Z.gsub, Z.setD, Z.ztt, Z.seq_tup, Z.seq_lst, Z.lst_lst, Z.ty_non, Z.ty_bl, Z.ty_int, Z.ty_str, Z.ty_tup, Z.ty_lst, Z.tru_non, Z.tru_bl, Z.tru_int, Z.tru_tup, Z.tru_lst, Z.len_tup, Z.len_lst, Z.ix_int, Z.at_0, Z.at_1, Z.at_2, Z.at_3, Z.at_4, Z.add_ii, Z.sub_ii, Z.mul_ii, Z.fdiv_ii, Z.mod_ii, Z.pow_ii, Z.add_tt, Z.lt_ii, Z.le_ii, Z.gt_ii, Z.ge_ii, Z.eq_ii, Z.ne_ii, Z.eq_dd, Z.ne_dd, Z.isN_d, Z.notN_d, Z.wt_tup, Z.D.deq, ty_emp, wkS]
theorem fsS_tup {a : D} (h : fsS a = true) : ∃ fs, a = .tup fs := by
  cases a with
  | tup fs => exact ⟨fs, rfl⟩
  | _ => cases h
theorem e_lsmall (k : Nat) (x : D) (A : Hh) (hx : dat x = true) : callN Pg (k + 3) i__law_is_small [x] A = some (.ok (.bl (smallB x)) A) := by
  rw [c__law_is_small, mb__law_is_small]
  cases x with
  | ref _ => cases hx
  | exc _ => cases hx
  | tup xs =>
    by_cases h : xs.length = 5
    · obtain ⟨a, b, c, d, e, rfl⟩ := five_ex h
      have dd := dtup hx
      have da := dats_mem dd a (by simp)
      have db := dats_mem dd b (by simp)
      have dc := dats_mem dd c (by simp)
      have d4 := dats_mem dd d (by simp)
      have de := dats_mem dd e (by simp)
      have e5 := e_lnum (k + 1) e 0 2 A de
      have f := e_lfrs k a A da
      rw [smallB_5]
      cases q : fsS a with
      | false => rw [q] at f; simp [Z.sseq, Z.snil, Z.sret, Z.sexp, Z.sasg, Z.spar, Z.sif, Z.spass, Z.sbrk, Z.scnt, Z.sthen_nx, Z.sthen_rt, Z.sthen_bk, Z.sthen_ct, Z.of_ok, Z.andThen_ok, Z.mb, Z.ok, Z.mo, Z.zvar, Z.zc, Z.zbin, Z.zneg, Z.zcmp, Z.zchn, Z.copM, Z.zbl, Z.ztru, Z.zand, Z.zor, Z.znot, Z.zandv, Z.zorv, Z.zite, Z.znil, Z.zcons, Z.ztup, Z.zix, Z.zlen, Z.zisi, Z.isiB, Z.zcall, Z.endD, Z.gnm, Z.gtup, Z.gcons, Z.gnil, Z.gc_self, Z.zallq, Z.zanyq, Z.zsumq, Z.zminq, Z.zmaxq, Z.zlenq, Z.ztupq, Z.zrow, Z.zst, Z.zof, Z.zofL, Z.zlst, Z.lstM, Z.zcomp, Z.zrng, Z.rngM, Z.zcat, Z.zrep, Z.zzip, Z.zsort, Z.zsortR, Z.zsortset, Z.zslT, Z.zslL, Z.znone, Z.zsome, Z.znew, Z.zfz, Z.alloc, Z.wipeD, Z.sfor, Z.zm1, Z.zm0, Z.bmD, Z.zdvm, Z.zabs, Z.zmx2, Z.zmn2, Z.zint, Z.zcnt, Z.gsub, Z.setD, Z.ztt, Z.seq_tup, Z.seq_lst, Z.lst_lst, Z.ty_non, Z.ty_bl, Z.ty_int, Z.ty_str, Z.ty_tup, Z.ty_lst, Z.tru_non, Z.tru_bl, Z.tru_int, Z.tru_tup, Z.tru_lst, Z.len_tup, Z.len_lst, Z.ix_int, Z.at_0, Z.at_1, Z.at_2, Z.at_3, Z.at_4, Z.add_ii, Z.sub_ii, Z.mul_ii, Z.fdiv_ii, Z.mod_ii, Z.pow_ii, Z.add_tt, Z.lt_ii, Z.le_ii, Z.gt_ii, Z.ge_ii, Z.eq_ii, Z.ne_ii, Z.eq_dd, Z.ne_dd, Z.isN_d, Z.notN_d, Z.wt_tup, Z.D.deq, eqD_ii, f]
      | true =>
        rw [q] at f
        obtain ⟨fs, rfl⟩ := fsS_tup q
        have tl : tlen (.tup fs) = fs.length := rfl
        rw [tl]
        have wk := e_lwalks k b fs.length A db
        cases q2 : wkS fs.length b with
        | false => rw [q2] at wk; simp [Z.sseq, Z.snil, Z.sret, Z.sexp, Z.sasg, Z.spar, Z.sif, Z.spass, Z.sbrk, Z.scnt, Z.sthen_nx, Z.sthen_rt, Z.sthen_bk, Z.sthen_ct, Z.of_ok, Z.andThen_ok, Z.mb, Z.ok, Z.mo, Z.zvar, Z.zc, Z.zbin, Z.zneg, Z.zcmp, Z.zchn, Z.copM, Z.zbl, Z.ztru, Z.zand, Z.zor, Z.znot, Z.zandv, Z.zorv, Z.zite, Z.znil, Z.zcons, Z.ztup, Z.zix, Z.zlen, Z.zisi, Z.isiB, Z.zcall, Z.endD, Z.gnm, Z.gtup, Z.gcons, Z.gnil, Z.gc_self, Z.zallq, Z.zanyq, Z.zsumq, Z.zminq, Z.zmaxq, Z.zlenq, Z.ztupq, Z.zrow, Z.zst, Z.zof, Z.zofL, Z.zlst, Z.lstM, Z.zcomp, Z.zrng, Z.rngM, Z.zcat, Z.zrep, Z.zzip, Z.zsort, Z.zsortR, Z.zsortset, Z.zslT, Z.zslL, Z.znone, Z.zsome, Z.znew, Z.zfz, Z.alloc, Z.wipeD, Z.sfor, Z.zm1, Z.zm0, Z.bmD, Z.zdvm, Z.zabs, Z.zmx2, Z.zmn2, Z.zint, Z.zcnt, Z.gsub, Z.setD, Z.ztt, Z.seq_tup, Z.seq_lst, Z.lst_lst, Z.ty_non, Z.ty_bl, Z.ty_int, Z.ty_str, Z.ty_tup, Z.ty_lst, Z.tru_non, Z.tru_bl, Z.tru_int, Z.tru_tup, Z.tru_lst, Z.len_tup, Z.len_lst, Z.ix_int, Z.at_0, Z.at_1, Z.at_2, Z.at_3, Z.at_4, Z.add_ii, Z.sub_ii, Z.mul_ii, Z.fdiv_ii, Z.mod_ii, Z.pow_ii, Z.add_tt, Z.lt_ii, Z.le_ii, Z.gt_ii, Z.ge_ii, Z.eq_ii, Z.ne_ii, Z.eq_dd, Z.ne_dd, Z.isN_d, Z.notN_d, Z.wt_tup, Z.D.deq, eqD_ii, f, wk]
        | true =>
          rw [q2] at wk
          cases c with
          | ref _ => cases dc
          | exc _ => cases dc
          | tup ps =>
            rw [pcS_t]
            by_cases hp : ps.length = 2
            · have hp' : (ps.length : Int) = 2 := by omega
              obtain ⟨bs2, c2, hb2⟩ := all_c (g := gnm 1) (e := ce__law_is_small_0 ⟨callN Pg (k + 2)⟩) (σ := [some (.tup [.tup fs, b, .tup ps, d, e]), none]) (A := A) (xs := ps) (btwB 1 3) (fun y hy => by
                have e := e_lnum (k + 1) y 1 3 A (dats_mem (dtup dc) y hy)
                refine ⟨_, rfl, ?_⟩
                unfold ce__law_is_small_0
                simp [Z.sseq, Z.snil, Z.sret, Z.sexp, Z.sasg, Z.spar, Z.sif, Z.spass, Z.sbrk, Z.scnt, Z.sthen_nx, Z.sthen_rt, Z.sthen_bk, Z.sthen_ct, Z.of_ok, Z.andThen_ok, Z.mb, Z.ok, Z.mo, Z.zvar, Z.zc, Z.zbin, Z.zneg, Z.zcmp, Z.zchn, Z.copM, Z.zbl, Z.ztru, Z.zand, Z.zor, Z.znot, Z.zandv, Z.zorv, Z.zite, Z.znil, Z.zcons, Z.ztup, Z.zix, Z.zlen, Z.zisi, Z.isiB, Z.zcall, Z.endD, Z.gnm, Z.gtup, Z.gcons, Z.gnil, Z.gc_self, Z.zallq, Z.zanyq, Z.zsumq, Z.zminq, Z.zmaxq, Z.zlenq, Z.ztupq, Z.zrow, Z.zst, Z.zof, Z.zofL, Z.zlst, Z.lstM, Z.zcomp, Z.zrng, Z.rngM, Z.zcat, Z.zrep, Z.zzip, Z.zsort, Z.zsortR, Z.zsortset, Z.zslT, Z.zslL, Z.znone, Z.zsome, Z.znew, Z.zfz, Z.alloc, Z.wipeD, Z.sfor, Z.zm1, Z.zm0, Z.bmD, Z.zdvm, Z.zabs, Z.zmx2, Z.zmn2, Z.zint, Z.zcnt, Z.gsub, Z.setD, Z.ztt, Z.seq_tup, Z.seq_lst, Z.lst_lst, Z.ty_non, Z.ty_bl, Z.ty_int, Z.ty_str, Z.ty_tup, Z.ty_lst, Z.tru_non, Z.tru_bl, Z.tru_int, Z.tru_tup, Z.tru_lst, Z.len_tup, Z.len_lst, Z.ix_int, Z.at_0, Z.at_1, Z.at_2, Z.at_3, Z.at_4, Z.add_ii, Z.sub_ii, Z.mul_ii, Z.fdiv_ii, Z.mod_ii, Z.pow_ii, Z.add_tt, Z.lt_ii, Z.le_ii, Z.gt_ii, Z.ge_ii, Z.eq_ii, Z.ne_ii, Z.eq_dd, Z.ne_dd, Z.isN_d, Z.notN_d, Z.wt_tup, Z.D.deq, e]) (by omega)
              cases q3 : ps.all (btwB 1 3) with
              | false => rw [q3] at hb2; simp [Z.sseq, Z.snil, Z.sret, Z.sexp, Z.sasg, Z.spar, Z.sif, Z.spass, Z.sbrk, Z.scnt, Z.sthen_nx, Z.sthen_rt, Z.sthen_bk, Z.sthen_ct, Z.of_ok, Z.andThen_ok, Z.mb, Z.ok, Z.mo, Z.zvar, Z.zc, Z.zbin, Z.zneg, Z.zcmp, Z.zchn, Z.copM, Z.zbl, Z.ztru, Z.zand, Z.zor, Z.znot, Z.zandv, Z.zorv, Z.zite, Z.znil, Z.zcons, Z.ztup, Z.zix, Z.zlen, Z.zisi, Z.isiB, Z.zcall, Z.endD, Z.gnm, Z.gtup, Z.gcons, Z.gnil, Z.gc_self, Z.zallq, Z.zanyq, Z.zsumq, Z.zminq, Z.zmaxq, Z.zlenq, Z.ztupq, Z.zrow, Z.zst, Z.zof, Z.zofL, Z.zlst, Z.lstM, Z.zcomp, Z.zrng, Z.rngM, Z.zcat, Z.zrep, Z.zzip, Z.zsort, Z.zsortR, Z.zsortset, Z.zslT, Z.zslL, Z.znone, Z.zsome, Z.znew, Z.zfz, Z.alloc, Z.wipeD, Z.sfor, Z.zm1, Z.zm0, Z.bmD, Z.zdvm, Z.zabs, Z.zmx2, Z.zmn2, Z.zint, Z.zcnt, Z.gsub, Z.setD, Z.ztt, Z.seq_tup, Z.seq_lst, Z.lst_lst, Z.ty_non, Z.ty_bl, Z.ty_int, Z.ty_str, Z.ty_tup, Z.ty_lst, Z.tru_non, Z.tru_bl, Z.tru_int, Z.tru_tup, Z.tru_lst, Z.len_tup, Z.len_lst, Z.ix_int, Z.at_0, Z.at_1, Z.at_2, Z.at_3, Z.at_4, Z.add_ii, Z.sub_ii, Z.mul_ii, Z.fdiv_ii, Z.mod_ii, Z.pow_ii, Z.add_tt, Z.lt_ii, Z.le_ii, Z.gt_ii, Z.ge_ii, Z.eq_ii, Z.ne_ii, Z.eq_dd, Z.ne_dd, Z.isN_d, Z.notN_d, Z.wt_tup, Z.D.deq, eqD_ii, f, wk, hp, hp', c2, blsOf_bls, hb2]
              | true =>
                rw [q3] at hb2
                cases q5 : btwB 0 2 e with
                | false => rw [q5] at e5; simp [Z.sseq, Z.snil, Z.sret, Z.sexp, Z.sasg, Z.spar, Z.sif, Z.spass, Z.sbrk, Z.scnt, Z.sthen_nx, Z.sthen_rt, Z.sthen_bk, Z.sthen_ct, Z.of_ok, Z.andThen_ok, Z.mb, Z.ok, Z.mo, Z.zvar, Z.zc, Z.zbin, Z.zneg, Z.zcmp, Z.zchn, Z.copM, Z.zbl, Z.ztru, Z.zand, Z.zor, Z.znot, Z.zandv, Z.zorv, Z.zite, Z.znil, Z.zcons, Z.ztup, Z.zix, Z.zlen, Z.zisi, Z.isiB, Z.zcall, Z.endD, Z.gnm, Z.gtup, Z.gcons, Z.gnil, Z.gc_self, Z.zallq, Z.zanyq, Z.zsumq, Z.zminq, Z.zmaxq, Z.zlenq, Z.ztupq, Z.zrow, Z.zst, Z.zof, Z.zofL, Z.zlst, Z.lstM, Z.zcomp, Z.zrng, Z.rngM, Z.zcat, Z.zrep, Z.zzip, Z.zsort, Z.zsortR, Z.zsortset, Z.zslT, Z.zslL, Z.znone, Z.zsome, Z.znew, Z.zfz, Z.alloc, Z.wipeD, Z.sfor, Z.zm1, Z.zm0, Z.bmD, Z.zdvm, Z.zabs, Z.zmx2, Z.zmn2, Z.zint, Z.zcnt, Z.gsub, Z.setD, Z.ztt, Z.seq_tup, Z.seq_lst, Z.lst_lst, Z.ty_non, Z.ty_bl, Z.ty_int, Z.ty_str, Z.ty_tup, Z.ty_lst, Z.tru_non, Z.tru_bl, Z.tru_int, Z.tru_tup, Z.tru_lst, Z.len_tup, Z.len_lst, Z.ix_int, Z.at_0, Z.at_1, Z.at_2, Z.at_3, Z.at_4, Z.add_ii, Z.sub_ii, Z.mul_ii, Z.fdiv_ii, Z.mod_ii, Z.pow_ii, Z.add_tt, Z.lt_ii, Z.le_ii, Z.gt_ii, Z.ge_ii, Z.eq_ii, Z.ne_ii, Z.eq_dd, Z.ne_dd, Z.isN_d, Z.notN_d, Z.wt_tup, Z.D.deq, eqD_ii, f, wk, hp, hp', c2, blsOf_bls, hb2, e5]
                | true =>
                  rw [q5] at e5
                  cases d with
                  | ref _ => cases d4
                  | exc _ => cases d4
                  | str z =>
                    have r := (inR A z d4).2
                    simp [Z.sseq, Z.snil, Z.sret, Z.sexp, Z.sasg, Z.spar, Z.sif, Z.spass, Z.sbrk, Z.scnt, Z.sthen_nx, Z.sthen_rt, Z.sthen_bk, Z.sthen_ct, Z.of_ok, Z.andThen_ok, Z.mb, Z.ok, Z.mo, Z.zvar, Z.zc, Z.zbin, Z.zneg, Z.zcmp, Z.zchn, Z.copM, Z.zbl, Z.ztru, Z.zand, Z.zor, Z.znot, Z.zandv, Z.zorv, Z.zite, Z.znil, Z.zcons, Z.ztup, Z.zix, Z.zlen, Z.zisi, Z.isiB, Z.zcall, Z.endD, Z.gnm, Z.gtup, Z.gcons, Z.gnil, Z.gc_self, Z.zallq, Z.zanyq, Z.zsumq, Z.zminq, Z.zmaxq, Z.zlenq, Z.ztupq, Z.zrow, Z.zst, Z.zof, Z.zofL, Z.zlst, Z.lstM, Z.zcomp, Z.zrng, Z.rngM, Z.zcat, Z.zrep, Z.zzip, Z.zsort, Z.zsortR, Z.zsortset, Z.zslT, Z.zslL, Z.znone, Z.zsome, Z.znew, Z.zfz, Z.alloc, Z.wipeD, Z.sfor, Z.zm1, Z.zm0, Z.bmD, Z.zdvm, Z.zabs, Z.zmx2, Z.zmn2, Z.zint, Z.zcnt, Z.gsub, Z.setD, Z.ztt, Z.seq_tup, Z.seq_lst, Z.lst_lst, Z.ty_non, Z.ty_bl, Z.ty_int, Z.ty_str, Z.ty_tup, Z.ty_lst, Z.tru_non, Z.tru_bl, Z.tru_int, Z.tru_tup, Z.tru_lst, Z.len_tup, Z.len_lst, Z.ix_int, Z.at_0, Z.at_1, Z.at_2, Z.at_3, Z.at_4, Z.add_ii, Z.sub_ii, Z.mul_ii, Z.fdiv_ii, Z.mod_ii, Z.pow_ii, Z.add_tt, Z.lt_ii, Z.le_ii, Z.gt_ii, Z.ge_ii, Z.eq_ii, Z.ne_ii, Z.eq_dd, Z.ne_dd, Z.isN_d, Z.notN_d, Z.wt_tup, Z.D.deq, eqD_ii, f, wk, hp, hp', c2, blsOf_bls, hb2, e5, in_dd, r, SZ]
                  | _ => simp [Z.sseq, Z.snil, Z.sret, Z.sexp, Z.sasg, Z.spar, Z.sif, Z.spass, Z.sbrk, Z.scnt, Z.sthen_nx, Z.sthen_rt, Z.sthen_bk, Z.sthen_ct, Z.of_ok, Z.andThen_ok, Z.mb, Z.ok, Z.mo, Z.zvar, Z.zc, Z.zbin, Z.zneg, Z.zcmp, Z.zchn, Z.copM, Z.zbl, Z.ztru, Z.zand, Z.zor, Z.znot, Z.zandv, Z.zorv, Z.zite, Z.znil, Z.zcons, Z.ztup, Z.zix, Z.zlen, Z.zisi, Z.isiB, Z.zcall, Z.endD, Z.gnm, Z.gtup, Z.gcons, Z.gnil, Z.gc_self, Z.zallq, Z.zanyq, Z.zsumq, Z.zminq, Z.zmaxq, Z.zlenq, Z.ztupq, Z.zrow, Z.zst, Z.zof, Z.zofL, Z.zlst, Z.lstM, Z.zcomp, Z.zrng, Z.rngM, Z.zcat, Z.zrep, Z.zzip, Z.zsort, Z.zsortR, Z.zsortset, Z.zslT, Z.zslL, Z.znone, Z.zsome, Z.znew, Z.zfz, Z.alloc, Z.wipeD, Z.sfor, Z.zm1, Z.zm0, Z.bmD, Z.zdvm, Z.zabs, Z.zmx2, Z.zmn2, Z.zint, Z.zcnt, Z.gsub, Z.setD, Z.ztt, Z.seq_tup, Z.seq_lst, Z.lst_lst, Z.ty_non, Z.ty_bl, Z.ty_int, Z.ty_str, Z.ty_tup, Z.ty_lst, Z.tru_non, Z.tru_bl, Z.tru_int, Z.tru_tup, Z.tru_lst, Z.len_tup, Z.len_lst, Z.ix_int, Z.at_0, Z.at_1, Z.at_2, Z.at_3, Z.at_4, Z.add_ii, Z.sub_ii, Z.mul_ii, Z.fdiv_ii, Z.mod_ii, Z.pow_ii, Z.add_tt, Z.lt_ii, Z.le_ii, Z.gt_ii, Z.ge_ii, Z.eq_ii, Z.ne_ii, Z.eq_dd, Z.ne_dd, Z.isN_d, Z.notN_d, Z.wt_tup, Z.D.deq, eqD_ii, f, wk, hp, hp', c2, blsOf_bls, hb2, e5, ruleB, ty_emp]
            · have hp' : ¬ (ps.length : Int) = 2 := by omega
              simp [Z.sseq, Z.snil, Z.sret, Z.sexp, Z.sasg, Z.spar, Z.sif, Z.spass, Z.sbrk, Z.scnt, Z.sthen_nx, Z.sthen_rt, Z.sthen_bk, Z.sthen_ct, Z.of_ok, Z.andThen_ok, Z.mb, Z.ok, Z.mo, Z.zvar, Z.zc, Z.zbin, Z.zneg, Z.zcmp, Z.zchn, Z.copM, Z.zbl, Z.ztru, Z.zand, Z.zor, Z.znot, Z.zandv, Z.zorv, Z.zite, Z.znil, Z.zcons, Z.ztup, Z.zix, Z.zlen, Z.zisi, Z.isiB, Z.zcall, Z.endD, Z.gnm, Z.gtup, Z.gcons, Z.gnil, Z.gc_self, Z.zallq, Z.zanyq, Z.zsumq, Z.zminq, Z.zmaxq, Z.zlenq, Z.ztupq, Z.zrow, Z.zst, Z.zof, Z.zofL, Z.zlst, Z.lstM, Z.zcomp, Z.zrng, Z.rngM, Z.zcat, Z.zrep, Z.zzip, Z.zsort, Z.zsortR, Z.zsortset, Z.zslT, Z.zslL, Z.znone, Z.zsome, Z.znew, Z.zfz, Z.alloc, Z.wipeD, Z.sfor, Z.zm1, Z.zm0, Z.bmD, Z.zdvm, Z.zabs, Z.zmx2, Z.zmn2, Z.zint, Z.zcnt, Z.gsub, Z.setD, Z.ztt, Z.seq_tup, Z.seq_lst, Z.lst_lst, Z.ty_non, Z.ty_bl, Z.ty_int, Z.ty_str, Z.ty_tup, Z.ty_lst, Z.tru_non, Z.tru_bl, Z.tru_int, Z.tru_tup, Z.tru_lst, Z.len_tup, Z.len_lst, Z.ix_int, Z.at_0, Z.at_1, Z.at_2, Z.at_3, Z.at_4, Z.add_ii, Z.sub_ii, Z.mul_ii, Z.fdiv_ii, Z.mod_ii, Z.pow_ii, Z.add_tt, Z.lt_ii, Z.le_ii, Z.gt_ii, Z.ge_ii, Z.eq_ii, Z.ne_ii, Z.eq_dd, Z.ne_dd, Z.isN_d, Z.notN_d, Z.wt_tup, Z.D.deq, eqD_ii, f, wk, hp, hp']
          | _ => simp [Z.sseq, Z.snil, Z.sret, Z.sexp, Z.sasg, Z.spar, Z.sif, Z.spass, Z.sbrk, Z.scnt, Z.sthen_nx, Z.sthen_rt, Z.sthen_bk, Z.sthen_ct, Z.of_ok, Z.andThen_ok, Z.mb, Z.ok, Z.mo, Z.zvar, Z.zc, Z.zbin, Z.zneg, Z.zcmp, Z.zchn, Z.copM, Z.zbl, Z.ztru, Z.zand, Z.zor, Z.znot, Z.zandv, Z.zorv, Z.zite, Z.znil, Z.zcons, Z.ztup, Z.zix, Z.zlen, Z.zisi, Z.isiB, Z.zcall, Z.endD, Z.gnm, Z.gtup, Z.gcons, Z.gnil, Z.gc_self, Z.zallq, Z.zanyq, Z.zsumq, Z.zminq, Z.zmaxq, Z.zlenq, Z.ztupq, Z.zrow, Z.zst, Z.zof, Z.zofL, Z.zlst, Z.lstM, Z.zcomp, Z.zrng, Z.rngM, Z.zcat, Z.zrep, Z.zzip, Z.zsort, Z.zsortR, Z.zsortset, Z.zslT, Z.zslL, Z.znone, Z.zsome, Z.znew, Z.zfz, Z.alloc, Z.wipeD, Z.sfor, Z.zm1, Z.zm0, Z.bmD, Z.zdvm, Z.zabs, Z.zmx2, Z.zmn2, Z.zint, Z.zcnt, Z.gsub, Z.setD, Z.ztt, Z.seq_tup, Z.seq_lst, Z.lst_lst, Z.ty_non, Z.ty_bl, Z.ty_int, Z.ty_str, Z.ty_tup, Z.ty_lst, Z.tru_non, Z.tru_bl, Z.tru_int, Z.tru_tup, Z.tru_lst, Z.len_tup, Z.len_lst, Z.ix_int, Z.at_0, Z.at_1, Z.at_2, Z.at_3, Z.at_4, Z.add_ii, Z.sub_ii, Z.mul_ii, Z.fdiv_ii, Z.mod_ii, Z.pow_ii, Z.add_tt, Z.lt_ii, Z.le_ii, Z.gt_ii, Z.ge_ii, Z.eq_ii, Z.ne_ii, Z.eq_dd, Z.ne_dd, Z.isN_d, Z.notN_d, Z.wt_tup, Z.D.deq, eqD_ii, f, wk, pcS, ty_emp]
    · have hz : ¬ ((xs.length : Int) = 5) := by omega
      rw [smallB_t, decide_eq_false h]
      simp [Z.sseq, Z.snil, Z.sret, Z.sexp, Z.sasg, Z.spar, Z.sif, Z.spass, Z.sbrk, Z.scnt, Z.sthen_nx, Z.sthen_rt, Z.sthen_bk, Z.sthen_ct, Z.of_ok, Z.andThen_ok, Z.mb, Z.ok, Z.mo, Z.zvar, Z.zc, Z.zbin, Z.zneg, Z.zcmp, Z.zchn, Z.copM, Z.zbl, Z.ztru, Z.zand, Z.zor, Z.znot, Z.zandv, Z.zorv, Z.zite, Z.znil, Z.zcons, Z.ztup, Z.zix, Z.zlen, Z.zisi, Z.isiB, Z.zcall, Z.endD, Z.gnm, Z.gtup, Z.gcons, Z.gnil, Z.gc_self, Z.zallq, Z.zanyq, Z.zsumq, Z.zminq, Z.zmaxq, Z.zlenq, Z.ztupq, Z.zrow, Z.zst, Z.zof, Z.zofL, Z.zlst, Z.lstM, Z.zcomp, Z.zrng, Z.rngM, Z.zcat, Z.zrep, Z.zzip, Z.zsort, Z.zsortR, Z.zsortset, Z.zslT, Z.zslL, Z.znone, Z.zsome, Z.znew, Z.zfz, Z.alloc, Z.wipeD, Z.sfor, Z.zm1, Z.zm0, Z.bmD, Z.zdvm, Z.zabs, Z.zmx2, Z.zmn2, Z.zint, Z.zcnt, Z.gsub, Z.setD, Z.ztt, Z.seq_tup, Z.seq_lst, Z.lst_lst, Z.ty_non, Z.ty_bl, Z.ty_int, Z.ty_str, Z.ty_tup, Z.ty_lst, Z.tru_non, Z.tru_bl, Z.tru_int, Z.tru_tup, Z.tru_lst, Z.len_tup, Z.len_lst, Z.ix_int, Z.at_0, Z.at_1, Z.at_2, Z.at_3, Z.at_4, Z.add_ii, Z.sub_ii, Z.mul_ii, Z.fdiv_ii, Z.mod_ii, Z.pow_ii, Z.add_tt, Z.lt_ii, Z.le_ii, Z.gt_ii, Z.ge_ii, Z.eq_ii, Z.ne_ii, Z.eq_dd, Z.ne_dd, Z.isN_d, Z.notN_d, Z.wt_tup, Z.D.deq, eqD_ii, hz]
  | _ => simp [Z.sseq, Z.snil, Z.sret, Z.sexp, Z.sasg, Z.spar, Z.sif, Z.spass, Z.sbrk, Z.scnt, Z.sthen_nx, Z.sthen_rt, Z.sthen_bk, Z.sthen_ct, Z.of_ok, Z.andThen_ok, Z.mb, Z.ok, Z.mo, Z.zvar, Z.zc, Z.zbin, Z.zneg, Z.zcmp, Z.zchn, Z.copM, Z.zbl, Z.ztru, Z.zand, Z.zor, Z.znot, Z.zandv, Z.zorv, Z.zite, Z.znil, Z.zcons, Z.ztup, Z.zix, Z.zlen, Z.zisi, Z.isiB, Z.zcall, Z.endD, Z.gnm, Z.gtup, Z.gcons, Z.gnil, Z.gc_self, Z.zallq, Z.zanyq, Z.zsumq, Z.zminq, Z.zmaxq, Z.zlenq, Z.ztupq, Z.zrow, Z.zst, Z.zof, Z.zofL, Z.zlst, Z.lstM, Z.zcomp, Z.zrng, Z.rngM, Z.zcat, Z.zrep, Z.zzip, Z.zsort, Z.zsortR, Z.zsortset, Z.zslT, Z.zslL, Z.znone, Z.zsome, Z.znew, Z.zfz, Z.alloc, Z.wipeD, Z.sfor, Z.zm1, Z.zm0, Z.bmD, Z.zdvm, Z.zabs, Z.zmx2, Z.zmn2, Z.zint, Z.zcnt, Z.gsub, Z.setD, Z.ztt, Z.seq_tup, Z.seq_lst, Z.lst_lst, Z.ty_non, Z.ty_bl, Z.ty_int, Z.ty_str, Z.ty_tup, Z.ty_lst, Z.tru_non, Z.tru_bl, Z.tru_int, Z.tru_tup, Z.tru_lst, Z.len_tup, Z.len_lst, Z.ix_int, Z.at_0, Z.at_1, Z.at_2, Z.at_3, Z.at_4, Z.add_ii, Z.sub_ii, Z.mul_ii, Z.fdiv_ii, Z.mod_ii, Z.pow_ii, Z.add_tt, Z.lt_ii, Z.le_ii, Z.gt_ii, Z.ge_ii, Z.eq_ii, Z.ne_ii, Z.eq_dd, Z.ne_dd, Z.isN_d, Z.notN_d, Z.wt_tup, Z.D.deq, ty_emp, smallB]
theorem e_csmall (k : Nat) (x : D) (A : Hh) (hx : dat x = true) (h : smallB x = false) : callN Pg (k + 6) i_check_small [x] A = some (.ex ⟨14⟩ A) := by
  rw [c_check_small, mb_check_small]
  have e := e_small k x A hx
  rw [h] at e
  simp [Z.sseq, Z.snil, Z.sret, Z.sexp, Z.sasg, Z.spar, Z.sif, Z.spass, Z.sbrk, Z.scnt, Z.sthen_nx, Z.sthen_rt, Z.sthen_bk, Z.sthen_ct, Z.of_ok, Z.andThen_ok, Z.mb, Z.ok, Z.mo, Z.zvar, Z.zc, Z.zbin, Z.zneg, Z.zcmp, Z.zchn, Z.copM, Z.zbl, Z.ztru, Z.zand, Z.zor, Z.znot, Z.zandv, Z.zorv, Z.zite, Z.znil, Z.zcons, Z.ztup, Z.zix, Z.zlen, Z.zisi, Z.isiB, Z.zcall, Z.endD, Z.gnm, Z.gtup, Z.gcons, Z.gnil, Z.gc_self, Z.zallq, Z.zanyq, Z.zsumq, Z.zminq, Z.zmaxq, Z.zlenq, Z.ztupq, Z.zrow, Z.zst, Z.zof, Z.zofL, Z.zlst, Z.lstM, Z.zcomp, Z.zrng, Z.rngM, Z.zcat, Z.zrep, Z.zzip, Z.zsort, Z.zsortR, Z.zsortset, Z.zslT, Z.zslL, Z.znone, Z.zsome, Z.znew, Z.zfz, Z.alloc, Z.wipeD, Z.sfor, Z.zm1, Z.zm0, Z.bmD, Z.zdvm, Z.zabs, Z.zmx2, Z.zmn2, Z.zint, Z.zcnt, Z.gsub, Z.setD, Z.ztt, Z.seq_tup, Z.seq_lst, Z.lst_lst, Z.ty_non, Z.ty_bl, Z.ty_int, Z.ty_str, Z.ty_tup, Z.ty_lst, Z.tru_non, Z.tru_bl, Z.tru_int, Z.tru_tup, Z.tru_lst, Z.len_tup, Z.len_lst, Z.ix_int, Z.at_0, Z.at_1, Z.at_2, Z.at_3, Z.at_4, Z.add_ii, Z.sub_ii, Z.mul_ii, Z.fdiv_ii, Z.mod_ii, Z.pow_ii, Z.add_tt, Z.lt_ii, Z.le_ii, Z.gt_ii, Z.ge_ii, Z.eq_ii, Z.ne_ii, Z.eq_dd, Z.ne_dd, Z.isN_d, Z.notN_d, Z.wt_tup, Z.D.deq, e, sraise, sthen_ex]
theorem e_played (k : Nat) (x y : D) (A : Hh) (hx : dat x = true) (h : smallB x = false) : callN Pg (k + 7) i_played [x, y] A = some (.ex ⟨14⟩ A) := by
  rw [c_played, mb_played]
  have e := e_csmall k x A hx h
  simp [Z.sseq, Z.snil, Z.sret, Z.sexp, Z.sasg, Z.spar, Z.sif, Z.spass, Z.sbrk, Z.scnt, Z.sthen_nx, Z.sthen_rt, Z.sthen_bk, Z.sthen_ct, Z.of_ok, Z.andThen_ok, Z.mb, Z.ok, Z.mo, Z.zvar, Z.zc, Z.zbin, Z.zneg, Z.zcmp, Z.zchn, Z.copM, Z.zbl, Z.ztru, Z.zand, Z.zor, Z.znot, Z.zandv, Z.zorv, Z.zite, Z.znil, Z.zcons, Z.ztup, Z.zix, Z.zlen, Z.zisi, Z.isiB, Z.zcall, Z.endD, Z.gnm, Z.gtup, Z.gcons, Z.gnil, Z.gc_self, Z.zallq, Z.zanyq, Z.zsumq, Z.zminq, Z.zmaxq, Z.zlenq, Z.ztupq, Z.zrow, Z.zst, Z.zof, Z.zofL, Z.zlst, Z.lstM, Z.zcomp, Z.zrng, Z.rngM, Z.zcat, Z.zrep, Z.zzip, Z.zsort, Z.zsortR, Z.zsortset, Z.zslT, Z.zslL, Z.znone, Z.zsome, Z.znew, Z.zfz, Z.alloc, Z.wipeD, Z.sfor, Z.zm1, Z.zm0, Z.bmD, Z.zdvm, Z.zabs, Z.zmx2, Z.zmn2, Z.zint, Z.zcnt, Z.gsub, Z.setD, Z.ztt, Z.seq_tup, Z.seq_lst, Z.lst_lst, Z.ty_non, Z.ty_bl, Z.ty_int, Z.ty_str, Z.ty_tup, Z.ty_lst, Z.tru_non, Z.tru_bl, Z.tru_int, Z.tru_tup, Z.tru_lst, Z.len_tup, Z.len_lst, Z.ix_int, Z.at_0, Z.at_1, Z.at_2, Z.at_3, Z.at_4, Z.add_ii, Z.sub_ii, Z.mul_ii, Z.fdiv_ii, Z.mod_ii, Z.pow_ii, Z.add_tt, Z.lt_ii, Z.le_ii, Z.gt_ii, Z.ge_ii, Z.eq_ii, Z.ne_ii, Z.eq_dd, Z.ne_dd, Z.isN_d, Z.notN_d, Z.wt_tup, Z.D.deq, e, andThen_ex, of_ex, sthen_ex]
theorem e_worst (k : Nat) (x : D) (A : Hh) (hx : dat x = true) (h : smallB x = false) : callN Pg (k + 7) i_worst_story [x] A = some (.ex ⟨14⟩ A) := by
  rw [c_worst_story, mb_worst_story]
  have e := e_csmall k x A hx h
  simp [Z.sseq, Z.snil, Z.sret, Z.sexp, Z.sasg, Z.spar, Z.sif, Z.spass, Z.sbrk, Z.scnt, Z.sthen_nx, Z.sthen_rt, Z.sthen_bk, Z.sthen_ct, Z.of_ok, Z.andThen_ok, Z.mb, Z.ok, Z.mo, Z.zvar, Z.zc, Z.zbin, Z.zneg, Z.zcmp, Z.zchn, Z.copM, Z.zbl, Z.ztru, Z.zand, Z.zor, Z.znot, Z.zandv, Z.zorv, Z.zite, Z.znil, Z.zcons, Z.ztup, Z.zix, Z.zlen, Z.zisi, Z.isiB, Z.zcall, Z.endD, Z.gnm, Z.gtup, Z.gcons, Z.gnil, Z.gc_self, Z.zallq, Z.zanyq, Z.zsumq, Z.zminq, Z.zmaxq, Z.zlenq, Z.ztupq, Z.zrow, Z.zst, Z.zof, Z.zofL, Z.zlst, Z.lstM, Z.zcomp, Z.zrng, Z.rngM, Z.zcat, Z.zrep, Z.zzip, Z.zsort, Z.zsortR, Z.zsortset, Z.zslT, Z.zslL, Z.znone, Z.zsome, Z.znew, Z.zfz, Z.alloc, Z.wipeD, Z.sfor, Z.zm1, Z.zm0, Z.bmD, Z.zdvm, Z.zabs, Z.zmx2, Z.zmn2, Z.zint, Z.zcnt, Z.gsub, Z.setD, Z.ztt, Z.seq_tup, Z.seq_lst, Z.lst_lst, Z.ty_non, Z.ty_bl, Z.ty_int, Z.ty_str, Z.ty_tup, Z.ty_lst, Z.tru_non, Z.tru_bl, Z.tru_int, Z.tru_tup, Z.tru_lst, Z.len_tup, Z.len_lst, Z.ix_int, Z.at_0, Z.at_1, Z.at_2, Z.at_3, Z.at_4, Z.add_ii, Z.sub_ii, Z.mul_ii, Z.fdiv_ii, Z.mod_ii, Z.pow_ii, Z.add_tt, Z.lt_ii, Z.le_ii, Z.gt_ii, Z.ge_ii, Z.eq_ii, Z.ne_ii, Z.eq_dd, Z.ne_dd, Z.isN_d, Z.notN_d, Z.wt_tup, Z.D.deq, e, andThen_ex, of_ex, sthen_ex]
theorem e_sort (k : Nat) (A : Hh) : callN Pg (k + 1) i__law_sort [.exc 14] A = some (.ok (.str "small") A) := by
  have b : ∀ o, mb__law_sort o [some (.exc 14), none, none] A = some (.rt (.str "small") A) := fun o => by kernel_rfl
  rw [c__law_sort, b]
  simp only [endD, gc_self]
theorem e_asked (k : Nat) (x y : D) (w : Int) (A : Hh) (hx : dat x = true) (h : smallB x = false) (hw : w = 0 ∨ w = 1) : callN Pg (k + 8) i__law_asked [.int w, x, y] A = some (.ok (.str "small") A) := by
  rw [c__law_asked, mb__law_asked]
  have e1 := e_played k x y A hx h
  have e2 := e_worst k x A hx h
  have b : tb__law_asked_0 ⟨callN Pg (k + 7)⟩ [some (.int w), some x, some y, none] A = some (.ex ⟨14⟩ [some (.int w), some x, some y, none] A) := by
    unfold tb__law_asked_0
    rcases hw with r | r <;> subst r
    · simp [Z.sseq, Z.snil, Z.sret, Z.sexp, Z.sasg, Z.spar, Z.sif, Z.spass, Z.sbrk, Z.scnt, Z.sthen_nx, Z.sthen_rt, Z.sthen_bk, Z.sthen_ct, Z.of_ok, Z.andThen_ok, Z.mb, Z.ok, Z.mo, Z.zvar, Z.zc, Z.zbin, Z.zneg, Z.zcmp, Z.zchn, Z.copM, Z.zbl, Z.ztru, Z.zand, Z.zor, Z.znot, Z.zandv, Z.zorv, Z.zite, Z.znil, Z.zcons, Z.ztup, Z.zix, Z.zlen, Z.zisi, Z.isiB, Z.zcall, Z.endD, Z.gnm, Z.gtup, Z.gcons, Z.gnil, Z.gc_self, Z.zallq, Z.zanyq, Z.zsumq, Z.zminq, Z.zmaxq, Z.zlenq, Z.ztupq, Z.zrow, Z.zst, Z.zof, Z.zofL, Z.zlst, Z.lstM, Z.zcomp, Z.zrng, Z.rngM, Z.zcat, Z.zrep, Z.zzip, Z.zsort, Z.zsortR, Z.zsortset, Z.zslT, Z.zslL, Z.znone, Z.zsome, Z.znew, Z.zfz, Z.alloc, Z.wipeD, Z.sfor, Z.zm1, Z.zm0, Z.bmD, Z.zdvm, Z.zabs, Z.zmx2, Z.zmn2, Z.zint, Z.zcnt, Z.gsub, Z.setD, Z.ztt, Z.seq_tup, Z.seq_lst, Z.lst_lst, Z.ty_non, Z.ty_bl, Z.ty_int, Z.ty_str, Z.ty_tup, Z.ty_lst, Z.tru_non, Z.tru_bl, Z.tru_int, Z.tru_tup, Z.tru_lst, Z.len_tup, Z.len_lst, Z.ix_int, Z.at_0, Z.at_1, Z.at_2, Z.at_3, Z.at_4, Z.add_ii, Z.sub_ii, Z.mul_ii, Z.fdiv_ii, Z.mod_ii, Z.pow_ii, Z.add_tt, Z.lt_ii, Z.le_ii, Z.gt_ii, Z.ge_ii, Z.eq_ii, Z.ne_ii, Z.eq_dd, Z.ne_dd, Z.isN_d, Z.notN_d, Z.wt_tup, Z.D.deq, eqD_ii, e1, of_ex, sthen_ex, andThen_ex]
    · simp [Z.sseq, Z.snil, Z.sret, Z.sexp, Z.sasg, Z.spar, Z.sif, Z.spass, Z.sbrk, Z.scnt, Z.sthen_nx, Z.sthen_rt, Z.sthen_bk, Z.sthen_ct, Z.of_ok, Z.andThen_ok, Z.mb, Z.ok, Z.mo, Z.zvar, Z.zc, Z.zbin, Z.zneg, Z.zcmp, Z.zchn, Z.copM, Z.zbl, Z.ztru, Z.zand, Z.zor, Z.znot, Z.zandv, Z.zorv, Z.zite, Z.znil, Z.zcons, Z.ztup, Z.zix, Z.zlen, Z.zisi, Z.isiB, Z.zcall, Z.endD, Z.gnm, Z.gtup, Z.gcons, Z.gnil, Z.gc_self, Z.zallq, Z.zanyq, Z.zsumq, Z.zminq, Z.zmaxq, Z.zlenq, Z.ztupq, Z.zrow, Z.zst, Z.zof, Z.zofL, Z.zlst, Z.lstM, Z.zcomp, Z.zrng, Z.rngM, Z.zcat, Z.zrep, Z.zzip, Z.zsort, Z.zsortR, Z.zsortset, Z.zslT, Z.zslL, Z.znone, Z.zsome, Z.znew, Z.zfz, Z.alloc, Z.wipeD, Z.sfor, Z.zm1, Z.zm0, Z.bmD, Z.zdvm, Z.zabs, Z.zmx2, Z.zmn2, Z.zint, Z.zcnt, Z.gsub, Z.setD, Z.ztt, Z.seq_tup, Z.seq_lst, Z.lst_lst, Z.ty_non, Z.ty_bl, Z.ty_int, Z.ty_str, Z.ty_tup, Z.ty_lst, Z.tru_non, Z.tru_bl, Z.tru_int, Z.tru_tup, Z.tru_lst, Z.len_tup, Z.len_lst, Z.ix_int, Z.at_0, Z.at_1, Z.at_2, Z.at_3, Z.at_4, Z.add_ii, Z.sub_ii, Z.mul_ii, Z.fdiv_ii, Z.mod_ii, Z.pow_ii, Z.add_tt, Z.lt_ii, Z.le_ii, Z.gt_ii, Z.ge_ii, Z.eq_ii, Z.ne_ii, Z.eq_dd, Z.ne_dd, Z.isN_d, Z.notN_d, Z.wt_tup, Z.D.deq, eqD_ii, e2, of_ex, sthen_ex, andThen_ex]
  have sb : subE 14 0 = true := rfl
  have e3 := e_sort (k + 6) A
  simp [Z.sseq, Z.snil, Z.sret, Z.sexp, Z.sasg, Z.spar, Z.sif, Z.spass, Z.sbrk, Z.scnt, Z.sthen_nx, Z.sthen_rt, Z.sthen_bk, Z.sthen_ct, Z.of_ok, Z.andThen_ok, Z.mb, Z.ok, Z.mo, Z.zvar, Z.zc, Z.zbin, Z.zneg, Z.zcmp, Z.zchn, Z.copM, Z.zbl, Z.ztru, Z.zand, Z.zor, Z.znot, Z.zandv, Z.zorv, Z.zite, Z.znil, Z.zcons, Z.ztup, Z.zix, Z.zlen, Z.zisi, Z.isiB, Z.zcall, Z.endD, Z.gnm, Z.gtup, Z.gcons, Z.gnil, Z.gc_self, Z.zallq, Z.zanyq, Z.zsumq, Z.zminq, Z.zmaxq, Z.zlenq, Z.ztupq, Z.zrow, Z.zst, Z.zof, Z.zofL, Z.zlst, Z.lstM, Z.zcomp, Z.zrng, Z.rngM, Z.zcat, Z.zrep, Z.zzip, Z.zsort, Z.zsortR, Z.zsortset, Z.zslT, Z.zslL, Z.znone, Z.zsome, Z.znew, Z.zfz, Z.alloc, Z.wipeD, Z.sfor, Z.zm1, Z.zm0, Z.bmD, Z.zdvm, Z.zabs, Z.zmx2, Z.zmn2, Z.zint, Z.zcnt, Z.gsub, Z.setD, Z.ztt, Z.seq_tup, Z.seq_lst, Z.lst_lst, Z.ty_non, Z.ty_bl, Z.ty_int, Z.ty_str, Z.ty_tup, Z.ty_lst, Z.tru_non, Z.tru_bl, Z.tru_int, Z.tru_tup, Z.tru_lst, Z.len_tup, Z.len_lst, Z.ix_int, Z.at_0, Z.at_1, Z.at_2, Z.at_3, Z.at_4, Z.add_ii, Z.sub_ii, Z.mul_ii, Z.fdiv_ii, Z.mod_ii, Z.pow_ii, Z.add_tt, Z.lt_ii, Z.le_ii, Z.gt_ii, Z.ge_ii, Z.eq_ii, Z.ne_ii, Z.eq_dd, Z.ne_dd, Z.isN_d, Z.notN_d, Z.wt_tup, Z.D.deq, stry, b, sb, e3]
theorem e_right (k : Nat) (x y : D) (A : Hh) (hx : dat x = true) : callN Pg (k + 9) i__law_right [x, y] A = some (.ok (.bl true) A) := by
  rw [c__law_right, mb__law_right]
  have e1 := e_lsmall (k + 5) x A hx
  have e2 := e_small (k + 3) x A hx
  have eb : ∀ b : Bool, eqD A (.bl b) (.bl b) = some true := fun b => by
    show some (decide (b = b)) = _
    simp
  cases q : smallB x with
  | true => rw [q] at e1 e2; simp [Z.sseq, Z.snil, Z.sret, Z.sexp, Z.sasg, Z.spar, Z.sif, Z.spass, Z.sbrk, Z.scnt, Z.sthen_nx, Z.sthen_rt, Z.sthen_bk, Z.sthen_ct, Z.of_ok, Z.andThen_ok, Z.mb, Z.ok, Z.mo, Z.zvar, Z.zc, Z.zbin, Z.zneg, Z.zcmp, Z.zchn, Z.copM, Z.zbl, Z.ztru, Z.zand, Z.zor, Z.znot, Z.zandv, Z.zorv, Z.zite, Z.znil, Z.zcons, Z.ztup, Z.zix, Z.zlen, Z.zisi, Z.isiB, Z.zcall, Z.endD, Z.gnm, Z.gtup, Z.gcons, Z.gnil, Z.gc_self, Z.zallq, Z.zanyq, Z.zsumq, Z.zminq, Z.zmaxq, Z.zlenq, Z.ztupq, Z.zrow, Z.zst, Z.zof, Z.zofL, Z.zlst, Z.lstM, Z.zcomp, Z.zrng, Z.rngM, Z.zcat, Z.zrep, Z.zzip, Z.zsort, Z.zsortR, Z.zsortset, Z.zslT, Z.zslL, Z.znone, Z.zsome, Z.znew, Z.zfz, Z.alloc, Z.wipeD, Z.sfor, Z.zm1, Z.zm0, Z.bmD, Z.zdvm, Z.zabs, Z.zmx2, Z.zmn2, Z.zint, Z.zcnt, Z.gsub, Z.setD, Z.ztt, Z.seq_tup, Z.seq_lst, Z.lst_lst, Z.ty_non, Z.ty_bl, Z.ty_int, Z.ty_str, Z.ty_tup, Z.ty_lst, Z.tru_non, Z.tru_bl, Z.tru_int, Z.tru_tup, Z.tru_lst, Z.len_tup, Z.len_lst, Z.ix_int, Z.at_0, Z.at_1, Z.at_2, Z.at_3, Z.at_4, Z.add_ii, Z.sub_ii, Z.mul_ii, Z.fdiv_ii, Z.mod_ii, Z.pow_ii, Z.add_tt, Z.lt_ii, Z.le_ii, Z.gt_ii, Z.ge_ii, Z.eq_ii, Z.ne_ii, Z.eq_dd, Z.ne_dd, Z.isN_d, Z.notN_d, Z.wt_tup, Z.D.deq, e1, e2, eb]
  | false =>
    rw [q] at e1 e2
    have e3 := e_asked k x y 0 A hx q (.inl rfl)
    have e4 := e_asked k x .non 1 A hx q (.inr rfl)
    simp [Z.sseq, Z.snil, Z.sret, Z.sexp, Z.sasg, Z.spar, Z.sif, Z.spass, Z.sbrk, Z.scnt, Z.sthen_nx, Z.sthen_rt, Z.sthen_bk, Z.sthen_ct, Z.of_ok, Z.andThen_ok, Z.mb, Z.ok, Z.mo, Z.zvar, Z.zc, Z.zbin, Z.zneg, Z.zcmp, Z.zchn, Z.copM, Z.zbl, Z.ztru, Z.zand, Z.zor, Z.znot, Z.zandv, Z.zorv, Z.zite, Z.znil, Z.zcons, Z.ztup, Z.zix, Z.zlen, Z.zisi, Z.isiB, Z.zcall, Z.endD, Z.gnm, Z.gtup, Z.gcons, Z.gnil, Z.gc_self, Z.zallq, Z.zanyq, Z.zsumq, Z.zminq, Z.zmaxq, Z.zlenq, Z.ztupq, Z.zrow, Z.zst, Z.zof, Z.zofL, Z.zlst, Z.lstM, Z.zcomp, Z.zrng, Z.rngM, Z.zcat, Z.zrep, Z.zzip, Z.zsort, Z.zsortR, Z.zsortset, Z.zslT, Z.zslL, Z.znone, Z.zsome, Z.znew, Z.zfz, Z.alloc, Z.wipeD, Z.sfor, Z.zm1, Z.zm0, Z.bmD, Z.zdvm, Z.zabs, Z.zmx2, Z.zmn2, Z.zint, Z.zcnt, Z.gsub, Z.setD, Z.ztt, Z.seq_tup, Z.seq_lst, Z.lst_lst, Z.ty_non, Z.ty_bl, Z.ty_int, Z.ty_str, Z.ty_tup, Z.ty_lst, Z.tru_non, Z.tru_bl, Z.tru_int, Z.tru_tup, Z.tru_lst, Z.len_tup, Z.len_lst, Z.ix_int, Z.at_0, Z.at_1, Z.at_2, Z.at_3, Z.at_4, Z.add_ii, Z.sub_ii, Z.mul_ii, Z.fdiv_ii, Z.mod_ii, Z.pow_ii, Z.add_tt, Z.lt_ii, Z.le_ii, Z.gt_ii, Z.ge_ii, Z.eq_ii, Z.ne_ii, Z.eq_dd, Z.ne_dd, Z.isN_d, Z.notN_d, Z.wt_tup, Z.D.deq, e1, e2, eb, e3, e4, eq_str]
end Zp

set_option maxHeartbeats 4000000
namespace Zp
open PySem Z
set_option exponentiation.threshold 4000 in
theorem small_le {i : Int} (h0 : 0 ≤ i) (h1 : i ≤ 10 ^ 400) : small i = true := by
  rw [small_def]
  refine decide_eq_true ?_
  have h2 : (10 : Nat) ^ 400 < BIGB := by decide +kernel
  have h3 : (i.natAbs : Int) ≤ ((10 ^ 400 : Nat) : Int) := by
    rw [Int.natAbs_of_nonneg h0, Int.natCast_pow]
    exact h1
  have h4 : i.natAbs ≤ 10 ^ 400 := by exact_mod_cast h3
  exact Nat.lt_of_le_of_lt h4 h2
theorem e_take (k : Nat) (n : Nat) (p m : Int) (A : Hh) (h : A[n]? = some (.lst [.int p])) (hm : 0 < m) (hp : small p = true) : callN Pg (k + 1) i__law_take [.ref n, .int m] A = some (.ok (.int (p % m)) (A.set n (.lst [.int (p / m)]))) := by
  rw [c__law_take, mb__law_take]
  have h1 := seq_ref h
  have hg : ∀ d, gc A (A.set n (.lst [.int (p / m)])) d = A.set n (.lst [.int (p / m)]) := fun d => gc_len (List.length_set ..)
  have h0 : L2.ixN 1 0 = some 0 := rfl
  simp [Z.sseq, Z.snil, Z.sret, Z.sexp, Z.sasg, Z.spar, Z.sif, Z.spass, Z.sbrk, Z.scnt, Z.sthen_nx, Z.sthen_rt, Z.sthen_bk, Z.sthen_ct, Z.of_ok, Z.andThen_ok, Z.mb, Z.ok, Z.mo, Z.zvar, Z.zc, Z.zbin, Z.zneg, Z.zcmp, Z.zchn, Z.copM, Z.zbl, Z.ztru, Z.zand, Z.zor, Z.znot, Z.zandv, Z.zorv, Z.zite, Z.znil, Z.zcons, Z.ztup, Z.zix, Z.zlen, Z.zisi, Z.isiB, Z.zcall, Z.endD, Z.gnm, Z.gtup, Z.gcons, Z.gnil, Z.gc_self, Z.zallq, Z.zanyq, Z.zsumq, Z.zminq, Z.zmaxq, Z.zlenq, Z.ztupq, Z.zrow, Z.zst, Z.zof, Z.zofL, Z.zlst, Z.lstM, Z.zcomp, Z.zrng, Z.rngM, Z.zcat, Z.zrep, Z.zzip, Z.zsort, Z.zsortR, Z.zsortset, Z.zslT, Z.zslL, Z.znone, Z.zsome, Z.znew, Z.zfz, Z.alloc, Z.wipeD, Z.sfor, Z.zm1, Z.zm0, Z.bmD, Z.zdvm, Z.zabs, Z.zmx2, Z.zmn2, Z.zint, Z.zcnt, Z.gsub, Z.setD, Z.ztt, Z.seq_tup, Z.seq_lst, Z.lst_lst, Z.ty_non, Z.ty_bl, Z.ty_int, Z.ty_str, Z.ty_tup, Z.ty_lst, Z.tru_non, Z.tru_bl, Z.tru_int, Z.tru_tup, Z.tru_lst, Z.len_tup, Z.len_lst, Z.ix_int, Z.at_0, Z.at_1, Z.at_2, Z.at_3, Z.at_4, Z.add_ii, Z.sub_ii, Z.mul_ii, Z.fdiv_ii, Z.mod_ii, Z.pow_ii, Z.add_tt, Z.lt_ii, Z.le_ii, Z.gt_ii, Z.ge_ii, Z.eq_ii, Z.ne_ii, Z.eq_dd, Z.ne_dd, Z.isN_d, Z.notN_d, Z.wt_tup, Z.D.deq, h1, hm, hp, h, hg, h0]
theorem small_div {p m : Int} (h0 : 0 ≤ p) (hm : 0 < m) (hp : small p = true) : 0 ≤ p / m ∧ small (p / m) = true := by
  have h1 : 0 ≤ p / m := Int.ediv_nonneg h0 (by omega)
  refine ⟨h1, ?_⟩
  have h2 : p / m ≤ p := Int.ediv_le_self m h0
  rw [small_def] at hp ⊢
  have h3 := of_decide_eq_true hp
  refine decide_eq_true (Nat.lt_of_le_of_lt ?_ h3)
  omega
def pl (A : Hh) (n : Nat) (p : Int) (X : Hh) : Hh := A.set n (.lst [.int p]) ++ X
theorem pl_at {A : Hh} {n : Nat} {p : Int} {X : Hh} (hn : n < A.length) : (pl A n p X)[n]? = some (.lst [.int p]) := by
  unfold pl
  rw [List.getElem?_append_left (by rw [List.length_set]; exact hn), List.getElem?_set_self hn]
theorem pl_set {A : Hh} {n : Nat} {p q : Int} {X : Hh} (hn : n < A.length) : (pl A n p X).set n (.lst [.int q]) = pl A n q X := by
  unfold pl
  rw [List.set_append_left _ _ (by rw [List.length_set]; exact hn), List.set_set]
theorem pl_last {A : Hh} {n : Nat} {p : Int} {o : O} : (pl A n p [o])[A.length]? = some o := by
  unfold pl
  rw [List.getElem?_append_right (by rw [List.length_set]; exact Nat.le_refl _), List.length_set, Nat.sub_self]
  rfl
theorem pl_put {A : Hh} {n : Nat} {p : Int} {o o' : O} : (pl A n p [o]).set A.length o' = pl A n p [o'] := by
  unfold pl
  rw [List.set_append_right _ _ (by rw [List.length_set]; exact Nat.le_refl _), List.length_set, Nat.sub_self]
  rfl
theorem take_pl (k : Nat) {A : Hh} {n : Nat} {p m : Int} {X : Hh} (hn : n < A.length) (hm : 0 < m) (hp : small p = true) : callN Pg (k + 1) i__law_take [.ref n, .int m] (pl A n p X) = some (.ok (.int (p % m)) (pl A n (p / m) X)) := by
  rw [e_take k n p m _ (pl_at hn) hm hp, pl_set hn]
theorem gc_keep {A A' : Hh} {d : D} (h : D.lo A.length d = false) : gc A A' d = A' := by
  unfold gc gcOk
  rw [h]
  rfl
theorem cut_ints (ns : List Int) (l h : Option Int) : ∃ ms : List Int, cutD (ns.map D.int) l h = ms.map D.int := by
  unfold cutD
  exact ⟨_, by rw [← List.map_drop, ← List.map_take]⟩
theorem e_M (σ : Sl) (A : Hh) : zbin .mul (zbin .mul (zbin .mul (zbin .mul (zbin .mul (zbin .pow (zc (.int 10)) (zc (.int 64))) (zbin .pow (zc (.int 10)) (zc (.int 64)))) (zbin .pow (zc (.int 10)) (zc (.int 64)))) (zbin .pow (zc (.int 10)) (zc (.int 64)))) (zbin .pow (zc (.int 10)) (zc (.int 64)))) (zbin .pow (zc (.int 10)) (zc (.int 64))) σ A
    = some (.ok (.int (10 ^ 384)) A) := by
  have p64 : ∀ σ A, zbin .pow (zc (.int 10)) (zc (.int 64)) σ A = some (.ok (.int (10 ^ 64)) A) := fun σ A => by kernel_rfl
  have s1 : small (10 ^ 64) = true := by rw [small_def]; decide +kernel
  have s2 : small (10 ^ 64 * 10 ^ 64) = true := by rw [small_def]; decide +kernel
  have s3 : small (10 ^ 64 * 10 ^ 64 * 10 ^ 64) = true := by rw [small_def]; decide +kernel
  have s4 : small (10 ^ 64 * 10 ^ 64 * 10 ^ 64 * 10 ^ 64) = true := by rw [small_def]; decide +kernel
  have s5 : small (10 ^ 64 * 10 ^ 64 * 10 ^ 64 * 10 ^ 64 * 10 ^ 64) = true := by rw [small_def]; decide +kernel
  have e : (10 : Int) ^ 64 * 10 ^ 64 * 10 ^ 64 * 10 ^ 64 * 10 ^ 64 * 10 ^ 64 = 10 ^ 384 := by decide +kernel
  have mm : ∀ (f g : Ev D) (x y : Int) (A : Hh), f σ A = some (.ok (.int x) A) → g σ A = some (.ok (.int y) A) → small x = true → small y = true → zbin .mul f g σ A = some (.ok (.int (x * y)) A) := fun f g x y A h1 h2 h3 h4 => by
    simp only [zbin, mb, h1, h2, andThen_ok, mul_ii, h3, h4, Bool.and_self, if_true]
  rw [← e]
  exact mm _ _ _ _ _ (mm _ _ _ _ _ (mm _ _ _ _ _ (mm _ _ _ _ _ (mm _ _ _ _ _ (p64 σ A) (p64 σ A) s1 s1) (p64 σ A) s2 s1) (p64 σ A) s3 s1) (p64 σ A) s4 s1) (p64 σ A) s5 s1
noncomputable def bodyQ (u v w z t : Int) : Sv := (sseq (sasg (gnm 3) (zbin .mod (zbin .add (zbin .add (zbin .mul (zbin .mod (zvar 3) (zc (.int u))) (zc (.int v))) (zbin .mul (zc (.int w)) (zvar 5))) (zc (.int 271))) (zc (.int u))))
 (sseq (sasg (gnm 4) (zbin .add (zbin .mul (zvar 4) (zbin .pow (zc (.int 10)) (zc (.int 11)))) (zbin .mod (zbin .mul (zvar 3) (zbin .add (zbin .mod (zvar 3) (zc (.int z))) (zc (.int 3)))) (zc (.int t)))))
 snil))
theorem q_body {A : Hh} {s0 s1 s2 : Option D} {u v w z t mo fo a x P : Int} (hp : bopD .pow (.int 10) (.int 11) A = some (.ok (.int P) A)) (hu : 0 < u) (hz : 0 < z) (ht : 0 < t) (hx : (mo % u * v + w * a + 271) % u = x) (g1 : small (mo % u) = true) (g2 : small v = true) (g3 : small w = true) (g4 : small a = true) (sf : small fo = true) (g5 : small P = true)
    (g6 : small x = true) (g7 : small (x % z + 3) = true) : bodyQ u v w z t [s0, s1, s2, some (.int mo), some (.int fo), some (.int a)] A = some (.nx [s0, s1, s2, some (.int x), some (.int (fo * P + x * (x % z + 3) % t)), some (.int a)] A) := by
  unfold bodyQ
  simp only [Z.sseq, Z.snil, Z.sret, Z.sexp, Z.sasg, Z.spar, Z.sif, Z.spass, Z.sbrk, Z.scnt, Z.sthen_nx, Z.sthen_rt, Z.sthen_bk, Z.sthen_ct, Z.of_ok, Z.andThen_ok, Z.mb, Z.ok, Z.mo, Z.zvar, Z.zc, Z.zbin, Z.zneg, Z.zcmp, Z.zchn, Z.copM, Z.zbl, Z.ztru, Z.zand, Z.zor, Z.znot, Z.zandv, Z.zorv, Z.zite, Z.znil, Z.zcons, Z.ztup, Z.zix, Z.zlen, Z.zisi, Z.zcall, Z.endD, Z.gnm, Z.gtup, Z.gcons, Z.gnil, Z.gc_self, Z.zallq, Z.zanyq, Z.zsumq, Z.zminq, Z.zmaxq, Z.zlenq, Z.ztupq, Z.zrow, Z.zst, Z.zof, Z.zofL, Z.zlst, Z.lstM, Z.zcomp, Z.zrng, Z.rngM, Z.zcat, Z.zrep, Z.zzip, Z.zsort, Z.zsortR, Z.zsortset, Z.zslT, Z.zslL, Z.znone, Z.zsome, Z.znew, Z.zfz, Z.alloc, Z.wipeD, Z.sfor, Z.zm1, Z.zm0, Z.bmD, Z.zdvm, Z.zabs, Z.zmx2, Z.zmn2, Z.zint, Z.zcnt, Z.gsub, Z.setD, Z.ztt, Z.seq_tup, Z.seq_lst, Z.lst_lst, Z.ty_non, Z.ty_bl, Z.ty_int, Z.ty_str, Z.ty_tup, Z.ty_lst, Z.tru_non, Z.tru_bl, Z.tru_int, Z.tru_tup, Z.tru_lst, Z.len_tup, Z.len_lst, Z.ix_int, Z.at_0, Z.at_1, Z.at_2, Z.at_3, Z.at_4, Z.add_ii, Z.sub_ii, Z.add_tt, Z.lt_ii, Z.le_ii, Z.gt_ii, Z.ge_ii, Z.eq_ii, Z.ne_ii, Z.eq_dd, Z.ne_dd, Z.isN_d, Z.notN_d, Z.wt_tup, Z.D.deq, List.getElem?_cons_zero, List.getElem?_cons_succ, List.set_cons_zero, List.set_cons_succ, Bool.and_self, Bool.and_true, Bool.true_and, Bool.not_true, Bool.not_false, if_true, if_false, Bool.false_eq_true, decide_true, decide_false, Option.map_some, Option.bind_some, mod_pos hu, mod_pos hz, mod_pos ht, mul_sm g1 g2, mul_sm g3 g4, mul_sm sf g5, mul_sm g6 g7, hp, hx]
theorem sm {i : Int} (h0 : 0 ≤ i) (h1 : i ≤ 10 ^ 30) : small i = true := small_le h0 (Int.le_trans h1 (by decide +kernel))
theorem pool_loop (A : Hh) (s0 s1 s2 : Option D) : ∀ (n : Nat) (a mo fo : Int) (s5 : Option D), 0 ≤ a → a + n ≤ 27 → 0 ≤ fo → fo < 10 ^ (11 * (27 - n)) → 0 ≤ mo →
    ∃ mo' fo' s5', forL [] (gnm 5) (bodyQ 999999999989 69621 40503 65537 99999999977) ((List.range n).map fun (i : Nat) => D.int (a + i)) [s0, s1, s2, some (.int mo), some (.int fo), s5] A = some (.nx [s0, s1, s2, some (.int mo'), some (.int fo'), s5'] A) ∧ 0 ≤ fo' ∧ fo' < 10 ^ 297
  | 0, a, mo, fo, s5, _, _, h0, h1, _ => ⟨mo, fo, s5, rfl, h0, by rw [show 11 * (27 - 0) = 297 from rfl] at h1; exact h1⟩
  | n + 1, a, mo, fo, s5, ha, hn, h0, h1, h2 => by
    have e : (List.range (n + 1)).map (fun (i : Nat) => D.int (a + i)) = .int a :: (List.range n).map fun (i : Nat) => D.int ((a + 1) + i) := by
      rw [List.range_succ_eq_map, List.map_cons, List.map_map]
      congr 1
      · simp
      · refine List.map_congr_left fun i _ => ?_
        simp only [Function.comp, D.int.injEq]
        omega
    obtain ⟨x, hx⟩ : ∃ x, x = (mo % 999999999989 * 69621 + 40503 * a + 271) % 999999999989 := ⟨_, rfl⟩
    have x0 : 0 ≤ x ∧ x < 999999999989 := by omega
    obtain ⟨y, hy⟩ : ∃ y, y = x * (x % 65537 + 3) % 99999999977 := ⟨_, rfl⟩
    have y0 : 0 ≤ y ∧ y < 99999999977 := by
      rw [hy]
      exact ⟨Int.emod_nonneg _ (by decide), Int.emod_lt_of_pos _ (by decide)⟩
    have fb : fo * 100000000000 + y < 10 ^ (11 * (27 - n)) := by
      have e2 : 11 * (27 - n) = 11 * (27 - (n + 1)) + 11 := by omega
      rw [e2, Int.pow_add]
      have : (10 : Int) ^ 11 = 100000000000 := by decide
      rw [this]
      generalize (10 : Int) ^ (11 * (27 - (n + 1))) = P at h1
      omega
    have sf : small fo = true := by
      refine small_le h0 (Int.le_of_lt (Int.lt_of_lt_of_le h1 ?_))
      have h5 : ((10 ^ (11 * (27 - (n + 1))) : Nat) : Int) ≤ ((10 ^ 400 : Nat) : Int) := Int.ofNat_le.mpr (Nat.pow_le_pow_right (by decide) (by omega))
      rw [Int.natCast_pow, Int.natCast_pow] at h5
      exact h5
    have g1 : small (mo % 999999999989) = true := sm (by omega) (Int.le_trans (show mo % 999999999989 ≤ 999999999989 by omega) (by decide +kernel))
    have g2 : small 69621 = true := by rw [small_def]; decide +kernel
    have g3 : small 40503 = true := by rw [small_def]; decide +kernel
    have g4 : small a = true := sm ha (Int.le_trans (show a ≤ 27 by omega) (by decide +kernel))
    have g5 : small 100000000000 = true := by rw [small_def]; decide +kernel
    have g6 : small x = true := sm x0.1 (Int.le_trans (show x ≤ 999999999989 by omega) (by decide +kernel))
    have g7 : small (x % 65537 + 3) = true := sm (by omega) (Int.le_trans (show x % 65537 + 3 ≤ 65540 by omega) (by decide +kernel))
    obtain ⟨mo', fo', s5', q1, q2, q3⟩ := pool_loop A s0 s1 s2 n (a + 1) x (fo * 100000000000 + y) (some (.int a)) (by omega) (by omega) (by omega) fb x0.1
    refine ⟨mo', fo', s5', ?_, q2, q3⟩
    have b1 : bodyQ 999999999989 69621 40503 65537 99999999977 [s0, s1, s2, some (.int mo), some (.int fo), some (.int a)] A = some (.nx [s0, s1, s2, some (.int x), some (.int (fo * 100000000000 + y)), some (.int a)] A) := by
      rw [hy]
      exact q_body (by kernel_rfl) (by decide) (by decide) (by decide) hx.symm g1 g2 g3 g4 sf g5 g6 g7
    rw [e]
    simp only [forL, wOk, List.all_nil, if_true, gnm]
    rw [show ([s0, s1, s2, some (D.int mo), some (D.int fo), s5].set 5 (some (D.int a))) = [s0, s1, s2, some (D.int mo), some (D.int fo), some (D.int a)] from rfl, b1]
    exact q1
theorem e_pool (k : Nat) (ns : List Int) (j : Int) (A : Hh) (hj : 0 ≤ j) (hj2 : j ≤ 12) : ∃ p, callN Pg (k + 1) i__law_pool [.lst (ns.map .int), .int j] A = some (.ok (.ref A.length) (A ++ [.lst [.int p]])) ∧ 0 ≤ p ∧ small p = true := by
  obtain ⟨ms, hms⟩ := cut_ints ns (some j) (some (j + 1))
  have hi := intsOf_ints ms
  obtain ⟨ce, hce⟩ : ∃ ce, ce = ms.sum := ⟨_, rfl⟩
  have hg : ∀ p, gc A (A ++ [.lst [.int p]]) (.ref A.length) = A ++ [.lst [.int p]] := fun p => gc_keep (by simp [D.lo])
  have hM : ∀ σ, zbin .mod (zabs (zvar 2)) (zbin .mul (zbin .mul (zbin .mul (zbin .mul (zbin .mul (zbin .pow (zc (.int 10)) (zc (.int 64))) (zbin .pow (zc (.int 10)) (zc (.int 64)))) (zbin .pow (zc (.int 10)) (zc (.int 64)))) (zbin .pow (zc (.int 10)) (zc (.int 64)))) (zbin .pow (zc (.int 10)) (zc (.int 64)))) (zbin .pow (zc (.int 10)) (zc (.int 64)))) [σ, some (.int j), some (.int ce), none, none, none] A
      = some (.ok (.int ((if ce < 0 then -ce else ce) % (10 ^ 384))) A) := fun σ => by
    have h1 : zabs (zvar 2) [σ, some (.int j), some (.int ce), none, none, none] A = some (.ok (.int (if ce < 0 then -ce else ce)) A) := rfl
    have h2 : (0 : Int) < 10 ^ 384 := by decide +kernel
    simp only [zbin, mb, h1, andThen_ok]
    have h3 := e_M [σ, some (.int j), some (.int ce), none, none, none] A
    simp only [zbin, mb] at h3
    rw [h3]
    simp only [andThen_ok, mod_ii, h2, decide_true, if_true]
  by_cases hc : ce < 0 ∨ 1000000000000000000 ≤ ce
  · have h2 : (0 : Int) < 10 ^ 384 := by decide +kernel
    refine ⟨(if ce < 0 then -ce else ce) % (10 ^ 384), ?_, Int.emod_nonneg _ (by omega), small_le (Int.emod_nonneg _ (by omega)) ?_⟩
    · rw [c__law_pool, mb__law_pool]
      have hM' := hM (some (.lst (ns.map .int)))
      generalize hz : (zbin .mod (zabs (zvar 2)) (zbin .mul (zbin .mul (zbin .mul (zbin .mul (zbin .mul (zbin .pow (zc (.int 10)) (zc (.int 64))) (zbin .pow (zc (.int 10)) (zc (.int 64)))) (zbin .pow (zc (.int 10)) (zc (.int 64)))) (zbin .pow (zc (.int 10)) (zc (.int 64)))) (zbin .pow (zc (.int 10)) (zc (.int 64)))) (zbin .pow (zc (.int 10)) (zc (.int 64))))) = Z0 at hM' ⊢
      generalize (if ce < 0 then -ce else ce) % (10 ^ 384) = r at hM' ⊢
      rcases hc with hc | hc
      · simp [Z.sseq, Z.snil, Z.sret, Z.sexp, Z.sasg, Z.spar, Z.sif, Z.spass, Z.sbrk, Z.scnt, Z.sthen_nx, Z.sthen_rt, Z.sthen_bk, Z.sthen_ct, Z.of_ok, Z.andThen_ok, Z.mb, Z.ok, Z.mo, Z.zvar, Z.zc, Z.zbin, Z.zneg, Z.zcmp, Z.zchn, Z.copM, Z.zbl, Z.ztru, Z.zand, Z.zor, Z.znot, Z.zandv, Z.zorv, Z.zite, Z.znil, Z.zcons, Z.ztup, Z.zix, Z.zlen, Z.zisi, Z.isiB, Z.zcall, Z.endD, Z.gnm, Z.gtup, Z.gcons, Z.gnil, Z.gc_self, Z.zallq, Z.zanyq, Z.zsumq, Z.zminq, Z.zmaxq, Z.zlenq, Z.ztupq, Z.zrow, Z.zst, Z.zof, Z.zofL, Z.zlst, Z.lstM, Z.zcomp, Z.zrng, Z.rngM, Z.zcat, Z.zrep, Z.zzip, Z.zsort, Z.zsortR, Z.zsortset, Z.zslT, Z.zslL, Z.znone, Z.zsome, Z.znew, Z.zfz, Z.alloc, Z.wipeD, Z.sfor, Z.zm1, Z.zm0, Z.bmD, Z.zdvm, Z.zabs, Z.zmx2, Z.zmn2, Z.zint, Z.zcnt, Z.gsub, Z.setD, Z.ztt, Z.seq_tup, Z.seq_lst, Z.lst_lst, Z.ty_non, Z.ty_bl, Z.ty_int, Z.ty_str, Z.ty_tup, Z.ty_lst, Z.tru_non, Z.tru_bl, Z.tru_int, Z.tru_tup, Z.tru_lst, Z.len_tup, Z.len_lst, Z.ix_int, Z.at_0, Z.at_1, Z.at_2, Z.at_3, Z.at_4, Z.add_ii, Z.sub_ii, Z.mul_ii, Z.fdiv_ii, Z.mod_ii, Z.pow_ii, Z.add_tt, Z.lt_ii, Z.le_ii, Z.gt_ii, Z.ge_ii, Z.eq_ii, Z.ne_ii, Z.eq_dd, Z.ne_dd, Z.isN_d, Z.notN_d, Z.wt_tup, Z.D.deq, hms, hi, ← hce, hM', hc, hg, SZ]
      · by_cases hc2 : ce < 0
        · simp [Z.sseq, Z.snil, Z.sret, Z.sexp, Z.sasg, Z.spar, Z.sif, Z.spass, Z.sbrk, Z.scnt, Z.sthen_nx, Z.sthen_rt, Z.sthen_bk, Z.sthen_ct, Z.of_ok, Z.andThen_ok, Z.mb, Z.ok, Z.mo, Z.zvar, Z.zc, Z.zbin, Z.zneg, Z.zcmp, Z.zchn, Z.copM, Z.zbl, Z.ztru, Z.zand, Z.zor, Z.znot, Z.zandv, Z.zorv, Z.zite, Z.znil, Z.zcons, Z.ztup, Z.zix, Z.zlen, Z.zisi, Z.isiB, Z.zcall, Z.endD, Z.gnm, Z.gtup, Z.gcons, Z.gnil, Z.gc_self, Z.zallq, Z.zanyq, Z.zsumq, Z.zminq, Z.zmaxq, Z.zlenq, Z.ztupq, Z.zrow, Z.zst, Z.zof, Z.zofL, Z.zlst, Z.lstM, Z.zcomp, Z.zrng, Z.rngM, Z.zcat, Z.zrep, Z.zzip, Z.zsort, Z.zsortR, Z.zsortset, Z.zslT, Z.zslL, Z.znone, Z.zsome, Z.znew, Z.zfz, Z.alloc, Z.wipeD, Z.sfor, Z.zm1, Z.zm0, Z.bmD, Z.zdvm, Z.zabs, Z.zmx2, Z.zmn2, Z.zint, Z.zcnt, Z.gsub, Z.setD, Z.ztt, Z.seq_tup, Z.seq_lst, Z.lst_lst, Z.ty_non, Z.ty_bl, Z.ty_int, Z.ty_str, Z.ty_tup, Z.ty_lst, Z.tru_non, Z.tru_bl, Z.tru_int, Z.tru_tup, Z.tru_lst, Z.len_tup, Z.len_lst, Z.ix_int, Z.at_0, Z.at_1, Z.at_2, Z.at_3, Z.at_4, Z.add_ii, Z.sub_ii, Z.mul_ii, Z.fdiv_ii, Z.mod_ii, Z.pow_ii, Z.add_tt, Z.lt_ii, Z.le_ii, Z.gt_ii, Z.ge_ii, Z.eq_ii, Z.ne_ii, Z.eq_dd, Z.ne_dd, Z.isN_d, Z.notN_d, Z.wt_tup, Z.D.deq, hms, hi, ← hce, hM', hc2, hg, SZ]
        · simp [Z.sseq, Z.snil, Z.sret, Z.sexp, Z.sasg, Z.spar, Z.sif, Z.spass, Z.sbrk, Z.scnt, Z.sthen_nx, Z.sthen_rt, Z.sthen_bk, Z.sthen_ct, Z.of_ok, Z.andThen_ok, Z.mb, Z.ok, Z.mo, Z.zvar, Z.zc, Z.zbin, Z.zneg, Z.zcmp, Z.zchn, Z.copM, Z.zbl, Z.ztru, Z.zand, Z.zor, Z.znot, Z.zandv, Z.zorv, Z.zite, Z.znil, Z.zcons, Z.ztup, Z.zix, Z.zlen, Z.zisi, Z.isiB, Z.zcall, Z.endD, Z.gnm, Z.gtup, Z.gcons, Z.gnil, Z.gc_self, Z.zallq, Z.zanyq, Z.zsumq, Z.zminq, Z.zmaxq, Z.zlenq, Z.ztupq, Z.zrow, Z.zst, Z.zof, Z.zofL, Z.zlst, Z.lstM, Z.zcomp, Z.zrng, Z.rngM, Z.zcat, Z.zrep, Z.zzip, Z.zsort, Z.zsortR, Z.zsortset, Z.zslT, Z.zslL, Z.znone, Z.zsome, Z.znew, Z.zfz, Z.alloc, Z.wipeD, Z.sfor, Z.zm1, Z.zm0, Z.bmD, Z.zdvm, Z.zabs, Z.zmx2, Z.zmn2, Z.zint, Z.zcnt, Z.gsub, Z.setD, Z.ztt, Z.seq_tup, Z.seq_lst, Z.lst_lst, Z.ty_non, Z.ty_bl, Z.ty_int, Z.ty_str, Z.ty_tup, Z.ty_lst, Z.tru_non, Z.tru_bl, Z.tru_int, Z.tru_tup, Z.tru_lst, Z.len_tup, Z.len_lst, Z.ix_int, Z.at_0, Z.at_1, Z.at_2, Z.at_3, Z.at_4, Z.add_ii, Z.sub_ii, Z.mul_ii, Z.fdiv_ii, Z.mod_ii, Z.pow_ii, Z.add_tt, Z.lt_ii, Z.le_ii, Z.gt_ii, Z.ge_ii, Z.eq_ii, Z.ne_ii, Z.eq_dd, Z.ne_dd, Z.isN_d, Z.notN_d, Z.wt_tup, Z.D.deq, hms, hi, ← hce, hM', hc, hc2, hg, SZ]
    · have h3 := Int.emod_lt_of_pos (if ce < 0 then -ce else ce) h2
      have h4 : (10 : Int) ^ 384 ≤ 10 ^ 400 := by decide +kernel
      exact Int.le_trans (Int.le_of_lt h3) h4
  · have c1 : ¬ ce < 0 := fun h => hc (.inl h)
    have c2 : ¬ 1000000000000000000 ≤ ce := fun h => hc (.inr h)
    have g1 : small ce = true := sm (by omega) (Int.le_trans (show ce ≤ 1000000000000000000 by omega) (by decide +kernel))
    have g2 : small 48271 = true := by rw [small_def]; decide +kernel
    have g3 : small 977 = true := by rw [small_def]; decide +kernel
    have g4 : small j = true := sm hj (Int.le_trans hj2 (by decide +kernel))
    have g5 : small (977 * j) = true := sm (by omega) (Int.le_trans (show 977 * j ≤ 11724 by omega) (by decide +kernel))
    have jj : 0 ≤ 977 * j * j := Int.mul_nonneg (by omega) hj
    obtain ⟨mo', fo', s5', q1, q2, q3⟩ := pool_loop A (some (.lst (ns.map .int))) (some (.int j)) (some (.int ce)) 27 0 (ce * 48271 + 977 * j * j + 13) 0 none (by omega) (by omega) (by omega) (by decide) (by omega)
    have hr : rngI 0 27 = (List.range 27).map fun (i : Nat) => D.int (0 + i) := rfl
    refine ⟨fo', ?_, q2, small_le q2 (Int.le_trans (Int.le_of_lt q3) (by decide +kernel))⟩
    rw [c__law_pool, mb__law_pool]
    rw [← hr] at q1
    unfold bodyQ at q1
    simp [Z.sseq, Z.snil, Z.sret, Z.sexp, Z.sasg, Z.spar, Z.sif, Z.spass, Z.sbrk, Z.scnt, Z.sthen_nx, Z.sthen_rt, Z.sthen_bk, Z.sthen_ct, Z.of_ok, Z.andThen_ok, Z.mb, Z.ok, Z.mo, Z.zvar, Z.zc, Z.zbin, Z.zneg, Z.zcmp, Z.zchn, Z.copM, Z.zbl, Z.ztru, Z.zand, Z.zor, Z.znot, Z.zandv, Z.zorv, Z.zite, Z.znil, Z.zcons, Z.ztup, Z.zix, Z.zlen, Z.zisi, Z.isiB, Z.zcall, Z.endD, Z.gnm, Z.gtup, Z.gcons, Z.gnil, Z.gc_self, Z.zallq, Z.zanyq, Z.zsumq, Z.zminq, Z.zmaxq, Z.zlenq, Z.ztupq, Z.zrow, Z.zst, Z.zof, Z.zofL, Z.zlst, Z.lstM, Z.zcomp, Z.zrng, Z.rngM, Z.zcat, Z.zrep, Z.zzip, Z.zsort, Z.zsortR, Z.zsortset, Z.zslT, Z.zslL, Z.znone, Z.zsome, Z.znew, Z.zfz, Z.alloc, Z.wipeD, Z.sfor, Z.zm1, Z.zm0, Z.bmD, Z.zdvm, Z.zabs, Z.zmx2, Z.zmn2, Z.zint, Z.zcnt, Z.gsub, Z.setD, Z.ztt, Z.seq_tup, Z.seq_lst, Z.lst_lst, Z.ty_non, Z.ty_bl, Z.ty_int, Z.ty_str, Z.ty_tup, Z.ty_lst, Z.tru_non, Z.tru_bl, Z.tru_int, Z.tru_tup, Z.tru_lst, Z.len_tup, Z.len_lst, Z.ix_int, Z.at_0, Z.at_1, Z.at_2, Z.at_3, Z.at_4, Z.add_ii, Z.sub_ii, Z.mul_ii, Z.fdiv_ii, Z.mod_ii, Z.pow_ii, Z.add_tt, Z.lt_ii, Z.le_ii, Z.gt_ii, Z.ge_ii, Z.eq_ii, Z.ne_ii, Z.eq_dd, Z.ne_dd, Z.isN_d, Z.notN_d, Z.wt_tup, Z.D.deq, hms, hi, ← hce, c1, c2, g1, g2, g3, g4, g5, q1, hg, SZ]
def PO (p : Int) : Prop := 0 ≤ p ∧ small p = true
theorem PO.div {p m : Int} (h : PO p) (hm : 0 < m) : PO (p / m) := small_div h.1 hm h.2
def tos (i : Int) : Str := toString i
theorem tos_ok (i : Int) : (PyData.str (tos i)).canLay0 = true := by
  have hv : ∀ c : Char, c.toNat < 0x110000 := fun c => by
    rcases c.valid with h | ⟨_, h⟩
    · exact Nat.lt_trans h (by decide)
    · exact h
  have h : ∀ s : String, (Str.ofString s).cps.all (· < 0x110000) = true := fun s => by
    have e : Str.ofString s = Str.ofStringByList s := congrFun Str.ofString_eq_byList s
    rw [e]
    unfold Str.ofStringByList
    rw [List.all_toArray]
    refine List.all_eq_true.mpr fun n hn => ?_
    obtain ⟨c, _, rfl⟩ := List.mem_map.mp hn
    exact decide_eq_true (hv c)
  have e : (PyData.str (tos i)).canLay0 = (Str.ofString (toString i)).cps.all (· < 0x110000) := by
    simp only [PyData.canLay0]
    rfl
  rw [e]
  exact h _
mutual
/-- a yard's parts: small ints, texts, None, truths, tuples that aren't long -/
def inp : D → Bool
  | .non => true
  | .int i => decide (i.natAbs ≤ 10 ^ 31)
  | .str x => (PyData.str x).canLay0
  | .tup xs => decide (xs.length ≤ 50) && inps xs
  | _ => false
def inps : List D → Bool
  | [] => true
  | x :: xs => inp x && inps xs
end
theorem inps_mem {xs : List D} (h : inps xs = true) : ∀ x ∈ xs, inp x = true := by
  induction xs with
  | nil => intro x hx; cases hx
  | cons y ys ih =>
    have h' : (inp y && inps ys) = true := h
    rw [Bool.and_eq_true] at h'
    intro x hx
    rcases List.mem_cons.mp hx with e | e
    · rw [e]; exact h'.1
    · exact ih h'.2 x e
theorem inps_of : ∀ {xs : List D}, (∀ x ∈ xs, inp x = true) → inps xs = true
  | [], _ => rfl
  | x :: xs, h => by
    show (inp x && inps xs) = true
    rw [h x (List.mem_cons_self ..), inps_of fun y hy => h y (List.mem_cons_of_mem _ hy)]
    rfl
theorem itup {xs : List D} (h : inp (.tup xs) = true) : xs.length ≤ 50 ∧ ∀ x ∈ xs, inp x = true := by
  have h' : (decide (xs.length ≤ 50) && inps xs) = true := h
  rw [Bool.and_eq_true, decide_eq_true_eq] at h'
  exact ⟨h'.1, inps_mem h'.2⟩
mutual
theorem inp_dat : ∀ x : D, inp x = true → dat x = true
  | .non, _ => rfl
  | .bl _, h => (by cases h)
  | .int _, _ => rfl
  | .str _, h => h
  | .tup xs, h => by
    have h' : (decide (xs.length ≤ 50) && inps xs) = true := h
    rw [Bool.and_eq_true, decide_eq_true_eq] at h'
    show (decide (xs.length ≤ 100) && dats xs) = true
    rw [decide_eq_true (by omega), inps_dat xs h'.2]
    rfl
  | .lst _, h => by cases h
  | .ref _, h => by cases h
  | .exc _, h => by cases h
  | .emp, h => by cases h
theorem inps_dat : ∀ xs : List D, inps xs = true → dats xs = true
  | [], _ => rfl
  | x :: xs, h => by
    have h' : (inp x && inps xs) = true := h
    rw [Bool.and_eq_true] at h'
    show (dat x && dats xs) = true
    rw [inp_dat x h'.1, inps_dat xs h'.2]
    rfl
end
theorem dat_tup {xs : List D} (h1 : xs.length ≤ 100) (h2 : ∀ x ∈ xs, dat x = true) : dat (.tup xs) = true := by
  show (decide (xs.length ≤ 100) && dats xs) = true
  rw [decide_eq_true h1, dats_of h2]
  rfl
theorem dat_lst {xs : List D} (h1 : xs.length ≤ 100) (h2 : ∀ x ∈ xs, dat x = true) : dat (.lst xs) = true := by
  show (decide (xs.length ≤ 100) && dats xs) = true
  rw [decide_eq_true h1, dats_of h2]
  rfl
theorem pick_of (xs : List D) {i : Int} (h0 : 0 ≤ i) (h1 : i < xs.length) : ∃ d, L2.atI xs i = some d ∧ d ∈ xs := by
  obtain ⟨n, rfl⟩ : ∃ n : Nat, i = n := ⟨i.toNat, by omega⟩
  have hn : n < xs.length := by omega
  exact ⟨gD xs n, by rw [at_nat, gD_at hn], gD_mem hn⟩
theorem cut_take (xs : List D) (m : Nat) : cutD xs none (some (m : Int)) = xs.take m := by
  unfold cutD
  rw [HT.sIx_none, HT.sIx_nat, List.drop_zero, Nat.sub_zero]
  rcases Nat.le_total m xs.length with h | h
  · rw [Nat.min_eq_left h]
  · rw [Nat.min_eq_right h, List.take_of_length_le (Nat.le_refl _), List.take_of_length_le h]
theorem cut_drop (xs : List D) (m : Nat) : cutD xs (some (m : Int)) none = xs.drop m := by
  unfold cutD
  rw [HT.sIx_none, HT.sIx_nat]
  rcases Nat.le_total m xs.length with h | h
  · rw [Nat.min_eq_left h, List.take_of_length_le (by rw [List.length_drop]; exact Nat.le_refl _)]
  · rw [Nat.min_eq_right h, Nat.sub_self, List.take_zero, List.drop_of_length_le h]
theorem cut_sub (xs : List D) (l h : Option Int) : ∀ x ∈ cutD xs l h, x ∈ xs := fun x hx => by
  unfold cutD at hx
  exact List.mem_of_mem_drop (List.mem_of_mem_take hx)
theorem cut_len (xs : List D) (l h : Option Int) : (cutD xs l h).length ≤ xs.length := by
  unfold cutD
  rw [List.length_take, List.length_drop]
  omega
theorem zfz_ok {q : Ev (List D)} {σ : Sl} {A : Hh} {xs : List D} (h : q σ A = some (.ok xs A)) : zfz q σ A = some (.ok (.lst xs) A) := by
  simp only [zfz, mb, h, andThen_ok, ok]
theorem zlst_ok {q : Ev (List D)} {σ : Sl} {A : Hh} {xs : List D} (h : q σ A = some (.ok xs A)) (hz : xs.length ≤ 1000) : zlst q σ A = some (.ok xs A) := by
  simp only [zlst, mb, h, andThen_ok, lstM, if_pos (show xs.length ≤ SZ by unfold SZ; omega)]
theorem zcatL_ok {f g : Ev D} {σ : Sl} {A : Hh} {xs ys : List D} (hf : f σ A = some (.ok (.lst xs) A)) (hg : g σ A = some (.ok (.lst ys) A)) (hz : xs.length + ys.length ≤ 1000) : zcatL f g σ A = some (.ok (xs ++ ys) A) := by
  simp only [zcatL, mb, hf, hg, andThen_ok, lst_lst, if_pos (show xs.length + ys.length ≤ SZ by unfold SZ; omega)]
theorem zix_ok {a b : Ev D} {σ : Sl} {A A' : Hh} {xs : List D} {i : Int} {d : D} (ha : a σ A = some (.ok (.lst xs) A)) (hb : b σ A = some (.ok (.int i) A')) (h : L2.atI xs i = some d) : zix a b σ A = some (.ok d A') := by
  simp only [zix, mb, ha, andThen_ok, hb, ix_int, seq_lst, Option.bind_some, h, Option.map_some]
theorem zcons_ok {e : Ev D} {es : Ev (List D)} {σ : Sl} {A : Hh} {d : D} {ds : List D} (h1 : e σ A = some (.ok d A)) (h2 : es σ A = some (.ok ds A)) : zcons e es σ A = some (.ok (d :: ds) A) := by
  simp only [zcons, mb, h1, h2, andThen_ok, ok]
theorem znil_ok {σ : Sl} {A : Hh} : znil σ A = some (.ok [] A) := rfl
theorem ztup_ok {q : Ev (List D)} {σ : Sl} {A : Hh} {xs : List D} (h : q σ A = some (.ok xs A)) (hz : xs.length ≤ 1000) : ztup q σ A = some (.ok (.tup xs) A) := by
  simp only [ztup, mb, h, andThen_ok, if_pos (show xs.length ≤ SZ by unfold SZ; omega)]
theorem zcat_ok {f g : Ev D} {σ : Sl} {A A1 A2 : Hh} {xs ys : List D} (hf : f σ A = some (.ok (.tup xs) A1)) (hg : g σ A1 = some (.ok (.tup ys) A2)) (hz : xs.length + ys.length ≤ 1000) : zbin .add f g σ A = some (.ok (.tup (xs ++ ys)) A2) := by
  simp only [zbin, mb, hf, hg, andThen_ok, add_tt, if_pos (show xs.length + ys.length ≤ SZ by unfold SZ; omega)]
theorem sstep {s t : Sv} {σ σ' : Sl} {A A' : Hh} (h : s σ A = some (.nx σ' A')) : sseq s t σ A = t σ' A' := by
  unfold sseq
  rw [h, sthen_nx]
theorem take_ok (k n : Nat) (p : Int) (m : Nat) (σ : Sl) (A : Hh) (i : Nat) (h0 : σ[i]? = some (some (.ref n))) (hA : A[n]? = some (.lst [.int p])) (hp : PO p) (hm : 0 < m) : zcall ⟨callN Pg (k + 1)⟩ i__law_take (zcons (zvar i) (zcons (zc (.int m)) znil)) σ A = some (.ok (.int (p % m)) (A.set n (.lst [.int (p / m)]))) := by
  have t := e_take k n p m A hA (by omega) hp.2
  simp only [zcall, zcons, znil, zvar, zc, mb, h0, ok, andThen_ok, t]
def PA (A : Hh) (n : Nat) (p : Int) : Prop := A[n]? = some (.lst [.int p]) ∧ PO p
theorem PA.set {A : Hh} {n : Nat} {p q : Int} (h : PA A n p) (hq : PO q) : PA (A.set n (.lst [.int q])) n q :=
  ⟨List.getElem?_set_self (List.getElem?_eq_some_iff.mp h.1).1, hq⟩
theorem sif_t {c : Ev Bool} {b e : Sv} {σ : Sl} {A A1 : Hh} {r : Option RS} (h : c σ A = some (.ok true A1)) (hb : b σ A1 = r) : sif c b e σ A = r := by
  unfold sif
  rw [h, of_ok, if_pos rfl]
  exact hb
theorem sif_f {c : Ev Bool} {b e : Sv} {σ : Sl} {A A1 : Hh} {r : Option RS} (h : c σ A = some (.ok false A1)) (hb : e σ A1 = r) : sif c b e σ A = r := by
  unfold sif
  rw [h, of_ok, if_neg Bool.false_ne_true]
  exact hb
theorem sseq_rt {s t : Sv} {σ : Sl} {A A' : Hh} {d : D} (h : s σ A = some (.rt d A')) : sseq s t σ A = some (.rt d A') := by
  unfold sseq
  rw [h, sthen_rt]
theorem sasg_nm {i : Nat} {e : Ev D} {σ : Sl} {A A' : Hh} {d : D} (h : e σ A = some (.ok d A')) : sasg (gnm i) e σ A = some (.nx (σ.set i (some d)) A') := by
  simp only [sasg, h, of_ok, gnm]
theorem sret_ok {e : Ev D} {t : Sv} {σ : Sl} {A A' : Hh} {d : D} (h : e σ A = some (.ok d A')) : sseq (sret e) t σ A = some (.rt d A') := by
  simp only [sseq, sret, h, of_ok, sthen_rt]
theorem end_rt {A A' : Hh} {d : D} {r : Option RS} (h : r = some (.rt d A')) (hl : A'.length = A.length) : endD A r = some (.ok d A') := by
  rw [h]
  show some (R.ok d (gc A A' d)) = _
  rw [gc_len hl]
theorem zor_t {a b : Ev Bool} {σ : Sl} {A A1 : Hh} (h : a σ A = some (.ok true A1)) : zor a b σ A = some (.ok true A1) := by
  simp only [zor, mb, h, andThen_ok, if_true, ok]
theorem zor_f {a b : Ev Bool} {σ : Sl} {A A1 : Hh} {r : Option (Z.R Bool)} (h : a σ A = some (.ok false A1)) (hb : b σ A1 = r) : zor a b σ A = r := by
  simp only [zor, mb, h, andThen_ok, Bool.false_eq_true, if_false]
  exact hb
theorem zsl_ok {a : Ev D} {lo hi : Ev (Option Int)} {σ : Sl} {A : Hh} {xs : List D} {l h : Option Int} (ha : a σ A = some (.ok (.tup xs) A)) (hl : lo σ A = some (.ok l A)) (hh : hi σ A = some (.ok h A)) : zslT a lo hi σ A = some (.ok (.tup (cutD xs l h)) A) := by
  simp only [zslT, mb, ha, hl, hh, andThen_ok, ok]
theorem take2_ok (k n : Nat) (p : Int) (m : Nat) {e : Ev D} (σ : Sl) (A : Hh) (h0 : σ[0]? = some (some (.ref n))) (he : e σ A = some (.ok (.int m) A)) (hA : A[n]? = some (.lst [.int p])) (hp : PO p) (hm : 0 < m) : zcall ⟨callN Pg (k + 1)⟩ i__law_take (zcons (zvar 0) (zcons e znil)) σ A = some (.ok (.int (p % m)) (A.set n (.lst [.int (p / m)]))) := by
  have t := e_take k n p m A hA (by omega) hp.2
  simp only [zcall, zcons, znil, zvar, mb, h0, ok, andThen_ok, he, t]
theorem cut_one (xs : List D) (m : Nat) (h : m < xs.length) : cutD xs (some (m : Int)) (some ((m : Int) + 1)) = [gD xs m] := by
  have e : ((m : Int) + 1) = ((m + 1 : Nat) : Int) := rfl
  unfold cutD
  rw [e, HT.sIx_nat, HT.sIx_nat, Nat.min_eq_left (by omega), Nat.min_eq_left (by omega), show m + 1 - m = 1 by omega]
  have : xs.drop m = gD xs m :: xs.drop (m + 1) := by
    rw [List.drop_eq_getElem_cons h]
    congr 1
    have := gD_at h
    rw [List.getElem?_eq_getElem h] at this
    exact Option.some.inj this
  rw [this]
  rfl
theorem set_set {A : Hh} {n : Nat} {o o' : O} : (A.set n o).set n o' = A.set n o' := List.set_set ..
theorem dat_sub {xs ys : List D} (hl : ys.length ≤ 100) (h : ∀ y ∈ ys, y ∈ xs ∨ dat y = true) (hx : ∀ x ∈ xs, dat x = true) : dat (.tup ys) = true := dat_tup hl fun y hy => by
  rcases h y hy with h | h
  · exact hx y h
  · exact h
theorem zcons_ok2 {e : Ev D} {es : Ev (List D)} {σ : Sl} {A A1 A2 : Hh} {d : D} {ds : List D} (h1 : e σ A = some (.ok d A1)) (h2 : es σ A1 = some (.ok ds A2)) : zcons e es σ A = some (.ok (d :: ds) A2) := by
  simp only [zcons, mb, h1, h2, andThen_ok, ok]
theorem spar_ok {i j : Nat} {es : Ev (List D)} {σ : Sl} {A A' : Hh} {d e : D} (h : es σ A = some (.ok [d, e] A')) : spar i j es σ A = some (.nx ((σ.set i (some d)).set j (some e)) A') := by
  simp only [spar, h, of_ok]
theorem cmp_ok {a b : Ev D} {σ : Sl} {A A1 : Hh} {i j : Int} (ha : a σ A = some (.ok (.int i) A1)) (hb : b σ A1 = some (.ok (.int j) A1)) : zcmp .eq a b σ A = some (.ok (decide (i = j)) A1) := by
  simp only [zcmp, mb, ha, hb, andThen_ok, copM, eq_ii, Option.map_some]
theorem ztup_ok2 {q : Ev (List D)} {σ : Sl} {A A1 : Hh} {xs : List D} (h : q σ A = some (.ok xs A1)) (hz : xs.length ≤ 1000) : ztup q σ A = some (.ok (.tup xs) A1) := by
  simp only [ztup, mb, h, andThen_ok, if_pos (show xs.length ≤ SZ by unfold SZ; omega)]
abbrev SP (A : Hh) (n : Nat) (q : Int) : Hh := A.set n (.lst [.int q])
theorem sp_pa {A : Hh} {n : Nat} {p q : Int} (h : PA A n p) (hq : PO q) : PA (SP A n q) n q := h.set hq
theorem sp_sp (A : Hh) (n : Nat) (p q : Int) : (SP A n p).set n (.lst [.int q]) = SP A n q := List.set_set ..
theorem takeS {A : Hh} {n : Nat} {p0 : Int} (h : PA A n p0) (k : Nat) (q : Int) (m : Nat) {e : Ev D} (σ : Sl) (h0 : σ[0]? = some (some (.ref n))) (he : e σ (SP A n q) = some (.ok (.int m) (SP A n q))) (hq : PO q) (hm : 0 < m) :
    zcall ⟨callN Pg (k + 1)⟩ i__law_take (zcons (zvar 0) (zcons e znil)) σ (SP A n q) = some (.ok (.int (q % m)) (SP A n (q / m))) := by
  have := take2_ok k n q m σ (SP A n q) h0 he (sp_pa h hq).1 hq hm
  rw [sp_sp] at this
  exact this
theorem sp_self {A : Hh} {n : Nat} {p : Int} (h : PA A n p) : SP A n p = A := by
  have h1 := (List.getElem?_eq_some_iff.mp h.1).2
  unfold SP
  rw [← h1]
  exact List.set_getElem_self _
structure PF (h : Int → Hh) (n L : Nat) : Prop where
  len : ∀ q, (h q).length = L
  at_ : ∀ q, (h q)[n]? = some (.lst [.int q])
  set : ∀ q r, (h q).set n (.lst [.int r]) = h r
  obj : ∀ (q r : Int) (i : Nat) (o : O), (h r)[i]? = some o → (h q)[i]? = some o ∨ o = O.lst [D.int r]
theorem PF.lt {h : Int → Hh} {n L : Nat} (F : PF h n L) : n < L := by
  have := (List.getElem?_eq_some_iff.mp (F.at_ 0)).1
  rw [F.len] at this
  exact this
theorem PF.of {A : Hh} {n : Nat} {p : Int} (h : A[n]? = some (.lst [.int p])) : PF (SP A n) n A.length where
  len := fun q => List.length_set ..
  at_ := fun q => List.getElem?_set_self (List.getElem?_eq_some_iff.mp h).1
  set := fun q r => sp_sp A n q r
  obj := fun q r i o e => by
    unfold SP at e ⊢
    by_cases hi : n = i
    · subst hi
      rw [List.getElem?_set_self (List.getElem?_eq_some_iff.mp h).1] at e
      cases e
      exact .inr rfl
    · rw [List.getElem?_set_ne hi] at e ⊢
      exact .inl e
theorem PF.app {h : Int → Hh} {n L : Nat} (F : PF h n L) (X : Hh) : PF (fun q => h q ++ X) n (L + X.length) where
  len := fun q => by rw [List.length_append, F.len]
  at_ := fun q => by rw [List.getElem?_append_left (by rw [F.len]; exact F.lt), F.at_]
  set := fun q r => by rw [List.set_append_left _ _ (by rw [F.len]; exact F.lt), F.set]
  obj := fun q r i o e => by
    by_cases hi : i < L
    · rw [List.getElem?_append_left (by rw [F.len]; exact hi)] at e ⊢
      exact F.obj q r i o e
    · rw [List.getElem?_append_right (by rw [F.len]; omega), F.len] at e ⊢
      exact .inl e
theorem takeF {h : Int → Hh} {n L : Nat} (F : PF h n L) (k : Nat) (q m : Int) (hm : 0 < m) (hq : PO q) : callN Pg (k + 1) i__law_take [.ref n, .int m] (h q) = some (.ok (.int (q % m)) (h (q / m))) := by
  rw [e_take k n q m (h q) (F.at_ q) hm hq.2, F.set]
theorem compL_all {σ : Sl} {g : Gv} {e : Ev D} {h : Int → Hh} (P : D → D → Prop) : ∀ (xs acc : List D) (q : Int), PO q → (∀ x ∈ xs, ∀ q, PO q → ∃ σ2 y q', g x σ (h q) = some (.ok σ2 (h q)) ∧ e σ2 (h q) = some (.ok y (h q')) ∧ PO q' ∧ P x y) → acc.length + xs.length < 1000 →
    ∃ ys q', compL σ [] g ztt e xs acc (h q) = some (.ok (acc ++ ys) (h q')) ∧ PO q' ∧ ys.length = xs.length ∧ ∀ (i : Nat) (x y : D), xs[i]? = some x → ys[i]? = some y → P x y
  | [], acc, q, hq, _, _ => ⟨[], q, by simp [compL, wOk], hq, rfl, fun i x y h => by cases h⟩
  | x :: xs, acc, q, hq, hx, hz => by
    rw [List.length_cons] at hz
    obtain ⟨σ2, y, q1, h1, h2, h3, h4⟩ := hx x (List.mem_cons_self ..) q hq
    obtain ⟨ys, q', r, t, l, c⟩ := compL_all P xs (acc ++ [y]) q1 h3 (fun y hy => hx y (List.mem_cons_of_mem _ hy)) (by rw [List.length_append, List.length_singleton]; omega)
    refine ⟨y :: ys, q', ?_, t, by rw [List.length_cons, List.length_cons, l], fun i a b ha hb => ?_⟩
    · have tt : ztt σ2 (h q) = some (.ok true (h q)) := rfl
      simp only [compL, wOk, List.all_nil, if_true, h1, tt, h2, if_pos (show acc.length < SZ by unfold SZ; omega)]
      rw [r, List.append_assoc]
      rfl
    · cases i with
      | zero => cases ha; cases hb; exact h4
      | succ i => exact c i a b ha hb
end Zp

set_option maxHeartbeats 4000000
namespace Zp
open PySem Z
mutual
theorem inp_py : ∀ d : D, inp d = true → ∃ p, d.py = some p ∧ p.canLay0 = true ∧ p.depth = d.dep
  | .non, _ => ⟨_, rfl, by simp [PyData.canLay0], by simp [PyData.depth, D.dep]⟩
  | .int _, _ => ⟨_, rfl, by simp [PyData.canLay0], by simp [PyData.depth, D.dep]⟩
  | .str x, h => ⟨_, rfl, h, by simp [PyData.depth, D.dep]⟩
  | .tup xs, h => by
    have h' : (decide (xs.length ≤ 50) && inps xs) = true := h
    rw [Bool.and_eq_true] at h'
    obtain ⟨ps, e, h1, h2⟩ := inps_py xs h'.2
    exact ⟨.tuple ps, by simp [D.py, e], by simp [PyData.canLay0, h1], by simp [PyData.depth, D.dep, h2]⟩
  | .bl _, h => by cases h
  | .lst _, h => by cases h
  | .ref _, h => by cases h
  | .exc _, h => by cases h
  | .emp, h => by cases h
theorem inps_py : ∀ xs : List D, inps xs = true → ∃ ps, D.pys xs = some ps ∧ PyData.canLayAll0 ps = true ∧ PyData.depthAll ps = D.deps xs
  | [], _ => ⟨[], rfl, by simp [PyData.canLayAll0], by simp [PyData.depthAll, D.deps]⟩
  | x :: xs, h => by
    have h' : (inp x && inps xs) = true := h
    rw [Bool.and_eq_true] at h'
    obtain ⟨p, e, h1, h2⟩ := inp_py x h'.1
    obtain ⟨ps, e', h3, h4⟩ := inps_py xs h'.2
    exact ⟨p :: ps, by simp [D.pys, e, e'], by simp [PyData.canLayAll0, h1, h3], by simp [PyData.depthAll, D.deps, h2, h4]⟩
end
theorem eq_nil {xs : List D} (A : Hh) (h : inp (.tup xs) = true) (hd : D.dep (.tup xs) ≤ 64) : eqD A (.tup xs) (.tup []) = some xs.isEmpty := by
  obtain ⟨p, e1, e2, e3⟩ := inp_py (.tup xs) h
  have hp : SeqAt.shaped p = true := by unfold SeqAt.shaped; rw [e2, e3]; simpa using hd
  have hq : SeqAt.shaped (.tuple []) = true := by decide +kernel
  show eqP (D.py (.tup xs)) (some (.tuple [])) = _
  rw [e1]
  simp only [eqP, hp, hq, Bool.and_true, if_true]
  cases xs with
  | nil => cases e1; rfl
  | cons x xs =>
    cases hx : D.pys (x :: xs) with
    | none => simp [D.py, hx] at e1
    | some ps =>
      simp only [D.py, hx, Option.map_some, Option.some.injEq] at e1
      subst e1
      cases ps with
      | nil =>
        unfold D.pys at hx
        split at hx <;> simp at hx
      | cons p ps => rfl
def oddS (x : D) : List D := [.non, .bl true, .bl false, .int 0, .int 1, .int 2, .int 3, .int 4, .int (-1), .str "", .str "old", .str "near", .str "Old", .lst [], .emp, .tup [], .lst [x], .tup [x], .int 1000000000000000000000000000000]
theorem oddS_dat {x : D} (h : dat x = true) : ∀ d ∈ oddS x, dat d = true := by
  intro d hd
  unfold oddS at hd
  simp only [List.mem_cons, List.not_mem_nil, or_false] at hd
  rcases hd with r | r | r | r | r | r | r | r | r | r | r | r | r | r | r | r | r | r | r <;> subst r
  case inr.inr.inr.inr.inr.inr.inr.inr.inr.inr.inr.inr.inr.inr.inr.inr.inl => exact dat_lst (by simp) fun y hy => by rw [List.mem_singleton] at hy; rw [hy]; exact h
  case inr.inr.inr.inr.inr.inr.inr.inr.inr.inr.inr.inr.inr.inr.inr.inr.inr.inl => exact dat_tup (by simp) fun y hy => by rw [List.mem_singleton] at hy; rw [hy]; exact h
  all_goals first | rfl | decide +kernel
theorem zand_t {a b : Ev Bool} {σ : Sl} {A A1 : Hh} {r : Option (Z.R Bool)} (h : a σ A = some (.ok true A1)) (hb : b σ A1 = r) : zand a b σ A = r := by
  simp only [zand, mb, h, andThen_ok, if_true]
  exact hb
theorem zand_f {a b : Ev Bool} {σ : Sl} {A A1 : Hh} (h : a σ A = some (.ok false A1)) : zand a b σ A = some (.ok false A1) := by
  simp only [zand, mb, h, andThen_ok, Bool.false_eq_true, if_false, ok]
theorem gt_ok {a b : Ev D} {σ : Sl} {A A1 : Hh} {i j : Int} (ha : a σ A = some (.ok (.int i) A1)) (hb : b σ A1 = some (.ok (.int j) A1)) : zcmp .gt a b σ A = some (.ok (decide (j < i)) A1) := by
  simp only [zcmp, mb, ha, hb, andThen_ok, copM, gt_ii, Option.map_some]
theorem zix_ok1 {a b : Ev D} {σ : Sl} {A A' : Hh} {xs : List D} {i : Int} {d : D} (ha : a σ A = some (.ok (.lst xs) A)) (hb : b σ A = some (.ok (.int i) A')) (h : L2.atI xs i = some d) : zix a b σ A = some (.ok d A') := zix_ok ha hb h
theorem deps_mem {xs : List D} {x : D} (h : x ∈ xs) : D.dep x ≤ D.deps xs := by
  induction xs with
  | nil => cases h
  | cons y ys ih =>
    show _ ≤ max (D.dep y) (D.deps ys)
    rcases List.mem_cons.mp h with e | e
    · rw [e]; omega
    · have := ih e; omega
/-- one of a tuple's other forms -/
def oddT (xs : List D) (m : Nat) : List D := [.tup (xs.take m ++ xs.drop (m + 1)), .tup (xs ++ xs.take 1), .tup (xs.take m ++ cutD xs (some (m : Int)) (some ((m : Int) + 1)) ++ xs.drop m), .lst xs, .tup xs.reverse, .tup [.tup xs], .non, .tup []]
theorem oddT_dat {xs : List D} {m : Nat} (hl : xs.length ≤ 50) (h : ∀ x ∈ xs, dat x = true) : ∀ d ∈ oddT xs m, dat d = true := by
  intro d hd
  unfold oddT at hd
  simp only [List.mem_cons, List.not_mem_nil, or_false] at hd
  have l1 : (xs.take m).length ≤ 50 := by rw [List.length_take]; omega
  have l2 : (xs.drop (m + 1)).length ≤ 50 := by rw [List.length_drop]; omega
  have l3 : (xs.take m).length + (xs.drop m).length = xs.length := by rw [List.length_take, List.length_drop]; omega
  have l4 : (xs.take 1).length ≤ 1 := by rw [List.length_take]; omega
  have l5 := cut_len xs (some (m : Int)) (some ((m : Int) + 1))
  rcases hd with r | r | r | r | r | r | r | r <;> subst r
  · exact dat_sub (xs := xs) (by rw [List.length_append]; omega) (fun y hy => .inl ((List.mem_append.mp hy).elim (fun h => List.mem_of_mem_take h) (fun h => List.mem_of_mem_drop h))) h
  · exact dat_sub (xs := xs) (by rw [List.length_append]; omega) (fun y hy => .inl ((List.mem_append.mp hy).elim (fun h => h) (fun h => List.mem_of_mem_take h))) h
  · refine dat_sub (xs := xs) (by rw [List.length_append, List.length_append]; omega) (fun y hy => .inl ?_) h
    rcases List.mem_append.mp hy with hy | hy
    · rcases List.mem_append.mp hy with hy | hy
      · exact List.mem_of_mem_take hy
      · exact cut_sub _ _ _ y hy
    · exact List.mem_of_mem_drop hy
  · exact dat_lst (by omega) h
  · exact dat_tup (by rw [List.length_reverse]; omega) fun z hz => h z (List.mem_reverse.mp hz)
  · exact dat_tup (by simp) fun y hy => by rw [List.mem_singleton] at hy; rw [hy]; exact dat_tup (by omega) h
  · rfl
  · rfl
theorem e_bent (k n : Nat) : ∀ (f : Nat) (p : Int) (x : D) (A : Hh), PA A n p → inp x = true → x.dep ≤ f → f ≤ 8 → ∃ d p', callN Pg (k + 2 + f) i__law_bent [.ref n, x] A = some (.ok d (SP A n p')) ∧ dat d = true ∧ PO p' := by
  intro f
  induction f with
  | zero =>
    intro p x A hA hx hd _
    have hnt : ∀ xs, x ≠ .tup xs := fun xs e => by
      subst e
      have h : D.deps xs + 1 ≤ 0 := hd
      omega
    obtain ⟨d, d1, d2⟩ := pick_of (oddS x) (i := p % 19) (by omega) (by show p % 19 < 19; omega)
    refine ⟨d, p / 19, ?_, oddS_dat (inp_dat x hx) d d2, hA.2.div (by omega)⟩
    show callN Pg (k + 1 + 1) i__law_bent [.ref n, x] A = _
    rw [c__law_bent, mb__law_bent]
    have l : sasg (gnm 2) (zfz (zlst (zcons (zc .non) (zcons (zc (.bl true)) (zcons (zc (.bl false)) (zcons (zc (.int 0)) (zcons (zc (.int 1)) (zcons (zc (.int 2)) (zcons (zc (.int 3)) (zcons (zc (.int 4)) (zcons (zneg (zc (.int 1))) (zcons (zc (.str "")) (zcons (zc (.str "old")) (zcons (zc (.str "near")) (zcons (zc (.str "Old")) (zcons (zfz (zlst znil)) (zcons zemp (zcons (ztup znil) (zcons (zfz (zlst (zcons (zvar 1) znil))) (zcons (ztup (zcons (zvar 1) znil)) (zcons (zbin .pow (zc (.int 10)) (zc (.int 30))) znil))))))))))))))))))))) [some (.ref n), some x, none, none] A = some (.nx [some (.ref n), some x, some (.lst (oddS x)), none] A) := by
      unfold oddS
      kernel_rfl
    have t := take_ok k n p 19 [some (.ref n), some x, some (.lst (oddS x)), none] A 0 rfl hA.1 hA.2 (by decide)
    have rr := sret_ok (t := snil) (zix_ok (a := zvar 2) (xs := oddS x) rfl t d1)
    cases x with
    | tup xs => exact absurd rfl (hnt xs)
    | ref _ => cases hx
    | exc _ => cases hx
    | lst _ => cases hx
    | emp => cases hx
    | bl _ => cases hx
    | _ => exact end_rt ((sstep (sif_f (A1 := A) (zand_f rfl) rfl)).trans ((sstep (sif_f (A1 := A) rfl rfl)).trans ((sstep l).trans rr))) (List.length_set ..)
  | succ f ih =>
    intro p x A hA hx hd hf
    by_cases ht : ∃ xs, x = .tup xs
    · obtain ⟨xs, rfl⟩ := ht
      obtain ⟨x1, x2⟩ := itup hx
      have x3 := fun y hy => inp_dat y (x2 y hy)
      have hdx : D.deps xs + 1 ≤ f + 1 := hd
      have en := fun B => eq_nil B hx (by omega)
      -- the second part
      have part2 : ∀ (q : Int) (B : Ev Bool) (s1 : Sv), PO q → (zand (ztru (zisi .tuple (zvar 1))) B [some (.ref n), some (.tup xs), none, none] A = some (.ok false (SP A n q))) →
          ∃ d p', endD A (sseq (sif (zand (ztru (zisi .tuple (zvar 1))) B) s1 snil)
   (sseq (sif (ztru (zisi .tuple (zvar 1))) (sseq (sasg (gnm 3) (zcall ⟨callN Pg (k + 2 + f)⟩ i__law_take (zcons (zvar 0) (zcons (zbin .add (zlen (zvar 1)) (zc (.int 1))) znil))))
 (sseq (sasg (gnm 2) (zfz (zlst (zcons (zbin .add (zslT (zvar 1) znone (zsome (zvar 3))) (zslT (zvar 1) (zsome (zbin .add (zvar 3) (zc (.int 1)))) znone)) (zcons (zbin .add (zvar 1) (zslT (zvar 1) znone (zsome (zc (.int 1))))) (zcons (zbin .add (zbin .add (zslT (zvar 1) znone (zsome (zvar 3))) (zslT (zvar 1) (zsome (zvar 3)) (zsome (zbin .add (zvar 3) (zc (.int 1)))))) (zslT (zvar 1) (zsome (zvar 3)) znone)) (zcons (zfz (zrow (zof (zvar 1)))) znil)))))))
 (sseq (sret (zix (zfz (zcatL (zvar 2) (zfz (zlst (zcons (zrevT (zvar 1)) (zcons (ztup (zcons (zvar 1) znil)) (zcons (zc .non) (zcons (ztup znil) znil)))))))) (zcall ⟨callN Pg (k + 2 + f)⟩ i__law_take (zcons (zvar 0) (zcons (zc (.int 8)) znil)))))
 snil))) snil)
 (sseq (sasg (gnm 2) (zfz (zlst (zcons (zc .non) (zcons (zc (.bl true)) (zcons (zc (.bl false)) (zcons (zc (.int 0)) (zcons (zc (.int 1)) (zcons (zc (.int 2)) (zcons (zc (.int 3)) (zcons (zc (.int 4)) (zcons (zneg (zc (.int 1))) (zcons (zc (.str "")) (zcons (zc (.str "old")) (zcons (zc (.str "near")) (zcons (zc (.str "Old")) (zcons (zfz (zlst znil)) (zcons zemp (zcons (ztup znil) (zcons (zfz (zlst (zcons (zvar 1) znil))) (zcons (ztup (zcons (zvar 1) znil)) (zcons (zbin .pow (zc (.int 10)) (zc (.int 30))) znil))))))))))))))))))))))
 (sseq (sret (zix (zvar 2) (zcall ⟨callN Pg (k + 2 + f)⟩ i__law_take (zcons (zvar 0) (zcons (zc (.int 19)) znil)))))
 snil))) [some (.ref n), some (.tup xs), none, none] A) = some (.ok d (SP A n p')) ∧ dat d = true ∧ PO p' := fun q B s1 hq hB => by
        have hm0 : 0 < xs.length + 1 := by omega
        have t1 := takeS hA (k + 1 + f) q (xs.length + 1) (e := zbin .add (zlen (zvar 1)) (zc (.int 1))) [some (.ref n), some (.tup xs), none, none] rfl rfl hq hm0
        rw [show k + 1 + f + 1 = k + 2 + f by omega] at t1
        obtain ⟨m, hm⟩ : ∃ m : Nat, q % ((xs.length + 1 : Nat) : Int) = m := ⟨(q % ((xs.length + 1 : Nat) : Int)).toNat, by have := Int.emod_nonneg q (show ((xs.length + 1 : Nat) : Int) ≠ 0 by omega); omega⟩
        have P1 : PO (q / ((xs.length + 1 : Nat) : Int)) := hq.div (by omega)
        obtain ⟨q1, hq1⟩ : ∃ q1, q1 = q / ((xs.length + 1 : Nat) : Int) := ⟨_, rfl⟩
        rw [hm, ← hq1] at t1
        rw [← hq1] at P1
        obtain ⟨σ3, hσ⟩ : ∃ σ3 : Sl, σ3 = [some (.ref n), some (.tup xs), none, some (.int m)] := ⟨_, rfl⟩
        have b1 : ((m : Int) + 1) = ((m + 1 : Nat) : Int) := rfl
        have c1 : cutD xs none (some 1) = xs.take 1 := cut_take xs 1
        have sA : ∀ B, zslT (zvar 1) znone (zsome (zvar 3)) σ3 B = some (.ok (.tup (xs.take m)) B) := fun B => by
          rw [hσ, zsl_ok (l := none) (h := some (m : Int)) rfl rfl rfl, cut_take]
        have sB : ∀ B, zslT (zvar 1) (zsome (zbin .add (zvar 3) (zc (.int 1)))) znone σ3 B = some (.ok (.tup (xs.drop (m + 1))) B) := fun B => by
          rw [hσ, zsl_ok (l := some ((m + 1 : Nat) : Int)) (h := none) rfl rfl rfl, cut_drop]
        have sC : ∀ B, zslT (zvar 1) (zsome (zvar 3)) (zsome (zbin .add (zvar 3) (zc (.int 1)))) σ3 B = some (.ok (.tup (cutD xs (some (m : Int)) (some ((m : Int) + 1)))) B) := fun B => by
          rw [hσ, zsl_ok (l := some (m : Int)) (h := some ((m : Int) + 1)) rfl rfl rfl]
        have sD : ∀ B, zslT (zvar 1) (zsome (zvar 3)) znone σ3 B = some (.ok (.tup (xs.drop m)) B) := fun B => by
          rw [hσ, zsl_ok (l := some (m : Int)) (h := none) rfl rfl rfl, cut_drop]
        have s1' : ∀ B, zslT (zvar 1) znone (zsome (zc (.int 1))) σ3 B = some (.ok (.tup (xs.take 1)) B) := fun B => by
          rw [hσ, zsl_ok (l := none) (h := some 1) rfl rfl rfl, c1]
        have l1 : (xs.take m).length ≤ 50 := by rw [List.length_take]; omega
        have l2 : (xs.drop (m + 1)).length ≤ 50 := by rw [List.length_drop]; omega
        have l3 : (xs.drop m).length ≤ 50 := by rw [List.length_drop]; omega
        have l4 : (xs.take 1).length ≤ 1 := by rw [List.length_take]; omega
        have l5 := cut_len xs (some (m : Int)) (some ((m : Int) + 1))
        have v1 : ∀ B, zvar 1 σ3 B = some (.ok (.tup xs) B) := fun B => by rw [hσ]; rfl
        have row : ∀ B, zfz (zrow (zof (zvar 1))) σ3 B = some (.ok (.lst xs) B) := fun B => by rw [hσ]; rfl
        have ls := sasg_nm (i := 2) (σ := σ3) (A := SP A n q1) (zfz_ok (zlst_ok (zcons_ok (zcat_ok (sA _) (sB _) (by omega)) (zcons_ok (zcat_ok (v1 _) (s1' _) (by omega)) (zcons_ok (zcat_ok (zcat_ok (sA _) (sC _) (by omega)) (sD _) (by rw [List.length_append]; omega)) (zcons_ok (row _) znil_ok)))) (by show 4 ≤ 1000; decide)))
        obtain ⟨σ4, hσ4⟩ : ∃ σ4 : Sl, σ4 = [some (.ref n), some (.tup xs), some (.lst [.tup (xs.take m ++ xs.drop (m + 1)), .tup (xs ++ xs.take 1), .tup (xs.take m ++ cutD xs (some (m : Int)) (some ((m : Int) + 1)) ++ xs.drop m), .lst xs]), some (.int m)] := ⟨_, rfl⟩
        have e34 : σ3.set 2 (some (.lst [.tup (xs.take m ++ xs.drop (m + 1)), .tup (xs ++ xs.take 1), .tup (xs.take m ++ cutD xs (some (m : Int)) (some ((m : Int) + 1)) ++ xs.drop m), .lst xs])) = σ4 := by rw [hσ, hσ4]; rfl
        rw [e34] at ls
        have t2 := takeS hA (k + 1 + f) q1 8 (e := zc (.int 8)) σ4 (by rw [hσ4]; rfl) rfl P1 (by decide)
        rw [show k + 1 + f + 1 = k + 2 + f by omega] at t2
        obtain ⟨d, w1, w2⟩ := pick_of (oddT xs m) (i := q1 % ((8 : Nat) : Int)) (by omega) (by show q1 % ((8 : Nat) : Int) < 8; omega)
        have r4 : zfz (zlst (zcons (zrevT (zvar 1)) (zcons (ztup (zcons (zvar 1) znil)) (zcons (zc .non) (zcons (ztup znil) znil))))) σ4 (SP A n q1) = some (.ok (.lst [.tup xs.reverse, .tup [.tup xs], .non, .tup []]) (SP A n q1)) := by
          rw [hσ4]
          exact zfz_ok (zlst_ok (zcons_ok rfl (zcons_ok (ztup_ok (zcons_ok rfl znil_ok) (by show 1 ≤ 1000; decide)) (zcons_ok rfl (zcons_ok rfl znil_ok)))) (by show 4 ≤ 1000; decide))
        have v2 : zvar 2 σ4 (SP A n q1) = some (.ok (.lst [.tup (xs.take m ++ xs.drop (m + 1)), .tup (xs ++ xs.take 1), .tup (xs.take m ++ cutD xs (some (m : Int)) (some ((m : Int) + 1)) ++ xs.drop m), .lst xs]) (SP A n q1)) := by rw [hσ4]; rfl
        have rr := sret_ok (t := snil) (zix_ok (zfz_ok (zcatL_ok v2 r4 (by show 4 + 4 ≤ 1000; decide))) t2 w1)
        refine ⟨d, q1 / ((8 : Nat) : Int), ?_, oddT_dat x1 x3 d w2, P1.div (by decide)⟩
        have s3 : sasg (gnm 3) (zcall ⟨callN Pg (k + 2 + f)⟩ i__law_take (zcons (zvar 0) (zcons (zbin .add (zlen (zvar 1)) (zc (.int 1))) znil))) [some (.ref n), some (.tup xs), none, none] (SP A n q) = some (.nx σ3 (SP A n q1)) := by
          rw [hσ]
          exact sasg_nm t1
        refine end_rt ((sstep (sif_f hB rfl)).trans (sseq_rt (sif_t (A1 := SP A n q) rfl ((sstep s3).trans ((sstep ls).trans rr))))) (List.length_set ..)
      show ∃ d p', callN Pg (k + 2 + f + 1) i__law_bent [.ref n, .tup xs] A = some (.ok d (SP A n p')) ∧ dat d = true ∧ PO p'
      rw [c__law_bent, mb__law_bent]
      by_cases hxs : xs = []
      · refine part2 p _ _ hA.2 ?_
        have cE : zcmp .ne (zvar 1) (ztup znil) [some (.ref n), some (.tup xs), none, none] A = some (.ok false A) := by
          have := en A
          subst hxs
          simp [Z.sseq, Z.snil, Z.sret, Z.sexp, Z.sasg, Z.spar, Z.sif, Z.spass, Z.sbrk, Z.scnt, Z.sthen_nx, Z.sthen_rt, Z.sthen_bk, Z.sthen_ct, Z.of_ok, Z.andThen_ok, Z.mb, Z.ok, Z.mo, Z.zvar, Z.zc, Z.zbin, Z.zneg, Z.zcmp, Z.zchn, Z.copM, Z.zbl, Z.ztru, Z.zand, Z.zor, Z.znot, Z.zandv, Z.zorv, Z.zite, Z.znil, Z.zcons, Z.ztup, Z.zix, Z.zlen, Z.zisi, Z.isiB, Z.zcall, Z.endD, Z.gnm, Z.gtup, Z.gcons, Z.gnil, Z.gc_self, Z.zallq, Z.zanyq, Z.zsumq, Z.zminq, Z.zmaxq, Z.zlenq, Z.ztupq, Z.zrow, Z.zst, Z.zof, Z.zofL, Z.zlst, Z.lstM, Z.zcomp, Z.zrng, Z.rngM, Z.zcat, Z.zrep, Z.zzip, Z.zsort, Z.zsortR, Z.zsortset, Z.zslT, Z.zslL, Z.znone, Z.zsome, Z.znew, Z.zfz, Z.alloc, Z.wipeD, Z.sfor, Z.zm1, Z.zm0, Z.bmD, Z.zdvm, Z.zabs, Z.zmx2, Z.zmn2, Z.zint, Z.zcnt, Z.gsub, Z.setD, Z.ztt, Z.seq_tup, Z.seq_lst, Z.lst_lst, Z.ty_non, Z.ty_bl, Z.ty_int, Z.ty_str, Z.ty_tup, Z.ty_lst, Z.tru_non, Z.tru_bl, Z.tru_int, Z.tru_tup, Z.tru_lst, Z.len_tup, Z.len_lst, Z.ix_int, Z.at_0, Z.at_1, Z.at_2, Z.at_3, Z.at_4, Z.add_ii, Z.sub_ii, Z.mul_ii, Z.fdiv_ii, Z.mod_ii, Z.pow_ii, Z.add_tt, Z.lt_ii, Z.le_ii, Z.gt_ii, Z.ge_ii, Z.eq_ii, Z.ne_ii, Z.eq_dd, Z.ne_dd, Z.isN_d, Z.notN_d, Z.wt_tup, Z.D.deq, this, SZ]
        rw [sp_self hA]
        exact zand_t (A1 := A) rfl (zand_f cE)
      · have hne : 0 < xs.length := List.length_pos_iff.mpr hxs
        have cE : zcmp .ne (zvar 1) (ztup znil) [some (.ref n), some (.tup xs), none, none] A = some (.ok true A) := by
          have := en A
          cases xs with
          | nil => exact absurd rfl hxs
          | cons y ys => simp [Z.sseq, Z.snil, Z.sret, Z.sexp, Z.sasg, Z.spar, Z.sif, Z.spass, Z.sbrk, Z.scnt, Z.sthen_nx, Z.sthen_rt, Z.sthen_bk, Z.sthen_ct, Z.of_ok, Z.andThen_ok, Z.mb, Z.ok, Z.mo, Z.zvar, Z.zc, Z.zbin, Z.zneg, Z.zcmp, Z.zchn, Z.copM, Z.zbl, Z.ztru, Z.zand, Z.zor, Z.znot, Z.zandv, Z.zorv, Z.zite, Z.znil, Z.zcons, Z.ztup, Z.zix, Z.zlen, Z.zisi, Z.isiB, Z.zcall, Z.endD, Z.gnm, Z.gtup, Z.gcons, Z.gnil, Z.gc_self, Z.zallq, Z.zanyq, Z.zsumq, Z.zminq, Z.zmaxq, Z.zlenq, Z.ztupq, Z.zrow, Z.zst, Z.zof, Z.zofL, Z.zlst, Z.lstM, Z.zcomp, Z.zrng, Z.rngM, Z.zcat, Z.zrep, Z.zzip, Z.zsort, Z.zsortR, Z.zsortset, Z.zslT, Z.zslL, Z.znone, Z.zsome, Z.znew, Z.zfz, Z.alloc, Z.wipeD, Z.sfor, Z.zm1, Z.zm0, Z.bmD, Z.zdvm, Z.zabs, Z.zmx2, Z.zmn2, Z.zint, Z.zcnt, Z.gsub, Z.setD, Z.ztt, Z.seq_tup, Z.seq_lst, Z.lst_lst, Z.ty_non, Z.ty_bl, Z.ty_int, Z.ty_str, Z.ty_tup, Z.ty_lst, Z.tru_non, Z.tru_bl, Z.tru_int, Z.tru_tup, Z.tru_lst, Z.len_tup, Z.len_lst, Z.ix_int, Z.at_0, Z.at_1, Z.at_2, Z.at_3, Z.at_4, Z.add_ii, Z.sub_ii, Z.mul_ii, Z.fdiv_ii, Z.mod_ii, Z.pow_ii, Z.add_tt, Z.lt_ii, Z.le_ii, Z.gt_ii, Z.ge_ii, Z.eq_ii, Z.ne_ii, Z.eq_dd, Z.ne_dd, Z.isN_d, Z.notN_d, Z.wt_tup, Z.D.deq, this, SZ]
        have tk8 := takeS hA (k + 1 + f) p 8 (e := zc (.int 8)) [some (.ref n), some (.tup xs), none, none] rfl rfl hA.2 (by decide)
        rw [show k + 1 + f + 1 = k + 2 + f by omega, sp_self hA] at tk8
        have c8 := gt_ok (b := zc (.int 0)) (j := 0) tk8 rfl
        have c0 := zand_t (a := ztru (zisi .tuple (zvar 1))) (A1 := A) rfl (zand_t cE c8)
        have P1 : PO (p / ((8 : Nat) : Int)) := hA.2.div (by decide)
        by_cases h8 : 0 < p % ((8 : Nat) : Int)
        · rw [decide_eq_true h8] at c0
          obtain ⟨q1, hq1⟩ : ∃ q1, q1 = p / ((8 : Nat) : Int) := ⟨_, rfl⟩
          rw [← hq1] at c0 P1
          have li : (0 : Int) < ((xs.length : Nat) : Int) := by omega
          have P2 : PO (q1 / ((xs.length : Nat) : Int)) := P1.div li
          have ta := takeS hA (k + 1 + f) q1 xs.length (e := zlen (zvar 1)) [some (.ref n), some (.tup xs), none, none] rfl rfl P1 hne
          rw [show k + 1 + f + 1 = k + 2 + f by omega] at ta
          obtain ⟨m, hm⟩ : ∃ m : Nat, q1 % ((xs.length : Nat) : Int) = m := ⟨(q1 % ((xs.length : Nat) : Int)).toNat, by have := Int.emod_nonneg q1 (show ((xs.length : Nat) : Int) ≠ 0 by omega); omega⟩
          have lm : m < xs.length := by have := Int.emod_lt_of_pos q1 li; omega
          obtain ⟨q2, hq2⟩ : ∃ q2, q2 = q1 / ((xs.length : Nat) : Int) := ⟨_, rfl⟩
          rw [hm, ← hq2] at ta
          rw [← hq2] at P2
          obtain ⟨σ3, hσ⟩ : ∃ σ3 : Sl, σ3 = [some (.ref n), some (.tup xs), none, some (.int m)] := ⟨_, rfl⟩
          have s3 := sasg_nm (i := 3) ta
          have e3 : [some (.ref n), some (.tup xs), none, none].set 3 (some (D.int m)) = σ3 := by rw [hσ]; rfl
          rw [e3] at s3
          have sA : ∀ B, zslT (zvar 1) znone (zsome (zvar 3)) σ3 B = some (.ok (.tup (xs.take m)) B) := fun B => by
            rw [hσ, zsl_ok (l := none) (h := some (m : Int)) rfl rfl rfl, cut_take]
          have sB : ∀ B, zslT (zvar 1) (zsome (zbin .add (zvar 3) (zc (.int 1)))) znone σ3 B = some (.ok (.tup (xs.drop (m + 1))) B) := fun B => by
            rw [hσ, zsl_ok (l := some ((m + 1 : Nat) : Int)) (h := none) rfl rfl rfl, cut_drop]
          obtain ⟨d, p', e, d1, d2⟩ := ih q2 (gD xs m) (SP A n q2) (sp_pa hA P2) (x2 _ (gD_mem lm)) (by have := deps_mem (gD_mem lm); omega) (by omega)
          rw [show SP (SP A n q2) n p' = SP A n p' from sp_sp A n q2 p'] at e
          have cb : zcall ⟨callN Pg (k + 2 + f)⟩ i__law_bent (zcons (zvar 0) (zcons (zix (zvar 1) (zvar 3)) znil)) σ3 (SP A n q2) = some (.ok d (SP A n p')) := by
            have ix : L2.atI xs (m : Int) = some (gD xs m) := by rw [at_nat, gD_at lm]
            rw [hσ]
            simp only [zcall, zcons, znil, zvar, zix, mb, ok, andThen_ok, List.getElem?_cons_zero, List.getElem?_cons_succ, ix_int, seq_tup, Option.bind_some, ix, Option.map_some, e]
          have l1 : (xs.take m).length ≤ 50 := by rw [List.length_take]; omega
          have l2 : (xs.drop (m + 1)).length ≤ 50 := by rw [List.length_drop]; omega
          have l6 : (xs.take m).length + (xs.drop (m + 1)).length ≤ xs.length := by rw [List.length_take, List.length_drop]; omega
          refine ⟨.tup (xs.take m ++ [d] ++ xs.drop (m + 1)), p', ?_, ?_, d2⟩
          · refine end_rt (sseq_rt (sif_t c0 ((sstep s3).trans (sret_ok (zcat_ok (zcat_ok (sA _) (ztup_ok2 (zcons_ok2 cb znil_ok) (by show 1 ≤ 1000; decide)) (by show _ + 1 ≤ 1000; omega)) (sB _) (by rw [List.length_append]; show _ + 1 + _ ≤ 1000; omega)))))) (List.length_set ..)
          · refine dat_sub (xs := xs) (by rw [List.length_append, List.length_append, List.length_singleton]; omega) (fun y hy => ?_) x3
            rcases List.mem_append.mp hy with hy | hy
            · rcases List.mem_append.mp hy with hy | hy
              · exact .inl (List.mem_of_mem_take hy)
              · rw [List.mem_singleton] at hy
                rw [hy]; exact .inr d1
            · exact .inl (List.mem_of_mem_drop hy)
        · rw [decide_eq_false h8] at c0
          exact part2 _ _ _ P1 c0
    · have hx0 : x.dep ≤ f := by
        cases x with
        | tup xs => exact absurd ⟨xs, rfl⟩ ht
        | lst _ => cases hx
        | _ => exact Nat.zero_le _
      obtain ⟨d, d1, d2⟩ := pick_of (oddS x) (i := p % 19) (by omega) (by show p % 19 < 19; omega)
      refine ⟨d, p / 19, ?_, oddS_dat (inp_dat x hx) d d2, hA.2.div (by omega)⟩
      show callN Pg (k + 2 + f + 1) i__law_bent [.ref n, x] A = _
      rw [c__law_bent, mb__law_bent]
      have l : sasg (gnm 2) (zfz (zlst (zcons (zc .non) (zcons (zc (.bl true)) (zcons (zc (.bl false)) (zcons (zc (.int 0)) (zcons (zc (.int 1)) (zcons (zc (.int 2)) (zcons (zc (.int 3)) (zcons (zc (.int 4)) (zcons (zneg (zc (.int 1))) (zcons (zc (.str "")) (zcons (zc (.str "old")) (zcons (zc (.str "near")) (zcons (zc (.str "Old")) (zcons (zfz (zlst znil)) (zcons zemp (zcons (ztup znil) (zcons (zfz (zlst (zcons (zvar 1) znil))) (zcons (ztup (zcons (zvar 1) znil)) (zcons (zbin .pow (zc (.int 10)) (zc (.int 30))) znil))))))))))))))))))))) [some (.ref n), some x, none, none] A = some (.nx [some (.ref n), some x, some (.lst (oddS x)), none] A) := by
        unfold oddS
        kernel_rfl
      have t := take_ok (k + 1 + f) n p 19 [some (.ref n), some x, some (.lst (oddS x)), none] A 0 rfl hA.1 hA.2 (by decide)
      rw [show k + 1 + f + 1 = k + 2 + f by omega] at t
      have rr := sret_ok (t := snil) (zix_ok (a := zvar 2) (xs := oddS x) rfl t d1)
      cases x with
      | tup xs => exact absurd ⟨xs, rfl⟩ ht
      | ref _ => cases hx
      | exc _ => cases hx
      | lst _ => cases hx
      | emp => cases hx
      | bl _ => cases hx
      | _ => exact end_rt ((sstep (sif_f (A1 := A) (zand_f rfl) rfl)).trans ((sstep (sif_f (A1 := A) rfl rfl)).trans ((sstep l).trans rr))) (List.length_set ..)
end Zp

set_option maxHeartbeats 4000000
namespace Zp
open PySem Z
theorem inp_tup {xs : List D} (h1 : xs.length ≤ 50) (h2 : ∀ x ∈ xs, inp x = true) : inp (.tup xs) = true := by
  show (decide (xs.length ≤ 50) && inps xs) = true
  rw [decide_eq_true h1, inps_of h2]
  rfl
theorem inp_int {i : Int} (h0 : -1000 ≤ i) (h1 : i ≤ 1000) : inp (.int i) = true := decide_eq_true (Nat.le_trans (show i.natAbs ≤ 1000 by omega) (by decide +kernel))
theorem dep_tup {xs : List D} {m : Nat} (h : ∀ x ∈ xs, x.dep ≤ m) : D.dep (.tup xs) ≤ m + 1 := by
  have : ∀ ys : List D, (∀ x ∈ ys, x.dep ≤ m) → D.deps ys ≤ m := fun ys => by
    induction ys with
    | nil => intro _; exact Nat.zero_le _
    | cons y ys ih =>
      intro h
      show max (D.dep y) (D.deps ys) ≤ m
      have h1 := h y (List.mem_cons_self ..)
      have h2 := ih fun z hz => h z (List.mem_cons_of_mem _ hz)
      omega
  show D.deps xs + 1 ≤ m + 1
  have := this xs h
  omega
theorem mul_ok {a b : Ev D} {σ : Sl} {A A1 A2 : Hh} {i j : Int} (ha : a σ A = some (.ok (.int i) A1)) (hb : b σ A1 = some (.ok (.int j) A2)) (h1 : small i = true) (h2 : small j = true) : zbin .mul a b σ A = some (.ok (.int (i * j)) A2) := by
  simp only [zbin, mb, ha, hb, andThen_ok, mul_sm h1 h2]
theorem takeV {h : Int → Hh} {n L : Nat} (F : PF h n L) (k : Nat) (q : Int) (m : Nat) {e : Ev D} (σ : Sl) (h0 : σ[0]? = some (some (.ref n))) (he : e σ (h q) = some (.ok (.int m) (h q))) (hq : PO q) (hm : 0 < m) :
    zcall ⟨callN Pg (k + 1)⟩ i__law_take (zcons (zvar 0) (zcons e znil)) σ (h q) = some (.ok (.int (q % m)) (h (q / m))) := by
  have t := takeF F k q m (by omega) hq
  simp only [zcall, zcons, znil, zvar, mb, h0, ok, andThen_ok, he, t]
def sizes : List D := [.tup [.int 1], .tup [.int 2], .tup [.int 3], .tup [.int 1, .int 1], .tup [.int 1, .int 2], .tup [.int 2, .int 1], .tup [.int 1, .int 1, .int 1]]
theorem sizes_in {d : D} (h : d ∈ sizes) : ∃ ns : List Int, d = .tup (ns.map .int) ∧ ns.length ≤ 3 ∧ 1 ≤ ns.length ∧ (∀ n ∈ ns, 1 ≤ n ∧ n ≤ 3) := by
  unfold sizes at h
  simp only [List.mem_cons, List.not_mem_nil, or_false] at h
  rcases h with r | r | r | r | r | r | r <;> subst r
  · exact ⟨[1], rfl, by decide, by decide, by decide⟩
  · exact ⟨[2], rfl, by decide, by decide, by decide⟩
  · exact ⟨[3], rfl, by decide, by decide, by decide⟩
  · exact ⟨[1, 1], rfl, by decide, by decide, by decide⟩
  · exact ⟨[1, 2], rfl, by decide, by decide, by decide⟩
  · exact ⟨[2, 1], rfl, by decide, by decide, by decide⟩
  · exact ⟨[1, 1, 1], rfl, by decide, by decide, by decide⟩
theorem all_of {P : D → Prop} {xs ys : List D} (hl : ys.length = xs.length) (h : ∀ (i : Nat) (x y : D), xs[i]? = some x → ys[i]? = some y → P y) : ∀ y ∈ ys, P y := fun y hy => by
  obtain ⟨i, hi, e⟩ := List.getElem_of_mem hy
  exact h i xs[i] y (List.getElem?_eq_getElem (by omega)) (by rw [List.getElem?_eq_getElem hi, e])
/-- small data -/
def Sm (m : Nat) (d : D) : Prop := inp d = true ∧ d.dep ≤ m
theorem Sm.int {i : Int} (m : Nat) (h0 : -1000 ≤ i) (h1 : i ≤ 1000) : Sm m (.int i) := ⟨inp_int h0 h1, Nat.zero_le _⟩
theorem Sm.tup {xs : List D} {m : Nat} (hl : xs.length ≤ 50) (h : ∀ x ∈ xs, Sm m x) : Sm (m + 1) (.tup xs) := ⟨inp_tup hl fun x hx => (h x hx).1, dep_tup fun x hx => (h x hx).2⟩
theorem Sm.mono {m m' : Nat} {d : D} (h : Sm m d) (hm : m ≤ m') : Sm m' d := ⟨h.1, Nat.le_trans h.2 hm⟩
theorem e_draw (k n : Nat) (p : Int) (A : Hh) (hA : PA A n p) : ∃ d p', callN Pg (k + 2) i__law_small [.ref n] A = some (.ok d (SP A n p')) ∧ Sm 3 d ∧ PO p' := by
  have F : PF (SP A n) n A.length := PF.of hA.1
  obtain ⟨h, hh⟩ : ∃ h : Int → Hh, h = SP A n := ⟨_, rfl⟩
  rw [← hh] at F ⊢
  have hp := hA.2
  have eA : A = h p := by rw [hh]; exact (sp_self hA).symm
  obtain ⟨sz, z1, z2⟩ := pick_of sizes (i := p % ((7 : Nat) : Int)) (by omega) (by show p % ((7 : Nat) : Int) < 7; omega)
  obtain ⟨ns, rfl, n1, n2, n3⟩ := sizes_in z2
  have t1 := takeV F k p 7 (e := zc (.int 7)) [some (.ref n), none, none, none, none, none, none, none, none, none, none, none] rfl rfl hp (by decide)
  have P1 : PO (p / ((7 : Nat) : Int)) := hp.div (by decide)
  have s1 : sasg (gnm 1) (zix (zfz (zlst (zcons (ztup (zcons (zc (.int 1)) znil)) (zcons (ztup (zcons (zc (.int 2)) znil)) (zcons (ztup (zcons (zc (.int 3)) znil)) (zcons (ztup (zcons (zc (.int 1)) (zcons (zc (.int 1)) znil))) (zcons (ztup (zcons (zc (.int 1)) (zcons (zc (.int 2)) znil))) (zcons (ztup (zcons (zc (.int 2)) (zcons (zc (.int 1)) znil))) (zcons (ztup (zcons (zc (.int 1)) (zcons (zc (.int 1)) (zcons (zc (.int 1)) znil)))) znil))))))))) (zcall ⟨callN Pg (k + 1)⟩ i__law_take (zcons (zvar 0) (zcons (zc (.int 7)) znil)))) [some (.ref n), none, none, none, none, none, none, none, none, none, none, none] (h p)
      = some (.nx [some (.ref n), some (.tup (ns.map .int)), none, none, none, none, none, none, none, none, none, none] (h (p / ((7 : Nat) : Int)))) :=
    sasg_nm (zix_ok (xs := sizes) (by kernel_rfl) t1 z1)
  -- frames
  obtain ⟨fs, q2, c2, P2, l2, f2⟩ := compL_all (σ := [some (.ref n), some (.tup (ns.map .int)), none, none, none, none, none, none, none, none, none, none]) (g := gnm 9) (e := ce__law_small_0 ⟨callN Pg (k + 1)⟩) (h := h) (fun _ y => Sm 1 y) (ns.map .int) [] (p / ((7 : Nat) : Int)) P1 (fun x hx q hq => by
    obtain ⟨s, hs, rfl⟩ := List.mem_map.mp hx
    have hs2 := n3 s hs
    obtain ⟨sn, rfl⟩ : ∃ m : Nat, s = m := ⟨s.toNat, by omega⟩
    have ta := takeV F k q 2 (e := zc (.int 2)) [some (.ref n), some (.tup (ns.map .int)), none, none, none, none, none, none, none, some (.int sn), none, none] rfl rfl hq (by decide)
    have Pa : PO (q / ((2 : Nat) : Int)) := hq.div (by decide)
    have tb := takeV F k (q / ((2 : Nat) : Int)) sn (e := zvar 9) [some (.ref n), some (.tup (ns.map .int)), none, none, none, none, none, none, none, some (.int sn), none, none] rfl rfl Pa (by omega)
    have Pb : PO (q / ((2 : Nat) : Int) / (sn : Int)) := Pa.div (by omega)
    refine ⟨_, .tup [.int (q % ((2 : Nat) : Int)), .int sn, .int (q / ((2 : Nat) : Int) % (sn : Int))], _, rfl, ?_, Pb, ?_⟩
    · exact ztup_ok2 (zcons_ok2 ta (zcons_ok2 rfl (zcons_ok2 tb znil_ok))) (by show 3 ≤ 1000; decide)
    · have m1 := Int.emod_nonneg (q / ((2 : Nat) : Int)) (show (sn : Int) ≠ 0 by omega)
      have m2 := Int.emod_lt_of_pos (q / ((2 : Nat) : Int)) (show (0 : Int) < (sn : Int) by omega)
      refine Sm.tup (m := 0) (by simp) fun x hx => ?_
      simp only [List.mem_cons, List.not_mem_nil, or_false] at hx
      rcases hx with r | r | r <;> subst r
      · exact Sm.int _ (by omega) (by omega)
      · exact Sm.int _ (by omega) (by omega)
      · exact Sm.int _ (by omega) (by omega)) (by rw [List.length_map]; show 0 + ns.length < 1000; omega)
  rw [List.length_map] at l2
  rw [List.nil_append] at c2
  have hfs : ∀ y ∈ fs, Sm 1 y := all_of (by rw [l2, List.length_map]) f2
  -- wide
  obtain ⟨wd, w1, w2⟩ := pick_of [D.int 1, .int 2, .int 4] (i := q2 % ((3 : Nat) : Int)) (by omega) (by show q2 % ((3 : Nat) : Int) < 3; omega)
  obtain ⟨w, rfl, hw⟩ : ∃ w : Nat, wd = .int w ∧ (1 ≤ w ∧ w ≤ 4) := by
    simp only [List.mem_cons, List.not_mem_nil, or_false] at w2
    rcases w2 with r | r | r <;> subst r
    · exact ⟨1, rfl, by decide⟩
    · exact ⟨2, rfl, by decide⟩
    · exact ⟨4, rfl, by decide⟩
  have t3 := takeV F k q2 3 (e := zc (.int 3)) [some (.ref n), some (.tup (ns.map .int)), some (.tup fs), none, none, none, none, none, none, none, none, none] rfl rfl P2 (by decide)
  have P3 : PO (q2 / ((3 : Nat) : Int)) := P2.div (by decide)
  have s3 : sasg (gnm 3) (zix (zfz (zlst (zcons (zc (.int 1)) (zcons (zc (.int 2)) (zcons (zc (.int 4)) znil))))) (zcall ⟨callN Pg (k + 1)⟩ i__law_take (zcons (zvar 0) (zcons (zc (.int 3)) znil)))) [some (.ref n), some (.tup (ns.map .int)), some (.tup fs), none, none, none, none, none, none, none, none, none] (h q2)
      = some (.nx [some (.ref n), some (.tup (ns.map .int)), some (.tup fs), some (.int w), none, none, none, none, none, none, none, none] (h (q2 / ((3 : Nat) : Int)))) :=
    sasg_nm (zix_ok (xs := [D.int 1, .int 2, .int 4]) (by kernel_rfl) t3 w1)
  have rm : ∀ B, zst (zrng (zc (.int 0)) (zvar 4)) B = fun A => zst (zrng (zc (.int 0)) (zvar 4)) B A := fun _ => rfl
  obtain ⟨q3, hq3⟩ : ∃ q3, q3 = q2 / ((3 : Nat) : Int) := ⟨_, rfl⟩
  rw [← hq3] at s3 P3
  -- walks
  obtain ⟨N, hN⟩ : ∃ N : Nat, N = ns.length := ⟨_, rfl⟩
  rw [← hN] at n1 n2 l2
  obtain ⟨σ4, hσ4⟩ : ∃ σ4 : Sl, σ4 = [some (.ref n), some (.tup (ns.map .int)), some (.tup fs), some (.int w), some (.int N), none, none, none, none, none, none, none] := ⟨_, rfl⟩
  have rN : ∀ B, rngM (.int 0) (.int (N : Int)) B = some (.ok (rngI 0 N) B) := fun B => rngM_ok (by omega) (by omega) (by omega) B
  obtain ⟨ws, q4, c4, P4, l4, f4⟩ := compL_all (σ := σ4) (g := gnm 10) (e := ce__law_small_2 ⟨callN Pg (k + 1)⟩) (h := h) (fun _ y => Sm 1 y) ((List.range N).map fun (i : Nat) => D.int i) [] q3 P3 (fun x hx q hq => by
    obtain ⟨i, hi, rfl⟩ := List.mem_map.mp hx
    have hi := List.mem_range.mp hi
    obtain ⟨ys, q', c, Pq, l, fy⟩ := compL_all (σ := [some (.ref n), some (.tup (ns.map .int)), some (.tup fs), some (.int w), some (.int N), none, none, none, none, none, some (.int i), none]) (g := gnm 11) (e := ce__law_small_1 ⟨callN Pg (k + 1)⟩) (h := h) (fun _ y => Sm 0 y) ((List.range N).map fun (i : Nat) => D.int i) [] q hq (fun x hx q hq => by
      obtain ⟨j, hj, rfl⟩ := List.mem_map.mp hx
      have ta := takeV F k q w (e := zvar 3) [some (.ref n), some (.tup (ns.map .int)), some (.tup fs), some (.int w), some (.int N), none, none, none, none, none, some (.int i), some (.int j)] rfl rfl hq (by omega)
      have m1 := Int.emod_nonneg q (show (w : Int) ≠ 0 by omega)
      have m2 := Int.emod_lt_of_pos q (show (0 : Int) < (w : Int) by omega)
      have Pa : PO (q / (w : Int)) := hq.div (by omega)
      have bi : zint (zbl (zcmp .ne (zvar 10) (zvar 11))) [some (.ref n), some (.tup (ns.map .int)), some (.tup fs), some (.int w), some (.int N), none, none, none, none, none, some (.int i), some (.int j)] (h (q / (w : Int))) = some (.ok (.int (if i = j then 0 else 1)) (h (q / (w : Int)))) := by
        by_cases e : i = j
        · subst e; simp [Z.sseq, Z.snil, Z.sret, Z.sexp, Z.sasg, Z.spar, Z.sif, Z.spass, Z.sbrk, Z.scnt, Z.sthen_nx, Z.sthen_rt, Z.sthen_bk, Z.sthen_ct, Z.of_ok, Z.andThen_ok, Z.mb, Z.ok, Z.mo, Z.zvar, Z.zc, Z.zbin, Z.zneg, Z.zcmp, Z.zchn, Z.copM, Z.zbl, Z.ztru, Z.zand, Z.zor, Z.znot, Z.zandv, Z.zorv, Z.zite, Z.znil, Z.zcons, Z.ztup, Z.zix, Z.zlen, Z.zisi, Z.isiB, Z.zcall, Z.endD, Z.gnm, Z.gtup, Z.gcons, Z.gnil, Z.gc_self, Z.zallq, Z.zanyq, Z.zsumq, Z.zminq, Z.zmaxq, Z.zlenq, Z.ztupq, Z.zrow, Z.zst, Z.zof, Z.zofL, Z.zlst, Z.lstM, Z.zcomp, Z.zrng, Z.rngM, Z.zcat, Z.zrep, Z.zzip, Z.zsort, Z.zsortR, Z.zsortset, Z.zslT, Z.zslL, Z.znone, Z.zsome, Z.znew, Z.zfz, Z.alloc, Z.wipeD, Z.sfor, Z.zm1, Z.zm0, Z.bmD, Z.zdvm, Z.zabs, Z.zmx2, Z.zmn2, Z.zint, Z.zcnt, Z.gsub, Z.setD, Z.ztt, Z.seq_tup, Z.seq_lst, Z.lst_lst, Z.ty_non, Z.ty_bl, Z.ty_int, Z.ty_str, Z.ty_tup, Z.ty_lst, Z.tru_non, Z.tru_bl, Z.tru_int, Z.tru_tup, Z.tru_lst, Z.len_tup, Z.len_lst, Z.ix_int, Z.at_0, Z.at_1, Z.at_2, Z.at_3, Z.at_4, Z.add_ii, Z.sub_ii, Z.mul_ii, Z.fdiv_ii, Z.mod_ii, Z.pow_ii, Z.add_tt, Z.lt_ii, Z.le_ii, Z.gt_ii, Z.ge_ii, Z.eq_ii, Z.ne_ii, Z.eq_dd, Z.ne_dd, Z.isN_d, Z.notN_d, Z.wt_tup, Z.D.deq, eqD_ii]
        · have e' : ¬ (i : Int) = j := by omega
          simp [Z.sseq, Z.snil, Z.sret, Z.sexp, Z.sasg, Z.spar, Z.sif, Z.spass, Z.sbrk, Z.scnt, Z.sthen_nx, Z.sthen_rt, Z.sthen_bk, Z.sthen_ct, Z.of_ok, Z.andThen_ok, Z.mb, Z.ok, Z.mo, Z.zvar, Z.zc, Z.zbin, Z.zneg, Z.zcmp, Z.zchn, Z.copM, Z.zbl, Z.ztru, Z.zand, Z.zor, Z.znot, Z.zandv, Z.zorv, Z.zite, Z.znil, Z.zcons, Z.ztup, Z.zix, Z.zlen, Z.zisi, Z.isiB, Z.zcall, Z.endD, Z.gnm, Z.gtup, Z.gcons, Z.gnil, Z.gc_self, Z.zallq, Z.zanyq, Z.zsumq, Z.zminq, Z.zmaxq, Z.zlenq, Z.ztupq, Z.zrow, Z.zst, Z.zof, Z.zofL, Z.zlst, Z.lstM, Z.zcomp, Z.zrng, Z.rngM, Z.zcat, Z.zrep, Z.zzip, Z.zsort, Z.zsortR, Z.zsortset, Z.zslT, Z.zslL, Z.znone, Z.zsome, Z.znew, Z.zfz, Z.alloc, Z.wipeD, Z.sfor, Z.zm1, Z.zm0, Z.bmD, Z.zdvm, Z.zabs, Z.zmx2, Z.zmn2, Z.zint, Z.zcnt, Z.gsub, Z.setD, Z.ztt, Z.seq_tup, Z.seq_lst, Z.lst_lst, Z.ty_non, Z.ty_bl, Z.ty_int, Z.ty_str, Z.ty_tup, Z.ty_lst, Z.tru_non, Z.tru_bl, Z.tru_int, Z.tru_tup, Z.tru_lst, Z.len_tup, Z.len_lst, Z.ix_int, Z.at_0, Z.at_1, Z.at_2, Z.at_3, Z.at_4, Z.add_ii, Z.sub_ii, Z.mul_ii, Z.fdiv_ii, Z.mod_ii, Z.pow_ii, Z.add_tt, Z.lt_ii, Z.le_ii, Z.gt_ii, Z.ge_ii, Z.eq_ii, Z.ne_ii, Z.eq_dd, Z.ne_dd, Z.isN_d, Z.notN_d, Z.wt_tup, Z.D.deq, eqD_ii, e, e']
      have g1 : small (q % (w : Int)) = true := sm (by omega) (Int.le_trans (show q % (w : Int) ≤ 4 by omega) (by decide +kernel))
      have g2 : small (if i = j then 0 else 1) = true := by split <;> exact sm (by decide) (by decide +kernel)
      refine ⟨_, .int (q % (w : Int) * (if i = j then 0 else 1)), _, rfl, ?_, Pa, ?_⟩
      · unfold ce__law_small_1
        exact mul_ok ta bi g1 g2
      · refine Sm.int _ ?_ ?_ <;> split <;> omega) (by rw [List.length_map, List.length_range]; show 0 + N < 1000; omega)
    rw [List.length_map, List.length_range] at l
    rw [List.nil_append, ← rng_nat] at c
    refine ⟨_, .tup ys, q', rfl, ?_, Pq, Sm.tup (m := 0) (by omega) (all_of (by rw [l, List.length_map, List.length_range]) fy)⟩
    unfold ce__law_small_2
    rw [hσ4]
    show ztupq (zst (zcomp [11] (gnm 11) (zst (zrng (zc (.int 0)) (zvar 4))) ztt (ce__law_small_1 ⟨callN Pg (k + 1)⟩))) [some (.ref n), some (.tup (ns.map .int)), some (.tup fs), some (.int w), some (.int N), none, none, none, none, none, some (.int i), none] (h q) = _
    have r1 := rN (h q)
    simp only [ztupq, zst, zcomp, zrng, zc, zvar, mb, ok, andThen_ok, List.getElem?_cons_zero, List.getElem?_cons_succ, r1, wipeD, List.set_cons_zero, List.set_cons_succ, c]) (by rw [List.length_map, List.length_range]; show 0 + N < 1000; omega)
  rw [List.length_map, List.length_range] at l4
  rw [List.nil_append, ← rng_nat] at c4
  have hws : ∀ y ∈ ws, Sm 1 y := all_of (by rw [l4, List.length_map, List.length_range]) f4
  -- pieces
  obtain ⟨σ5, hσ5⟩ : ∃ σ5 : Sl, σ5 = [some (.ref n), some (.tup (ns.map .int)), some (.tup fs), some (.int w), some (.int N), some (.tup ws), none, none, none, none, none, none] := ⟨_, rfl⟩
  have t5 := takeV F k q4 3 (e := zc (.int 3)) σ5 (by rw [hσ5]; rfl) rfl P4 (by decide)
  have P5 : PO (q4 / ((3 : Nat) : Int)) := P4.div (by decide)
  have t6 := takeV F k (q4 / ((3 : Nat) : Int)) 3 (e := zc (.int 3)) σ5 (by rw [hσ5]; rfl) rfl P5 (by decide)
  have P6 : PO (q4 / ((3 : Nat) : Int) / ((3 : Nat) : Int)) := P5.div (by decide)
  obtain ⟨q6, hq6⟩ : ∃ q6, q6 = q4 / ((3 : Nat) : Int) / ((3 : Nat) : Int) := ⟨_, rfl⟩
  obtain ⟨u, hu⟩ : ∃ u, u = q4 % ((3 : Nat) : Int) := ⟨_, rfl⟩
  obtain ⟨v, hv⟩ : ∃ v, v = q4 / ((3 : Nat) : Int) % ((3 : Nat) : Int) := ⟨_, rfl⟩
  have hu2 : 0 ≤ u ∧ u < 3 := by omega
  have hv2 : 0 ≤ v ∧ v < 3 := by omega
  rw [← hu] at t5
  rw [← hq6, ← hv] at t6
  rw [← hq6] at P6
  have add1 : ∀ {e : Ev D} {A1 A2 : Hh} {x : Int}, e σ5 A1 = some (.ok (.int x) A2) → zbin .add (zc (.int 1)) e σ5 A1 = some (.ok (.int (1 + x)) A2) := fun h => by
    simp only [zbin, zc, mb, ok, andThen_ok, h, add_ii]
  have s6 : sasg (gnm 6) (ztup (zcons (zbin .add (zc (.int 1)) (zcall ⟨callN Pg (k + 1)⟩ i__law_take (zcons (zvar 0) (zcons (zc (.int 3)) znil)))) (zcons (zbin .add (zc (.int 1)) (zcall ⟨callN Pg (k + 1)⟩ i__law_take (zcons (zvar 0) (zcons (zc (.int 3)) znil)))) znil))) σ5 (h q4)
      = some (.nx [some (.ref n), some (.tup (ns.map .int)), some (.tup fs), some (.int w), some (.int N), some (.tup ws), some (.tup [.int (1 + u), .int (1 + v)]), none, none, none, none, none] (h q6)) := by
    have := sasg_nm (i := 6) (ztup_ok2 (zcons_ok2 (add1 t5) (zcons_ok2 (add1 t6) (znil_ok (A := h q6)))) (by show 2 ≤ 1000; decide))
    rw [this, hσ5]
    rfl
  -- rule
  obtain ⟨rl, r1, r2⟩ := pick_of [D.str "near", .str "old", .str "sort"] (i := q6 % ((3 : Nat) : Int)) (by omega) (by show q6 % ((3 : Nat) : Int) < 3; omega)
  have hrl : Sm 0 rl := by
    simp only [List.mem_cons, List.not_mem_nil, or_false] at r2
    rcases r2 with r | r | r <;> subst r <;> exact ⟨by decide +kernel, Nat.le_refl _⟩
  have t7 := takeV F k q6 3 (e := zc (.int 3)) [some (.ref n), some (.tup (ns.map .int)), some (.tup fs), some (.int w), some (.int N), some (.tup ws), some (.tup [.int (1 + u), .int (1 + v)]), none, none, none, none, none] rfl rfl P6 (by decide)
  have P7 : PO (q6 / ((3 : Nat) : Int)) := P6.div (by decide)
  obtain ⟨q7, hq7⟩ : ∃ q7, q7 = q6 / ((3 : Nat) : Int) := ⟨_, rfl⟩
  rw [← hq7] at t7 P7
  have s7 : sasg (gnm 7) (zix (zfz (zlst (zcons (zc (.str "near")) (zcons (zc (.str "old")) (zcons (zc (.str "sort")) znil))))) (zcall ⟨callN Pg (k + 1)⟩ i__law_take (zcons (zvar 0) (zcons (zc (.int 3)) znil)))) [some (.ref n), some (.tup (ns.map .int)), some (.tup fs), some (.int w), some (.int N), some (.tup ws), some (.tup [.int (1 + u), .int (1 + v)]), none, none, none, none, none] (h q6)
      = some (.nx [some (.ref n), some (.tup (ns.map .int)), some (.tup fs), some (.int w), some (.int N), some (.tup ws), some (.tup [.int (1 + u), .int (1 + v)]), some rl, none, none, none, none] (h q7)) :=
    sasg_nm (zix_ok (xs := [D.str "near", .str "old", .str "sort"]) (by kernel_rfl) t7 r1)
  -- gap
  obtain ⟨gd, g1, g2⟩ := pick_of [D.int 0, .int 0, .int 1, .int 2] (i := q7 % ((4 : Nat) : Int)) (by omega) (by show q7 % ((4 : Nat) : Int) < 4; omega)
  obtain ⟨gp, rfl, hg⟩ : ∃ g : Int, gd = .int g ∧ (0 ≤ g ∧ g ≤ 2) := by
    simp only [List.mem_cons, List.not_mem_nil, or_false] at g2
    rcases g2 with r | r | r | r <;> subst r <;> exact ⟨_, rfl, by decide⟩
  have t8 := takeV F k q7 4 (e := zc (.int 4)) [some (.ref n), some (.tup (ns.map .int)), some (.tup fs), some (.int w), some (.int N), some (.tup ws), some (.tup [.int (1 + u), .int (1 + v)]), some rl, none, none, none, none] rfl rfl P7 (by decide)
  have P8 : PO (q7 / ((4 : Nat) : Int)) := P7.div (by decide)
  obtain ⟨q8, hq8⟩ : ∃ q8, q8 = q7 / ((4 : Nat) : Int) := ⟨_, rfl⟩
  rw [← hq8] at t8 P8
  have s8 : sasg (gnm 8) (zix (zfz (zlst (zcons (zc (.int 0)) (zcons (zc (.int 0)) (zcons (zc (.int 1)) (zcons (zc (.int 2)) znil)))))) (zcall ⟨callN Pg (k + 1)⟩ i__law_take (zcons (zvar 0) (zcons (zc (.int 4)) znil)))) [some (.ref n), some (.tup (ns.map .int)), some (.tup fs), some (.int w), some (.int N), some (.tup ws), some (.tup [.int (1 + u), .int (1 + v)]), some rl, none, none, none, none] (h q7)
      = some (.nx [some (.ref n), some (.tup (ns.map .int)), some (.tup fs), some (.int w), some (.int N), some (.tup ws), some (.tup [.int (1 + u), .int (1 + v)]), some rl, some (.int gp), none, none, none] (h q8)) :=
    sasg_nm (zix_ok (xs := [D.int 0, .int 0, .int 1, .int 2]) (by kernel_rfl) t8 g1)
  -- the gap again
  obtain ⟨g9, hg9, s9⟩ : ∃ g9 : Int, (-1000 ≤ g9 ∧ g9 ≤ 1000) ∧ sif (zcmp .gt (zsumT (zvar 1)) (zc (.int 2))) (sseq (sasg (gnm 8) (zmn2 (zvar 8) (zint (zbl (zcmp .eq (zvar 4) (zc (.int 1))))))) snil) snil [some (.ref n), some (.tup (ns.map .int)), some (.tup fs), some (.int w), some (.int N), some (.tup ws), some (.tup [.int (1 + u), .int (1 + v)]), some rl, some (.int gp), none, none, none] (h q8)
      = some (.nx [some (.ref n), some (.tup (ns.map .int)), some (.tup fs), some (.int w), some (.int N), some (.tup ws), some (.tup [.int (1 + u), .int (1 + v)]), some rl, some (.int g9), none, none, none] (h q8)) := by
    by_cases c : 2 < ns.sum
    · by_cases c1 : (N : Int) = 1
      · refine ⟨min gp 1, by omega, ?_⟩
        simp [Z.sseq, Z.snil, Z.sret, Z.sexp, Z.sasg, Z.spar, Z.sif, Z.spass, Z.sbrk, Z.scnt, Z.sthen_nx, Z.sthen_rt, Z.sthen_bk, Z.sthen_ct, Z.of_ok, Z.andThen_ok, Z.mb, Z.ok, Z.mo, Z.zvar, Z.zc, Z.zbin, Z.zneg, Z.zcmp, Z.zchn, Z.copM, Z.zbl, Z.ztru, Z.zand, Z.zor, Z.znot, Z.zandv, Z.zorv, Z.zite, Z.znil, Z.zcons, Z.ztup, Z.zix, Z.zlen, Z.zisi, Z.isiB, Z.zcall, Z.endD, Z.gnm, Z.gtup, Z.gcons, Z.gnil, Z.gc_self, Z.zallq, Z.zanyq, Z.zsumq, Z.zminq, Z.zmaxq, Z.zlenq, Z.ztupq, Z.zrow, Z.zst, Z.zof, Z.zofL, Z.zlst, Z.lstM, Z.zcomp, Z.zrng, Z.rngM, Z.zcat, Z.zrep, Z.zzip, Z.zsort, Z.zsortR, Z.zsortset, Z.zslT, Z.zslL, Z.znone, Z.zsome, Z.znew, Z.zfz, Z.alloc, Z.wipeD, Z.sfor, Z.zm1, Z.zm0, Z.bmD, Z.zdvm, Z.zabs, Z.zmx2, Z.zmn2, Z.zint, Z.zcnt, Z.gsub, Z.setD, Z.ztt, Z.seq_tup, Z.seq_lst, Z.lst_lst, Z.ty_non, Z.ty_bl, Z.ty_int, Z.ty_str, Z.ty_tup, Z.ty_lst, Z.tru_non, Z.tru_bl, Z.tru_int, Z.tru_tup, Z.tru_lst, Z.len_tup, Z.len_lst, Z.ix_int, Z.at_0, Z.at_1, Z.at_2, Z.at_3, Z.at_4, Z.add_ii, Z.sub_ii, Z.mul_ii, Z.fdiv_ii, Z.mod_ii, Z.pow_ii, Z.add_tt, Z.lt_ii, Z.le_ii, Z.gt_ii, Z.ge_ii, Z.eq_ii, Z.ne_ii, Z.eq_dd, Z.ne_dd, Z.isN_d, Z.notN_d, Z.wt_tup, Z.D.deq, zsumT, sumT, intsOf_ints, c, eqD_ii, c1]
      · refine ⟨min gp 0, by omega, ?_⟩
        simp [Z.sseq, Z.snil, Z.sret, Z.sexp, Z.sasg, Z.spar, Z.sif, Z.spass, Z.sbrk, Z.scnt, Z.sthen_nx, Z.sthen_rt, Z.sthen_bk, Z.sthen_ct, Z.of_ok, Z.andThen_ok, Z.mb, Z.ok, Z.mo, Z.zvar, Z.zc, Z.zbin, Z.zneg, Z.zcmp, Z.zchn, Z.copM, Z.zbl, Z.ztru, Z.zand, Z.zor, Z.znot, Z.zandv, Z.zorv, Z.zite, Z.znil, Z.zcons, Z.ztup, Z.zix, Z.zlen, Z.zisi, Z.isiB, Z.zcall, Z.endD, Z.gnm, Z.gtup, Z.gcons, Z.gnil, Z.gc_self, Z.zallq, Z.zanyq, Z.zsumq, Z.zminq, Z.zmaxq, Z.zlenq, Z.ztupq, Z.zrow, Z.zst, Z.zof, Z.zofL, Z.zlst, Z.lstM, Z.zcomp, Z.zrng, Z.rngM, Z.zcat, Z.zrep, Z.zzip, Z.zsort, Z.zsortR, Z.zsortset, Z.zslT, Z.zslL, Z.znone, Z.zsome, Z.znew, Z.zfz, Z.alloc, Z.wipeD, Z.sfor, Z.zm1, Z.zm0, Z.bmD, Z.zdvm, Z.zabs, Z.zmx2, Z.zmn2, Z.zint, Z.zcnt, Z.gsub, Z.setD, Z.ztt, Z.seq_tup, Z.seq_lst, Z.lst_lst, Z.ty_non, Z.ty_bl, Z.ty_int, Z.ty_str, Z.ty_tup, Z.ty_lst, Z.tru_non, Z.tru_bl, Z.tru_int, Z.tru_tup, Z.tru_lst, Z.len_tup, Z.len_lst, Z.ix_int, Z.at_0, Z.at_1, Z.at_2, Z.at_3, Z.at_4, Z.add_ii, Z.sub_ii, Z.mul_ii, Z.fdiv_ii, Z.mod_ii, Z.pow_ii, Z.add_tt, Z.lt_ii, Z.le_ii, Z.gt_ii, Z.ge_ii, Z.eq_ii, Z.ne_ii, Z.eq_dd, Z.ne_dd, Z.isN_d, Z.notN_d, Z.wt_tup, Z.D.deq, zsumT, sumT, intsOf_ints, c, eqD_ii, c1]
    · refine ⟨gp, by omega, ?_⟩
      simp [Z.sseq, Z.snil, Z.sret, Z.sexp, Z.sasg, Z.spar, Z.sif, Z.spass, Z.sbrk, Z.scnt, Z.sthen_nx, Z.sthen_rt, Z.sthen_bk, Z.sthen_ct, Z.of_ok, Z.andThen_ok, Z.mb, Z.ok, Z.mo, Z.zvar, Z.zc, Z.zbin, Z.zneg, Z.zcmp, Z.zchn, Z.copM, Z.zbl, Z.ztru, Z.zand, Z.zor, Z.znot, Z.zandv, Z.zorv, Z.zite, Z.znil, Z.zcons, Z.ztup, Z.zix, Z.zlen, Z.zisi, Z.isiB, Z.zcall, Z.endD, Z.gnm, Z.gtup, Z.gcons, Z.gnil, Z.gc_self, Z.zallq, Z.zanyq, Z.zsumq, Z.zminq, Z.zmaxq, Z.zlenq, Z.ztupq, Z.zrow, Z.zst, Z.zof, Z.zofL, Z.zlst, Z.lstM, Z.zcomp, Z.zrng, Z.rngM, Z.zcat, Z.zrep, Z.zzip, Z.zsort, Z.zsortR, Z.zsortset, Z.zslT, Z.zslL, Z.znone, Z.zsome, Z.znew, Z.zfz, Z.alloc, Z.wipeD, Z.sfor, Z.zm1, Z.zm0, Z.bmD, Z.zdvm, Z.zabs, Z.zmx2, Z.zmn2, Z.zint, Z.zcnt, Z.gsub, Z.setD, Z.ztt, Z.seq_tup, Z.seq_lst, Z.lst_lst, Z.ty_non, Z.ty_bl, Z.ty_int, Z.ty_str, Z.ty_tup, Z.ty_lst, Z.tru_non, Z.tru_bl, Z.tru_int, Z.tru_tup, Z.tru_lst, Z.len_tup, Z.len_lst, Z.ix_int, Z.at_0, Z.at_1, Z.at_2, Z.at_3, Z.at_4, Z.add_ii, Z.sub_ii, Z.mul_ii, Z.fdiv_ii, Z.mod_ii, Z.pow_ii, Z.add_tt, Z.lt_ii, Z.le_ii, Z.gt_ii, Z.ge_ii, Z.eq_ii, Z.ne_ii, Z.eq_dd, Z.ne_dd, Z.isN_d, Z.notN_d, Z.wt_tup, Z.D.deq, zsumT, sumT, intsOf_ints, c]
  refine ⟨.tup [.tup fs, .tup ws, .tup [.int (1 + u), .int (1 + v)], rl, .int g9], q8, ?_, ?_, P8⟩
  · rw [c__law_small, mb__law_small]
    conv => lhs; rw [eA]
    have s2 : sasg (gnm 2) (ztupq (zst (zcomp [9] (gnm 9) (zof (zvar 1)) ztt (ce__law_small_0 ⟨callN Pg (k + 1)⟩)))) [some (.ref n), some (.tup (ns.map .int)), none, none, none, none, none, none, none, none, none, none] (h (p / ((7 : Nat) : Int))) = some (.nx [some (.ref n), some (.tup (ns.map .int)), some (.tup fs), none, none, none, none, none, none, none, none, none] (h q2)) := by
      refine sasg_nm ?_
      simp only [ztupq, zst, zcomp, zof, zvar, mb, ok, andThen_ok, List.getElem?_cons_zero, List.getElem?_cons_succ, seq_tup, Option.map_some, wipeD, List.set_cons_zero, List.set_cons_succ, c2]
    have s4 : sasg (gnm 4) (zlen (zvar 1)) [some (.ref n), some (.tup (ns.map .int)), some (.tup fs), some (.int w), none, none, none, none, none, none, none, none] (h q3) = some (.nx σ4 (h q3)) := by
      rw [hσ4, hN]
      refine sasg_nm ?_
      simp only [zlen, zvar, mb, ok, andThen_ok, List.getElem?_cons_zero, List.getElem?_cons_succ, len_tup, Option.map_some, List.length_map]
    have s5 : sasg (gnm 5) (ztupq (zst (zcomp [10] (gnm 10) (zst (zrng (zc (.int 0)) (zvar 4))) ztt (ce__law_small_2 ⟨callN Pg (k + 1)⟩)))) σ4 (h q3) = some (.nx σ5 (h q4)) := by
      have r1 := rN (h q3)
      have e := sasg_nm (i := 5) (e := ztupq (zst (zcomp [10] (gnm 10) (zst (zrng (zc (.int 0)) (zvar 4))) ztt (ce__law_small_2 ⟨callN Pg (k + 1)⟩)))) (σ := σ4) (A := h q3) (A' := h q4) (d := .tup ws) (by
        rw [hσ4] at c4 ⊢
        simp only [ztupq, zst, zcomp, zrng, zc, zvar, mb, ok, andThen_ok, List.getElem?_cons_zero, List.getElem?_cons_succ, r1, wipeD, List.set_cons_zero, List.set_cons_succ, c4])
      rw [e, hσ4, hσ5]
      rfl
    refine end_rt ((sstep s1).trans ((sstep s2).trans ((sstep s3).trans ((sstep s4).trans ((sstep s5).trans ((sstep s6).trans ((sstep s7).trans ((sstep s8).trans ((sstep s9).trans (sret_ok (ztup_ok2 (zcons_ok2 rfl (zcons_ok2 rfl (zcons_ok2 rfl (zcons_ok2 rfl (zcons_ok2 rfl znil_ok))))) (by show 5 ≤ 1000; decide)))))))))))) (by rw [F.len, F.len])
  · refine Sm.tup (m := 2) (by simp) fun x hx => ?_
    simp only [List.mem_cons, List.not_mem_nil, or_false] at hx
    rcases hx with r | r | r | r | r <;> subst r
    · exact Sm.tup (m := 1) (by omega) hfs
    · exact Sm.tup (m := 1) (by omega) hws
    · refine (Sm.tup (m := 0) (by simp) fun x hx => ?_).mono (by decide)
      simp only [List.mem_cons, List.not_mem_nil, or_false] at hx
      rcases hx with r | r <;> subst r <;> exact Sm.int _ (by omega) (by omega)
    · exact hrl.mono (by decide)
    · exact Sm.int _ hg9.1 hg9.2
end Zp

set_option maxHeartbeats 4000000
namespace Zp
open PySem Z
noncomputable def bnds : List D := match callN Pg 1 i__law_at_bounds [] [] with
  | some (.ok (.lst xs) _) => xs
  | _ => []
theorem e_bnds (k : Nat) : callN Pg (k + 1) i__law_at_bounds [] [] = some (.ok (.lst bnds) []) := by kernel_rfl
theorem bnds_dat : dats bnds = true := by decide +kernel
theorem bnds_len : bnds.length < 1000 := by decide +kernel
theorem put_last (A : Hh) (o o' : O) : (A ++ [o]).set A.length o' = A ++ [o'] := by
  rw [List.set_append_right _ _ (Nat.le_refl _), Nat.sub_self]
  rfl
theorem at_last (A : Hh) (o : O) : (A ++ [o])[A.length]? = some o := by
  rw [List.getElem?_append_right (Nat.le_refl _), Nat.sub_self]
  rfl
def stor : D := .tup [.tup [.tup [.int 0, .int 0]], .tup [], .tup []]
theorem pick3 (a b c : D) (i : Int) : ∃ d, L2.atI [a, b, c] (i % 3) = some d := by
  obtain ⟨d, h, _⟩ := pick_of [a, b, c] (i := i % 3) (by omega) (by show i % 3 < 3; omega)
  exact ⟨d, h⟩
theorem t_loop (n : Nat) (x : D) (hx : Sm 3 x) (s0 s2 s6 : Option D) : ∀ (xs : List D) (A : Hh) (p : Int) (s5 : Option D), PA A n p → (∀ y ∈ xs, ∃ i : Int, y = .int i) →
    ∃ s5' p', forL [] (gnm 5) (lb_law_1 ⟨callN Pg 10⟩) xs [s0, some stor, s2, some (.ref n), some x, s5, s6] A = some (.nx [s0, some stor, s2, some (.ref n), some x, s5', s6] (SP A n p')) ∧ PO p'
  | [], A, p, s5, hA, _ => ⟨s5, p, by rw [sp_self hA]; rfl, hA.2⟩
  | y :: xs, A, p, s5, hA, hi => by
    obtain ⟨i, rfl⟩ := hi y (List.mem_cons_self ..)
    obtain ⟨d, p1, e1, d1, d2⟩ := e_bent 5 n 3 p x A hA hx.1 hx.2 (by decide)
    obtain ⟨z, hz⟩ := pick3 stor .non (.tup [.non]) i
    have e2 := fun B => e_right 1 d z B d1
    obtain ⟨s5', p2, e3, P2⟩ := t_loop n x hx s0 s2 s6 xs (SP A n p1) p1 (some (.int i)) (sp_pa hA d2) fun w hw => hi w (List.mem_cons_of_mem _ hw)
    refine ⟨s5', p2, ?_, P2⟩
    have b : lb_law_1 ⟨callN Pg 10⟩ [s0, some stor, s2, some (.ref n), some x, some (.int i), s6] A = some (.nx [s0, some stor, s2, some (.ref n), some x, some (.int i), s6] (SP A n p1)) := by
      unfold lb_law_1
      have c1 : zcall ⟨callN Pg 10⟩ i__law_bent (zcons (zvar 3) (zcons (zvar 4) znil)) [s0, some stor, s2, some (.ref n), some x, some (.int i), s6] A = some (.ok d (SP A n p1)) := by
        simp only [zcall, zcons, znil, zvar, mb, ok, andThen_ok, List.getElem?_cons_zero, List.getElem?_cons_succ, e1]
      have md : zbin .mod (zvar 5) (zc (.int 3)) [s0, some stor, s2, some (.ref n), some x, some (.int i), s6] (SP A n p1) = some (.ok (.int (i % 3)) (SP A n p1)) := by
        simp [Z.sseq, Z.snil, Z.sret, Z.sexp, Z.sasg, Z.spar, Z.sif, Z.spass, Z.sbrk, Z.scnt, Z.sthen_nx, Z.sthen_rt, Z.sthen_bk, Z.sthen_ct, Z.of_ok, Z.andThen_ok, Z.mb, Z.ok, Z.mo, Z.zvar, Z.zc, Z.zbin, Z.zneg, Z.zcmp, Z.zchn, Z.copM, Z.zbl, Z.ztru, Z.zand, Z.zor, Z.znot, Z.zandv, Z.zorv, Z.zite, Z.znil, Z.zcons, Z.ztup, Z.zix, Z.zlen, Z.zisi, Z.isiB, Z.zcall, Z.endD, Z.gnm, Z.gtup, Z.gcons, Z.gnil, Z.gc_self, Z.zallq, Z.zanyq, Z.zsumq, Z.zminq, Z.zmaxq, Z.zlenq, Z.ztupq, Z.zrow, Z.zst, Z.zof, Z.zofL, Z.zlst, Z.lstM, Z.zcomp, Z.zrng, Z.rngM, Z.zcat, Z.zrep, Z.zzip, Z.zsort, Z.zsortR, Z.zsortset, Z.zslT, Z.zslL, Z.znone, Z.zsome, Z.znew, Z.zfz, Z.alloc, Z.wipeD, Z.sfor, Z.zm1, Z.zm0, Z.bmD, Z.zdvm, Z.zabs, Z.zmx2, Z.zmn2, Z.zint, Z.zcnt, Z.gsub, Z.setD, Z.ztt, Z.seq_tup, Z.seq_lst, Z.lst_lst, Z.ty_non, Z.ty_bl, Z.ty_int, Z.ty_str, Z.ty_tup, Z.ty_lst, Z.tru_non, Z.tru_bl, Z.tru_int, Z.tru_tup, Z.tru_lst, Z.len_tup, Z.len_lst, Z.ix_int, Z.at_0, Z.at_1, Z.at_2, Z.at_3, Z.at_4, Z.add_ii, Z.sub_ii, Z.mul_ii, Z.fdiv_ii, Z.mod_ii, Z.pow_ii, Z.add_tt, Z.lt_ii, Z.le_ii, Z.gt_ii, Z.ge_ii, Z.eq_ii, Z.ne_ii, Z.eq_dd, Z.ne_dd, Z.isN_d, Z.notN_d, Z.wt_tup, Z.D.deq]
      have c2 : zix (zfz (zlst (zcons (zvar 1) (zcons (zc .non) (zcons (ztup (zcons (zc .non) znil)) znil))))) (zbin .mod (zvar 5) (zc (.int 3))) [s0, some stor, s2, some (.ref n), some x, some (.int i), s6] (SP A n p1) = some (.ok z (SP A n p1)) :=
        zix_ok (xs := [stor, .non, .tup [.non]]) (zfz_ok (zlst_ok (zcons_ok rfl (zcons_ok rfl (zcons_ok (ztup_ok (zcons_ok rfl znil_ok) (by show 1 ≤ 1000; decide)) znil_ok))) (by show 3 ≤ 1000; decide))) md hz
      have c3 : zcall ⟨callN Pg 10⟩ i__law_right (zcons (zcall ⟨callN Pg 10⟩ i__law_bent (zcons (zvar 3) (zcons (zvar 4) znil))) (zcons (zix (zfz (zlst (zcons (zvar 1) (zcons (zc .non) (zcons (ztup (zcons (zc .non) znil)) znil))))) (zbin .mod (zvar 5) (zc (.int 3)))) znil)) [s0, some stor, s2, some (.ref n), some x, some (.int i), s6] A = some (.ok (.bl true) (SP A n p1)) := by
        have := zcons_ok2 c1 (zcons_ok2 c2 (znil_ok (A := SP A n p1)))
        simp only [zcall] at this ⊢
        simp only [mb, this, andThen_ok, e2]
      have c4 : znot (ztru (zcall ⟨callN Pg 10⟩ i__law_right (zcons (zcall ⟨callN Pg 10⟩ i__law_bent (zcons (zvar 3) (zcons (zvar 4) znil))) (zcons (zix (zfz (zlst (zcons (zvar 1) (zcons (zc .non) (zcons (ztup (zcons (zc .non) znil)) znil))))) (zbin .mod (zvar 5) (zc (.int 3)))) znil)))) [s0, some stor, s2, some (.ref n), some x, some (.int i), s6] A = some (.ok false (SP A n p1)) := by
        simp only [znot, ztru, mb, c3, andThen_ok, tru_bl, Option.map_some, ok, Bool.not_true]
      exact (sstep (sif_f c4 rfl)).trans rfl
    have g1 : gnm 5 (.int i) [s0, some stor, s2, some (.ref n), some x, s5, s6] A = some (.ok [s0, some stor, s2, some (.ref n), some x, some (.int i), s6] A) := rfl
    simp only [forL, wOk, List.all_nil, if_true, g1, b]
    rw [e3]
    rw [show SP (SP A n p1) n p2 = SP A n p2 from sp_sp A n p1 p2]
theorem l_body (ns : List Int) (j : Int) (hj : 0 ≤ j) (hj2 : j ≤ 12) (X : Hh) (s3 s4 s5 s6 : Option D) :
    ∃ s3' s4' s5' X', lb_law_2 ⟨callN Pg 10⟩ [some (.lst (ns.map .int)), some stor, some (.int j), s3, s4, s5, s6] X = some (.nx [some (.lst (ns.map .int)), some stor, some (.int j), s3', s4', s5', s6] X') := by
  obtain ⟨p, p1, p2, p3⟩ := e_pool 9 ns j X hj hj2
  obtain ⟨x, p', q1, q2, q3⟩ := e_draw 8 X.length p (X ++ [.lst [.int p]]) ⟨at_last _ _, p2, p3⟩
  rw [show SP (X ++ [O.lst [.int p]]) X.length p' = X ++ [.lst [.int p']] from put_last _ _ _] at q1
  have r := fun B => e_right 1 x .non B (inp_dat x q2.1)
  obtain ⟨s5', p'', t1, t2⟩ := t_loop X.length x q2 (some (.lst (ns.map .int))) (some (.int j)) s6 (rngI 0 10) (X ++ [.lst [.int p']]) p' s5 ⟨at_last _ _, q3⟩ fun y hy => by
    unfold rngI at hy
    obtain ⟨i, _, rfl⟩ := List.mem_map.mp hy
    exact ⟨_, rfl⟩
  refine ⟨some (.ref X.length), some x, s5', SP (X ++ [.lst [.int p']]) X.length p'', ?_⟩
  unfold lb_law_2
  have c1 : sasg (gnm 3) (zcall ⟨callN Pg 10⟩ i__law_pool (zcons (zvar 0) (zcons (zvar 2) znil))) [some (.lst (ns.map .int)), some stor, some (.int j), s3, s4, s5, s6] X = some (.nx [some (.lst (ns.map .int)), some stor, some (.int j), some (.ref X.length), s4, s5, s6] (X ++ [.lst [.int p]])) := by
    refine sasg_nm ?_
    simp only [zcall, zcons, znil, zvar, mb, ok, andThen_ok, List.getElem?_cons_zero, List.getElem?_cons_succ, p1]
  have c2 : sasg (gnm 4) (zcall ⟨callN Pg 10⟩ i__law_small (zcons (zvar 3) znil)) [some (.lst (ns.map .int)), some stor, some (.int j), some (.ref X.length), s4, s5, s6] (X ++ [.lst [.int p]]) = some (.nx [some (.lst (ns.map .int)), some stor, some (.int j), some (.ref X.length), some x, s5, s6] (X ++ [.lst [.int p']])) := by
    refine sasg_nm ?_
    simp only [zcall, zcons, znil, zvar, mb, ok, andThen_ok, List.getElem?_cons_zero, List.getElem?_cons_succ, q1]
  have c3 : zcall ⟨callN Pg 10⟩ i__law_right (zcons (zvar 4) (zcons (zc .non) znil)) [some (.lst (ns.map .int)), some stor, some (.int j), some (.ref X.length), some x, s5, s6] (X ++ [.lst [.int p']]) = some (.ok (.bl true) (X ++ [.lst [.int p']])) := by
    simp only [zcall, zcons, znil, zvar, zc, mb, ok, andThen_ok, List.getElem?_cons_zero, List.getElem?_cons_succ, r]
  have c4 : znot (ztru (zcall ⟨callN Pg 10⟩ i__law_right (zcons (zvar 4) (zcons (zc .non) znil)))) [some (.lst (ns.map .int)), some stor, some (.int j), some (.ref X.length), some x, s5, s6] (X ++ [.lst [.int p']]) = some (.ok false (X ++ [.lst [.int p']])) := by
    simp only [znot, ztru, mb, c3, andThen_ok, tru_bl, Option.map_some, ok, Bool.not_true]
  refine (sstep c1).trans ((sstep c2).trans ((sstep (sif_f c4 rfl)).trans ?_))
  · have r10 : ∀ σ B, zst (zrng (zc (.int 0)) (zc (.int 10))) σ B = some (.ok (rngI 0 10, []) B) := fun σ B => rfl
    simp only [sseq, snil, sfor, r10, of_ok, t1, sthen_nx]
theorem l_loop (ns : List Int) : ∀ (n : Nat) (a : Int) (X : Hh) (s2 s3 s4 s5 s6 : Option D), 0 ≤ a → a + n ≤ 12 →
    ∃ X' s2' s3' s4' s5', forL [] (gnm 2) (lb_law_2 ⟨callN Pg 10⟩) ((List.range n).map fun (i : Nat) => D.int (a + i)) [some (.lst (ns.map .int)), some stor, s2, s3, s4, s5, s6] X
      = some (.nx [some (.lst (ns.map .int)), some stor, s2', s3', s4', s5', s6] X')
  | 0, a, X, s2, s3, s4, s5, s6, _, _ => ⟨X, s2, s3, s4, s5, rfl⟩
  | n + 1, a, X, s2, s3, s4, s5, s6, ha, hn => by
    have e : (List.range (n + 1)).map (fun (i : Nat) => D.int (a + i)) = .int a :: (List.range n).map fun (i : Nat) => D.int ((a + 1) + i) := by
      rw [List.range_succ_eq_map, List.map_cons, List.map_map]
      congr 1
      · simp
      · refine List.map_congr_left fun i _ => ?_
        simp only [Function.comp, D.int.injEq]
        omega
    obtain ⟨t3, t4, t5, X1, b1⟩ := l_body ns a ha (by omega) X s3 s4 s5 s6
    obtain ⟨X', u2, u3, u4, u5, q1⟩ := l_loop ns n (a + 1) X1 (some (.int a)) t3 t4 t5 s6 (by omega) (by omega)
    refine ⟨X', u2, u3, u4, u5, ?_⟩
    have g1 : gnm 2 (.int a) [some (.lst (ns.map .int)), some stor, s2, s3, s4, s5, s6] X = some (.ok [some (.lst (ns.map .int)), some stor, some (.int a), s3, s4, s5, s6] X) := rfl
    rw [e]
    simp only [forL, wOk, List.all_nil, if_true, g1, b1]
    exact q1
theorem law_true (ns : List Int) (hn : ns.length ≤ 63) : ∃ A', callN Pg 11 i_law [.lst (ns.map .int)] [] = some (.ok (.bl true) A') := by
  obtain ⟨N, hN⟩ : ∃ N, N = max 1 (min ns.length 6) := ⟨_, rfl⟩
  obtain ⟨X, s2, s3, s4, s5, q1⟩ := l_loop ns N 0 [] none none none none none (by omega) (by omega)
  have hr : rngI 0 (max 1 (min (ns.length : Int) 6)) = (List.range N).map fun (i : Nat) => D.int (0 + i) := by
    unfold rngI
    have : (max 1 (min (ns.length : Int) 6) - 0).toNat = N := by omega
    rw [this]
  have a1 : (-1152921504606846976 : Int) ≤ max 1 (min (ns.length : Int) 6) := by omega
  have a2 : max 1 (min (ns.length : Int) 6) ≤ 1152921504606846976 := by omega
  refine ⟨gc [] X (.bl true), ?_⟩
  rw [c_law, mb_law]
  have s1 : sasg (gnm 1) (ztup (zcons (ztup (zcons (ztup (zcons (zc (.int 0)) (zcons (zc (.int 0)) znil))) znil)) (zcons (ztup znil) (zcons (ztup znil) znil)))) [some (.lst (ns.map .int)), none, none, none, none, none, none] [] = some (.nx [some (.lst (ns.map .int)), some stor, none, none, none, none, none] []) := rfl
  obtain ⟨bs, cc, hb⟩ := all_c (g := gnm 6) (e := ce_law_0 ⟨callN Pg 10⟩) (σ := [some (.lst (ns.map .int)), some stor, none, none, none, none, none]) (A := []) (xs := bnds) (fun _ => true) (fun y hy => by
    have e := e_right 1 y stor [] (dats_mem bnds_dat y hy)
    refine ⟨_, rfl, ?_⟩
    unfold ce_law_0
    simp only [zcall, zcons, znil, zvar, mb, ok, andThen_ok, gnm, List.set_cons_zero, List.set_cons_succ, List.getElem?_cons_zero, List.getElem?_cons_succ, e]) bnds_len
  have hb' : bs.all id = true := by
    rw [hb]
    exact List.all_eq_true.mpr fun _ _ => rfl
  have e0 := e_bnds 9
  have c1 : zallq (zcomp [6] (gnm 6) (zof (zcall ⟨callN Pg 10⟩ i__law_at_bounds znil)) ztt (ce_law_0 ⟨callN Pg 10⟩)) [some (.lst (ns.map .int)), some stor, none, none, none, none, none] [] = some (.ok (.bl true) []) := by
    simp only [zallq, zcomp, zof, zcall, znil, mb, ok, andThen_ok, e0, seq_lst, Option.map_some, wipeD, List.set_cons_zero, List.set_cons_succ, cc, blsOf_bls, mo, hb']
  have c2 : znot (ztru (zallq (zcomp [6] (gnm 6) (zof (zcall ⟨callN Pg 10⟩ i__law_at_bounds znil)) ztt (ce_law_0 ⟨callN Pg 10⟩)))) [some (.lst (ns.map .int)), some stor, none, none, none, none, none] [] = some (.ok false []) := by
    simp only [znot, ztru, mb, c1, andThen_ok, tru_bl, Option.map_some, ok, Bool.not_true]
  rw [← hr] at q1
  rw [sstep s1, sstep (sif_f c2 rfl)]
  simp [Z.sseq, Z.snil, Z.sret, Z.sexp, Z.sasg, Z.spar, Z.sif, Z.spass, Z.sbrk, Z.scnt, Z.sthen_nx, Z.sthen_rt, Z.sthen_bk, Z.sthen_ct, Z.of_ok, Z.andThen_ok, Z.mb, Z.ok, Z.mo, Z.zvar, Z.zc, Z.zbin, Z.zneg, Z.zcmp, Z.zchn, Z.copM, Z.zbl, Z.ztru, Z.zand, Z.zor, Z.znot, Z.zandv, Z.zorv, Z.zite, Z.znil, Z.zcons, Z.ztup, Z.zix, Z.zlen, Z.zisi, Z.isiB, Z.zcall, Z.endD, Z.gnm, Z.gtup, Z.gcons, Z.gnil, Z.gc_self, Z.zallq, Z.zanyq, Z.zsumq, Z.zminq, Z.zmaxq, Z.zlenq, Z.ztupq, Z.zrow, Z.zst, Z.zof, Z.zofL, Z.zlst, Z.lstM, Z.zcomp, Z.zrng, Z.rngM, Z.zcat, Z.zrep, Z.zzip, Z.zsort, Z.zsortR, Z.zsortset, Z.zslT, Z.zslL, Z.znone, Z.zsome, Z.znew, Z.zfz, Z.alloc, Z.wipeD, Z.sfor, Z.zm1, Z.zm0, Z.bmD, Z.zdvm, Z.zabs, Z.zmx2, Z.zmn2, Z.zint, Z.zcnt, Z.gsub, Z.setD, Z.ztt, Z.seq_tup, Z.seq_lst, Z.lst_lst, Z.ty_non, Z.ty_bl, Z.ty_int, Z.ty_str, Z.ty_tup, Z.ty_lst, Z.tru_non, Z.tru_bl, Z.tru_int, Z.tru_tup, Z.tru_lst, Z.len_tup, Z.len_lst, Z.ix_int, Z.at_0, Z.at_1, Z.at_2, Z.at_3, Z.at_4, Z.add_ii, Z.sub_ii, Z.mul_ii, Z.fdiv_ii, Z.mod_ii, Z.pow_ii, Z.add_tt, Z.lt_ii, Z.le_ii, Z.gt_ii, Z.ge_ii, Z.eq_ii, Z.ne_ii, Z.eq_dd, Z.ne_dd, Z.isN_d, Z.notN_d, Z.wt_tup, Z.D.deq, a1, a2, q1, -List.map_map]
end Zp

theorem PySem.Challenge.cw_doffyard_k34_what_small_yards_are_holds : PySem.Challenge.rw_doffyard_k34_what_small_yards_are.Holds :=
  Zp.holds_of Zp.law_true
