import PyProof.Rows.All
import Wide.All
import OpenK.AllK
import Wide.FinOn
import PySem.Syntax
import HandS.ForMost
import HandS.Wide
import HandS.Flow
import HandS.IsInst
import HandS.Style
import HandS.Iter
import HandS.Deep
import HandS.More
import HandS.Zip
import HandS.Comp
import HandS.TryOnly
import HandS.Small
import HandS.Keys
import HandS.StrMore
import HandS.ListItems
import HandS.Defaults
import HandS.HeadHook3
import HandS.Head0
import HandS.Head1
import HandS.Head2
import HandS.HeadEnd
import HandS.Ends
import HandS.Words
import PySem.Challenge.RW_onehat_k41_whole_shares
set_option Elab.async false
set_option linter.all false
/-! EvCore: values, a logical heap, the small terms that a def's text is read into, and what they come to (by continuations: the answer's type is open). -/
namespace Ev
/-! ### values -/
inductive EV where
  | non | bl (b : Bool) | int (i : Int) | str (s : List Nat) | tup (xs : List EV) | ref (i : Nat) | fn (i : Nat) | ty (n : Nat) | opq | kd (ps : List (EV × EV)) | vl (xs : List EV)
/-- an object: a list, a dict (its pairs in turn); a dict of the module's own, never written, is a value (kd) -/
inductive LO where
  | lst (xs : List EV) | dct (ps : List (EV × EV)) | fdct (ps : List (EV × EV)) | dead
inductive HT where
  | nil | node (o : LO) (l r : HT)
structure LH where
  n : Nat
  t : HT
  c : Nat
section
variable {R : Type}
def frN (n : Nat) (k : Nat → R) : R := match n with
  | 0 => k 0
  | m + 1 => k (Nat.succ m)
theorem frN_eq (n : Nat) (k : Nat → R) : frN n k = k n := by cases n <;> rfl
def frI (i : Int) (k : Int → R) : R := match i with
  | .ofNat n => frN n fun n => k (.ofNat n)
  | .negSucc n => frN n fun n => k (.negSucc n)
theorem frI_eq (i : Int) (k : Int → R) : frI i k = k i := by cases i <;> simp [frI, frN_eq]
def HT.get : HT → Nat → Option LO
  | .nil, _ => none
  | .node o l r, i => match i with
    | 0 => some o
    | j + 1 => bif Nat.beq (Nat.mod j 2) 0 then l.get (Nat.div j 2) else r.get (Nat.div j 2)
def HT.put (v : LO) : HT → Nat → HT
  | .nil, i => match i with
    | 0 => .node v .nil .nil
    | _ + 1 => .nil
  | .node o l r, i => match i with
    | 0 => .node v l r
    | j + 1 => bif Nat.beq (Nat.mod j 2) 0 then .node o (l.put v (Nat.div j 2)) r else .node o l (r.put v (Nat.div j 2))
def HT.putK (v : LO) : HT → Nat → (HT → R) → R
  | .nil, i, k => match i with
    | 0 => k (.node v .nil .nil)
    | _ + 1 => k .nil
  | .node o l r, i, k => match i with
    | 0 => k (.node v l r)
    | j + 1 => bif Nat.beq (Nat.mod j 2) 0 then l.putK v (Nat.div j 2) fun l => k (.node o l r) else r.putK v (Nat.div j 2) fun r => k (.node o l r)
theorem HT.putK_eq (v : LO) (t : HT) : ∀ (i : Nat) (k : HT → R), t.putK v i k = k (t.put v i) := by
  induction t with
  | nil => intro i k; cases i <;> rfl
  | node o l r hl hr =>
    intro i k
    cases i with
    | zero => rfl
    | succ j =>
      simp only [HT.putK, HT.put]
      cases Nat.beq (Nat.mod j 2) 0
      · exact hr _ _
      · exact hl _ _
/-- how deep a tree is filled: index i stands in t -/
def HT.has : HT → Nat → Bool
  | .nil, _ => false
  | .node _ l r, i => match i with
    | 0 => true
    | j + 1 => bif Nat.beq (Nat.mod j 2) 0 then l.has (Nat.div j 2) else r.has (Nat.div j 2)
theorem HT.get_put_same (v : LO) (t : HT) : ∀ i, (t.get i).isSome = true → (t.put v i).get i = some v := by
  induction t with
  | nil => intro i h; cases h
  | node o l r hl hr =>
    intro i h
    cases i with
    | zero => rfl
    | succ j =>
      simp only [HT.put, HT.get] at h ⊢
      cases e : Nat.beq (Nat.mod j 2) 0 <;> rw [e] at h
      · simp only [cond_false, HT.get, e] at h ⊢; exact hr _ h
      · simp only [cond_true, HT.get, e] at h ⊢; exact hl _ h
theorem half_ne {i j : Nat} (h : i ≠ j) (e : Nat.mod i 2 = Nat.mod j 2) : Nat.div i 2 ≠ Nat.div j 2 := by
  intro z
  have h1 : 2 * (i / 2) + i % 2 = i := Nat.div_add_mod i 2
  have h2 : 2 * (j / 2) + j % 2 = j := Nat.div_add_mod j 2
  have e' : i % 2 = j % 2 := e
  have z' : i / 2 = j / 2 := z
  omega
theorem HT.get_put_ne (v : LO) (t : HT) : ∀ i j, i ≠ j → (t.get i).isSome = true → (t.put v i).get j = t.get j := by
  induction t with
  | nil => intro i j _ h; cases h
  | node o l r hl hr =>
    intro i j hij h
    cases i with
    | zero =>
      cases j with
      | zero => exact absurd rfl hij
      | succ j => rfl
    | succ i =>
      cases j with
      | zero => simp only [HT.put]; cases Nat.beq (Nat.mod i 2) 0 <;> rfl
      | succ j =>
        have hne : i ≠ j := fun z => hij (by rw [z])
        simp only [HT.put, HT.get] at h ⊢
        cases e : Nat.beq (Nat.mod i 2) 0 <;> rw [e] at h <;> cases e2 : Nat.beq (Nat.mod j 2) 0 <;> simp only [cond_false, cond_true, HT.get, e2] at h ⊢
        · have e3 : Nat.mod i 2 = Nat.mod j 2 := by
            have a1 : i % 2 ≠ 0 := fun z => by rw [show Nat.mod i 2 = 0 from z] at e; cases e
            have a2 : j % 2 ≠ 0 := fun z => by rw [show Nat.mod j 2 = 0 from z] at e2; cases e2
            show i % 2 = j % 2
            omega
          exact hr _ _ (half_ne hne e3) h
        · have e3 : Nat.mod i 2 = Nat.mod j 2 := (Nat.eq_of_beq_eq_true e).trans (Nat.eq_of_beq_eq_true e2).symm
          exact hl _ _ (half_ne hne e3) h
end
end Ev

set_option Elab.async false
set_option linter.all false
/-! EvRun: the small terms and what they come to. Each function looks at one thing alone: the kernel runs it. -/
namespace Ev
inductive BO where | add | sub | mul | fdiv | mod | pow
inductive CO where | eq | ne | lt | le | gt | ge | inn | nin | isN | notN
inductive BF where | abs | len | isinst | all | any | list | tuple | int | max | min | dict | vlist
inductive BM where | append | extend | index | pop
mutual
inductive ME where
  | k (v : EV) | v (i : Nat) | g (i : Nat) | t (n : Nat)
  | bin (op : BO) (a b : ME) | neg (a : ME) | not (a : ME) | and (a b : ME) | or (a b : ME)
  | cmp (op : CO) (a b : ME) | chain (o1 o2 : CO) (a b c : ME) | ite (c a b : ME)
  | tup (es : Ms) | lst (es : Ms)
  | idx (a i : ME)
  | call (f : Nat) (as : Ms) | callk (f : Nat) (as ks : Ms) (ix : List Nat)
  | bi (f : BF) (as : Ms) | mt (m : BM) (o : ME) (as : Ms)
  | lc (it : MI) (tg : MT) (own : List Nat) (c : Mo) (e : ME)
  | disp (ps : Ms) | itl (e : ME) | vll (e : ME) | lk (v : Nat) (e : ME)
  | vls (es : Ms) | vlc (it : MI) (tg : MT) (own : List Nat) (c : Mo) (e : ME)
  | nope
inductive Ms where | nil | cons (e : ME) (r : Ms)
inductive Mo where | none | some (e : ME)
inductive MI where | ev (e : ME) | rng (as : Ms) | zip (a b : ME) | enum (a : ME)
inductive MT where | nm (i : Nat) | tup (ts : MTs) | sub (o i : ME) | nope
inductive MTs where | nil | cons (t : MT) (r : MTs)
end
mutual
inductive MS where
  | asg (t : MT) (e : ME) | ex (e : ME) | iff (c : ME) (a b : MSs) | whl (c : ME) (b : MSs) | for (t : MT) (it : MI) (b : MSs)
  | ret (e : ME) | retN | brk | cont | pass | lk (v : Nat) (s : MS) | frz (v : Nat) (s : MS) | nope
inductive MSs where | nil | cons (s : MS) (r : MSs)
end
abbrev SL := List (Option EV)
/-- what a run comes to: an end with what is asked there, a draw below n, or no road -/
inductive T where
  | leaf (p : Prop) | ok | fail | draw (n : Nat) (k : Nat → T)
def T.holds : T → Prop
  | .leaf p => p
  | .ok => True
  | .fail => False
  | .draw n k => ∀ r, r < n → (k r).holds
def allB : Nat → (Nat → Bool) → Bool
  | 0, _ => true
  | n + 1, k => match allB n k with
    | true => k n
    | false => false
/-- the same, reckoned -/
def T.chk : T → Bool
  | .leaf _ => false
  | .ok => true
  | .fail => false
  | .draw n k => allB n fun r => (k r).chk
theorem allB_ok : ∀ {n : Nat} {k : Nat → Bool}, allB n k = true → ∀ r, r < n → k r = true
  | 0, _, _, r, h => absurd h (Nat.not_lt_zero r)
  | n + 1, k, e, r, h => by
    unfold allB at e
    cases q : allB n k with
    | false => rw [q] at e; cases e
    | true =>
      rw [q] at e
      rcases Nat.lt_succ_iff_lt_or_eq.mp h with h | h
      · exact allB_ok q r h
      · rw [h]; exact e
theorem T.chk_ok : ∀ {t : T}, t.chk = true → t.holds
  | .leaf _, h => by cases h
  | .ok, _ => True.intro
  | .fail, h => by cases h
  | .draw n k, h => fun r hr => T.chk_ok (allB_ok (k := fun r => (k r).chk) h r hr)
abbrev KV := EV → LH → T
abbrev KS := SL → LH → T
/-! ### small things by values -/
def ifB (c : Bool) (a b : Unit → T) : T := match c with
  | true => a ()
  | false => b ()
def beqNs : List Nat → List Nat → Bool
  | [], s => match s with
    | [] => true
    | _ :: _ => false
  | a :: r, s => match s with
    | [] => false
    | b :: s => match Nat.beq a b with
      | true => beqNs r s
      | false => false
def eqI (i j : Int) : Bool := match i with
  | .ofNat a => match j with
    | .ofNat b => Nat.beq a b
    | .negSucc _ => false
  | .negSucc a => match j with
    | .ofNat _ => false
    | .negSucc b => Nat.beq a b
def ltI (i j : Int) : Bool := match i with
  | .ofNat a => match j with
    | .ofNat b => Nat.blt a b
    | .negSucc _ => false
  | .negSucc a => match j with
    | .ofNat _ => true
    | .negSucc b => Nat.blt b a
def LH.get (L : LH) (a : Nat) : Option LO := L.t.get a
def newK2 (o : Option LO) (n c : Nat) (t : HT) (k : Nat → LH → T) : T := match o with
  | some _ => frN (Nat.succ n) fun m => k n ⟨m, t, c⟩
  | none => T.fail
def LH.newK (L : LH) (o : LO) (k : Nat → LH → T) : T := L.t.putK o L.n fun t => newK2 (t.get L.n) L.n L.c t k
def LH.putK (L : LH) (a : Nat) (o : LO) (k : LH → T) : T := L.t.putK o a fun t => k ⟨L.n, t, L.c⟩
/-- the list at a -/
def lstK (o : Option LO) (k : List EV → T) : T := match o with
  | some o => match o with
    | .lst xs => k xs
    | .dct _ => T.fail
    | .fdct _ => T.fail
    | .dead => T.fail
  | none => T.fail
def rowK (v : EV) (L : LH) (k : List EV → T) : T := match v with
  | .vl xs => k xs
  | .ref a => lstK (L.get a) k
  | _ => T.fail
def refK (v : EV) (k : Nat → T) : T := match v with
  | .ref a => k a
  | _ => T.fail
def intK (v : EV) (k : Int → T) : T := match v with
  | .int i => k i
  | _ => T.fail
def nilB {α : Type} (xs : List α) (k : Bool → T) : T := match xs with
  | [] => k false
  | _ :: _ => k true
def nzI (i : Int) : Bool := match i with
  | .ofNat n => !Nat.beq n 0
  | .negSucc _ => true
def lineB (n : Nat) (k : Unit → T) : T := match Nat.ble n 16777216 with
  | true => k ()
  | false => T.fail
def belowB (n : Nat) (k : Unit → T) : T := match Nat.blt n 16777216 with
  | true => k ()
  | false => T.fail
def truO (o : Option LO) (k : Bool → T) : T := match o with
  | some o => match o with
    | .lst xs => nilB xs k
    | .dct ps => nilB ps k
    | .fdct _ => T.fail
    | .dead => T.fail
  | none => T.fail
/-- truth -/
def tru (L : LH) (v : EV) (k : Bool → T) : T := match v with
  | .non => k false
  | .bl b => k b
  | .int i => k (nzI i)
  | .str s => lineB s.length fun _ => nilB s k
  | .tup xs => nilB xs k
  | .vl xs => nilB xs k
  | .ref a => truO (L.get a) k
  | _ => T.fail
/-! data, for == -/
inductive Dt where
  | non | bl (b : Bool) | int (i : Int) | str (s : List Nat) | lst (xs : List Dt) | tup (xs : List Dt)
def mapO (f : EV → Option Dt) : List EV → Option (List Dt)
  | [] => some []
  | x :: r => match f x with
    | some y => match mapO f r with
      | some ys => some (y :: ys)
      | none => none
    | none => none
def dtT (o : Option (List Dt)) : Option Dt := match o with
  | some ds => some (.tup ds)
  | none => none
def dtL (o : Option (List Dt)) : Option Dt := match o with
  | some ds => some (.lst ds)
  | none => none
def okS : List Nat → Bool
  | [] => true
  | c :: r => match Nat.blt c 1114112 with
    | true => okS r
    | false => false
def dtS (s : List Nat) : Option Dt := match okS s with
  | true => some (.str s)
  | false => none
def lstO (o : Option LO) : Option (List EV) := match o with
  | some o => match o with
    | .lst xs => some xs
    | .dct _ => none
    | .fdct _ => none
    | .dead => none
  | none => none
def obD (f : List EV → Option (List Dt)) (o : Option (List EV)) : Option Dt := match o with
  | some xs => dtL (f xs)
  | none => none
def toD (L : LH) : Nat → EV → Option Dt
  | 0, _ => none
  | d + 1, v => match v with
    | .non => some .non
    | .bl b => some (.bl b)
    | .int i => some (.int i)
    | .str s => dtS s
    | .tup xs => dtT (mapO (toD L d) xs)
    | .vl xs => dtL (mapO (toD L d) xs)
    | .ref a => obD (mapO (toD L d)) (lstO (L.get a))
    | .fn _ => none
    | .ty _ => none
    | .opq => none
    | .kd _ => none
def b2I (b : Bool) : Int := match b with
  | true => .ofNat 1
  | false => .ofNat 0
def eqBl (a b : Bool) : Bool := match a with
  | true => b
  | false => !b
mutual
def eqD : Dt → Dt → Bool
  | .non, e => match e with
    | .non => true
    | _ => false
  | .bl a, e => match e with
    | .bl b => eqBl a b
    | .int j => eqI (b2I a) j
    | _ => false
  | .int i, e => match e with
    | .bl b => eqI i (b2I b)
    | .int j => eqI i j
    | _ => false
  | .str x, e => match e with
    | .str y => beqNs x y
    | _ => false
  | .lst xs, e => match e with
    | .lst ys => eqDs xs ys
    | _ => false
  | .tup xs, e => match e with
    | .tup ys => eqDs xs ys
    | _ => false
def eqDs : List Dt → List Dt → Bool
  | [], ys => match ys with
    | [] => true
    | _ :: _ => false
  | x :: xs, ys => match ys with
    | [] => false
    | y :: ys => match eqD x y with
      | true => eqDs xs ys
      | false => false
end
def bothD (a b : Option Dt) (k : Bool → T) : T := match a with
  | some d => match b with
    | some e => match eqD d e with
      | true => k true
      | false => k false
    | none => T.fail
  | none => T.fail
def rigB (b : Bool) (k : Bool → T) : T := match b with
  | true => k true
  | false => k false
def eqG (L : LH) (x y : EV) (k : Bool → T) : T := bothD (toD L 60 x) (toD L 60 y) k
/-- == -/
def eqE (L : LH) (x y : EV) (k : Bool → T) : T := match x with
  | .int i => match y with
    | .int j => rigB (eqI i j) k
    | _ => eqG L x y k
  | .str a => match y with
    | .str b => rigB (beqNs a b) k
    | _ => eqG L x y k
  | _ => eqG L x y k
def bigE : Nat := 8000
def big : Nat := 2 ^ bigE
def okB (b : Nat) (i : Int) (k : Unit → T) : T := match i with
  | .ofNat n => match Nat.blt n b with
    | true => k ()
    | false => T.fail
  | .negSucc n => match Nat.blt (Nat.succ n) b with
    | true => k ()
    | false => T.fail
def okI (i : Int) (k : Unit → T) : T := okB big i k
/-- a row, built up -/
def frcK {α : Type} {R : Type} : List α → (List α → R) → R
  | [], k => k []
  | x :: r, k => frcK r fun r => k (x :: r)
theorem frcK_eq {α : Type} {R : Type} : ∀ (xs : List α) (k : List α → R), frcK xs k = k xs
  | [], _ => rfl
  | x :: r, k => by simp only [frcK, frcK_eq r]
def appK {R : Type} : List EV → List EV → (List EV → R) → R
  | [], ys, k => k ys
  | x :: r, ys, k => appK r ys fun r => k (x :: r)
theorem appK_eq {R : Type} : ∀ (xs ys : List EV) (k : List EV → R), appK xs ys k = k (xs ++ ys)
  | [], _, _ => rfl
  | x :: r, ys, k => by simp only [appK, appK_eq r, List.cons_append]
def vlK (v : EV) (k : List EV → T) : T := match v with
  | .vl xs => k xs
  | _ => T.fail
def addE (x y : EV) (L : LH) (k : KV) : T := match x with
  | .vl xs => vlK y fun ys => lineB (Nat.add xs.length ys.length) fun _ => appK xs ys fun zs => k (.vl zs) L
  | .int i => intK y fun j => frI (Int.add i j) fun z => k (.int z) L
  | .ref a => refK y fun b => lstK (L.get a) fun xs => lstK (L.get b) fun ys => lineB (Nat.add xs.length ys.length) fun _ => LH.newK L (.lst (xs ++ ys)) fun c L => k (.ref c) L
  | _ => T.fail
def mulV (xs : List EV) (j : Int) (L : LH) (k : KV) : T := match j with
  | .ofNat n => lineB (Nat.mul xs.length n) fun _ => lineB n fun _ => frcK (List.replicate n xs).flatten fun zs => k (.vl zs) L
  | .negSucc _ => T.fail
def mulR (a : Nat) (j : Int) (L : LH) (k : KV) : T := match j with
  | .ofNat n => lstK (L.get a) fun xs => lineB (Nat.mul xs.length n) fun _ => lineB n fun _ => frcK (List.replicate n xs).flatten fun zs => LH.newK L (.lst zs) fun c L => k (.ref c) L
  | .negSucc _ => T.fail
def mulE (x y : EV) (L : LH) (k : KV) : T := match x with
  | .int i => intK y fun j => okI i fun _ => okI j fun _ => frI (Int.mul i j) fun z => k (.int z) L
  | .ref a => intK y fun j => mulR a j L k
  | .vl xs => intK y fun j => mulV xs j L k
  | _ => T.fail
def posI (j : Int) (k : Unit → T) : T := match j with
  | .ofNat n => match Nat.beq n 0 with
    | true => T.fail
    | false => k ()
  | .negSucc _ => T.fail
def powI (i j : Int) (L : LH) (k : KV) : T := match j with
  | .ofNat n => match Nat.ble n 1000000 with
    | true => match Nat.blt i.natAbs 18446744073709551616 with
      | true => frI (Int.pow i n) fun z => k (.int z) L
      | false => T.fail
    | false => T.fail
  | .negSucc _ => T.fail
def binE (op : BO) (L : LH) (x y : EV) (k : KV) : T := match op with
  | .add => addE x y L k
  | .sub => intK x fun i => intK y fun j => frI (Int.sub i j) fun z => k (.int z) L
  | .mul => mulE x y L k
  | .fdiv => intK x fun i => intK y fun j => posI j fun _ => okI j fun _ => frI (Int.ediv i j) fun z => k (.int z) L
  | .mod => intK x fun i => intK y fun j => posI j fun _ => frI (Int.emod i j) fun z => k (.int z) L
  | .pow => intK x fun i => intK y fun j => powI i j L k
def anyD (d : Dt) : List Dt → Bool
  | [] => false
  | e :: r => match eqD e d with
    | true => true
    | false => anyD d r
def memD (a : Option Dt) (b : Option (List Dt)) (k : Bool → T) : T := match a with
  | some d => match b with
    | some ds => rigB (anyD d ds) k
    | none => T.fail
  | none => T.fail
def atE (xs : List EV) (i : Int) (k : EV → T) : T := match i with
  | .ofNat n => match xs[n]? with
    | some v => k v
    | none => T.fail
  | .negSucc n => match Nat.blt n xs.length with
    | true => match xs[Nat.sub xs.length (Nat.succ n)]? with
      | some v => k v
      | none => T.fail
    | false => T.fail
/-- a dict's value by a key (texts and ints): none: no such key; some none: it is not there -/
def keyEq (a b : EV) : Option Bool := match a with
  | .str x => match b with
    | .str y => some (beqNs x y)
    | .int _ => some false
    | _ => none
  | .int i => match b with
    | .int j => some (eqI i j)
    | .str _ => some false
    | _ => none
  | _ => none
def isKey (a : EV) : Bool := match a with
  | .str _ => true
  | .int _ => true
  | _ => false
def dGet (x : EV) : List (EV × EV) → Option (Option EV)
  | [] => match isKey x with
    | true => some none
    | false => none
  | p :: r => match keyEq p.1 x with
    | some b => match b with
      | true => some (some p.2)
      | false => dGet x r
    | none => none
def dRep (x y : EV) : List (EV × EV) → List (EV × EV)
  | [] => []
  | p :: r => match keyEq p.1 x with
    | some b => match b with
      | true => (p.1, y) :: dRep x y r
      | false => p :: dRep x y r
    | none => p :: dRep x y r
def gotK (o : Option (Option EV)) (k : EV → T) : T := match o with
  | some o => match o with
    | some v => k v
    | none => T.fail
  | none => T.fail
def hasK (o : Option (Option EV)) (k : Bool → T) : T := match o with
  | some o => match o with
    | some _ => k true
    | none => k false
  | none => T.fail
def inO (o : Option LO) (x : EV) (L : LH) (k : Bool → T) : T := match o with
  | some o => match o with
    | .lst ys => memD (toD L 60 x) (mapO (toD L 60) ys) k
    | .dct ps => hasK (dGet x ps) k
    | .fdct _ => T.fail
    | .dead => T.fail
  | none => T.fail
def strK (x : EV) (k : Unit → T) : T := match x with
  | .str _ => k ()
  | _ => T.fail
def inE (x y : EV) (L : LH) (k : Bool → T) : T := match y with
  | .ref a => inO (L.get a) x L k
  | .vl ys => memD (toD L 60 x) (mapO (toD L 60) ys) k
  | .kd ps => strK x fun _ => hasK (dGet x ps) k
  | _ => T.fail
def isNonK (x : EV) (k : Bool → T) : T := match x with
  | .non => k true
  | .opq => T.fail
  | _ => k false
def nonK (y : EV) (k : Unit → T) : T := match y with
  | .non => k ()
  | _ => T.fail
def two (x y : EV) (k : Int → Int → T) : T := intK x fun i => intK y fun j => k i j
def cmpE (op : CO) (L : LH) (x y : EV) (k : Bool → T) : T := match op with
  | .eq => eqE L x y k
  | .ne => eqE L x y fun b => ifB b (fun _ => k false) fun _ => k true
  | .isN => nonK y fun _ => isNonK x k
  | .notN => nonK y fun _ => isNonK x fun b => ifB b (fun _ => k false) fun _ => k true
  | .lt => two x y fun i j => rigB (ltI i j) k
  | .le => two x y fun i j => rigB (!ltI j i) k
  | .gt => two x y fun i j => rigB (ltI j i) k
  | .ge => two x y fun i j => rigB (!ltI i j) k
  | .inn => inE x y L k
  | .nin => inE x y L fun b => ifB b (fun _ => k false) fun _ => k true
def idxO (o : Option LO) (i : EV) (k : EV → T) : T := match o with
  | some o => match o with
    | .lst xs => intK i fun n => atE xs n k
    | .dct ps => gotK (dGet i ps) k
    | .fdct _ => T.fail
    | .dead => T.fail
  | none => T.fail
def idxE (L : LH) (x i : EV) (k : EV → T) : T := match x with
  | .tup xs => intK i fun n => atE xs n k
  | .vl xs => intK i fun n => atE xs n k
  | .ref a => idxO (L.get a) i k
  | .kd ps => gotK (dGet i ps) k
  | _ => T.fail
/-- kinds: 0 int, 1 bool, 2 str, 3 list, 4 tuple, 5 dict, 6 None's -/
def kindO (o : Option LO) : Option Nat := match o with
  | some o => match o with
    | .lst _ => some 3
    | .dct _ => some 5
    | .fdct _ => none
    | .dead => none
  | none => none
def kindE (L : LH) (x : EV) : Option Nat := match x with
  | .non => some 6
  | .bl _ => some 1
  | .int _ => some 0
  | .str _ => some 2
  | .tup _ => some 4
  | .ref a => kindO (L.get a)
  | .kd _ => some 5
  | .vl _ => some 3
  | _ => none
def isaK (k t : Nat) : Bool := match Nat.beq k t with
  | true => true
  | false => match Nat.beq k 1 with
    | true => Nat.beq t 0
    | false => false
def tyO (v : EV) : Option Nat := match v with
  | .ty n => some n
  | _ => none
def isaKs (k : Nat) : List EV → Option Bool
  | [] => some false
  | v :: r => match tyO v with
    | some t => match isaKs k r with
      | some b => match isaK k t with
        | true => some true
        | false => some b
      | none => none
    | none => none
def rigO (o : Option Bool) (L : LH) (k : KV) : T := match o with
  | some b => match b with
    | true => k (.bl true) L
    | false => k (.bl false) L
  | none => T.fail
def isiK (c : Nat) (t : EV) (L : LH) (k : KV) : T := match t with
  | .ty n => rigO (some (isaK c n)) L k
  | .tup ts => rigO (isaKs c ts) L k
  | _ => T.fail
def blO (v : EV) : Option Bool := match v with
  | .bl b => some b
  | _ => none
/-- all of bools; any of bools -/
def allBl : List EV → Option Bool
  | [] => some true
  | v :: r => match blO v with
    | some b => match b with
      | true => allBl r
      | false => match allBl r with
        | some _ => some false
        | none => none
    | none => none
def anyBl : List EV → Option Bool
  | [] => some false
  | v :: r => match blO v with
    | some b => match b with
      | false => anyBl r
      | true => match anyBl r with
        | some _ => some true
        | none => none
    | none => none
def lenO (o : Option LO) (k : Nat → T) : T := match o with
  | some o => match o with
    | .lst xs => k xs.length
    | .dct ps => k ps.length
    | .fdct _ => T.fail
    | .dead => T.fail
  | none => T.fail
def lenE (x : EV) (L : LH) (k : Nat → T) : T := match x with
  | .str s => lineB s.length fun _ => k s.length
  | .tup xs => k xs.length
  | .vl xs => k xs.length
  | .ref a => lenO (L.get a) k
  | _ => T.fail
def seqE (x : EV) (L : LH) (k : List EV → T) : T := match x with
  | .tup xs => k xs
  | .vl xs => k xs
  | .ref a => lstK (L.get a) k
  | _ => T.fail
def absI (i : Int) : Int := match i with
  | .ofNat n => .ofNat n
  | .negSucc n => .ofNat (Nat.succ n)
def intE (x : EV) (L : LH) (k : KV) : T := match x with
  | .int i => k (.int i) L
  | .bl b => k (.int (b2I b)) L
  | _ => T.fail
def one (vs : List EV) (k : EV → T) : T := match vs with
  | [] => T.fail
  | v :: r => match r with
    | [] => k v
    | _ :: _ => T.fail
def pairK (vs : List EV) (k : EV → EV → T) : T := match vs with
  | [] => T.fail
  | v :: r => one r fun w => k v w
def someK {α : Type} (o : Option α) (k : α → T) : T := match o with
  | some a => k a
  | none => T.fail
def codes : List Nat → List EV
  | [] => []
  | c :: r => .str [c] :: codes r
def keysE : List (EV × EV) → List EV
  | [] => []
  | p :: r => p.1 :: keysE r
def valsE : List (EV × EV) → List EV
  | [] => []
  | p :: r => p.2 :: valsE r
def itemsE : List (EV × EV) → List EV
  | [] => []
  | p :: r => .tup [p.1, p.2] :: itemsE r
def listO (o : Option LO) (k : List EV → T) : T := match o with
  | some o => match o with
    | .lst xs => k xs
    | .dct ps => k (keysE ps)
    | .fdct _ => T.fail
    | .dead => T.fail
  | none => T.fail
def dctK (o : Option LO) (k : List (EV × EV) → T) : T := match o with
  | some o => match o with
    | .lst _ => T.fail
    | .dct ps => k ps
    | .fdct _ => T.fail
    | .dead => T.fail
  | none => T.fail
def fdctK (o : Option LO) (k : List (EV × EV) → T) : T := match o with
  | some o => match o with
    | .lst _ => T.fail
    | .dct _ => T.fail
    | .fdct ps => k ps
    | .dead => T.fail
  | none => T.fail
/-- what list(x) holds -/
def listE (x : EV) (L : LH) (k : List EV → T) : T := match x with
  | .tup xs => k xs
  | .vl xs => k xs
  | .ref a => listO (L.get a) k
  | .str s => lineB s.length fun _ => k (codes s)
  | _ => T.fail
/-- a pair put into a dict -/
def putD (x y : EV) (ps : List (EV × EV)) : Option (List (EV × EV)) := match dGet x ps with
  | some o => match o with
    | some _ => some (dRep x y ps)
    | none => some (ps ++ [(x, y)])
  | none => none
def pairO (x : EV) : Option (EV × EV) := match x with
  | .tup xs => match xs with
    | [] => none
    | a :: r => match r with
      | [] => none
      | b :: r => match r with
        | [] => some (a, b)
        | _ :: _ => none
  | _ => none
/-- a dict of pairs -/
def mkD : List EV → List (EV × EV) → Option (List (EV × EV))
  | [], ps => some ps
  | x :: r, ps => match pairO x with
    | some p => match putD p.1 p.2 ps with
      | some ps => mkD r ps
      | none => none
    | none => none
/-- pairs out of a row -/
def mkR : List EV → List (EV × EV) → Option (List (EV × EV))
  | [], ps => some ps
  | x :: r, ps => match r with
    | [] => none
    | y :: r => match putD x y ps with
      | some ps => mkR r ps
      | none => none
def biE (f : BF) (L : LH) (vs : List EV) (k : KV) : T := match f with
  | .abs => one vs fun x => intK x fun i => frI (absI i) fun z => k (.int z) L
  | .len => one vs fun x => lenE x L fun n => frN n fun n => k (.int (.ofNat n)) L
  | .isinst => pairK vs fun x t => someK (kindE L x) fun c => isiK c t L k
  | .all => one vs fun x => rowK x L fun xs => rigO (allBl xs) L k
  | .any => one vs fun x => rowK x L fun xs => rigO (anyBl xs) L k
  | .vlist => one vs fun x => listE x L fun xs => appK xs [] fun xs => k (.vl xs) L
  | .list => one vs fun x => listE x L fun xs => LH.newK L (.lst xs) fun c L => k (.ref c) L
  | .tuple => one vs fun x => seqE x L fun xs => k (.tup xs) L
  | .int => one vs fun x => intE x L k
  | .max => pairK vs fun x y => two x y fun i j => ifB (ltI i j) (fun _ => k (.int j) L) fun _ => k (.int i) L
  | .min => pairK vs fun x y => two x y fun i j => ifB (ltI j i) (fun _ => k (.int j) L) fun _ => k (.int i) L
  | .dict => one vs fun x => rowK x L fun xs => someK (mkD xs []) fun ps => frcK ps fun ps => LH.newK L (.dct ps) fun c L => k (.ref c) L
/-- where a sign stands in "HTPF" -/
def ixS (x v : EV) (k : Int → T) : T := match x with
  | .str a => match beqNs a [72, 84, 80, 70] with
    | true => match v with
      | .str b => match beqNs b [72] with
        | true => k (.ofNat 0)
        | false => match beqNs b [84] with
          | true => k (.ofNat 1)
          | false => match beqNs b [80] with
            | true => k (.ofNat 2)
            | false => match beqNs b [70] with
              | true => k (.ofNat 3)
              | false => T.fail
      | _ => T.fail
    | false => T.fail
  | _ => T.fail
def popI (a : Nat) (i : Int) (xs : List EV) (L : LH) (k : KV) : T := match i with
  | .ofNat n => match Nat.blt n 1000000 with
    | true => match xs[n]? with
      | some v => frcK (xs.eraseIdx n) fun zs => LH.putK L a (.lst zs) fun L => k v L
      | none => T.fail
    | false => T.fail
  | .negSucc _ => T.fail
def mtE (m : BM) (L : LH) (x : EV) (vs : List EV) (k : KV) : T := match m with
  | .append => one vs fun v => refK x fun a => lstK (L.get a) fun xs => belowB xs.length fun _ => frcK (xs ++ [v]) fun zs => LH.putK L a (.lst zs) fun L => k .non L
  | .extend => one vs fun v => refK x fun a => lstK (L.get a) fun xs => rowK v L fun ys => lineB (Nat.add xs.length ys.length) fun _ => frcK (xs ++ ys) fun zs => LH.putK L a (.lst zs) fun L => k .non L
  | .index => one vs fun v => ixS x v fun i => k (.int i) L
  | .pop => one vs fun v => refK x fun a => intK v fun i => lstK (L.get a) fun xs => popI a i xs L k
def setI (a : Nat) (xs : List EV) (n : Int) (v : EV) (L : LH) (k : LH → T) : T := match n with
  | .ofNat m => match Nat.blt m xs.length with
    | true => frcK (xs.set m v) fun zs => LH.putK L a (.lst zs) k
    | false => T.fail
  | .negSucc _ => T.fail
def setO (o : Option LO) (a : Nat) (i v : EV) (L : LH) (k : LH → T) : T := match o with
  | some o => match o with
    | .lst xs => intK i fun n => setI a xs n v L k
    | .dct ps => hasK (dGet i ps) fun b => belowB ps.length fun _ => ifB b (fun _ => frcK (dRep i v ps) fun qs => LH.putK L a (.dct qs) k) fun _ => frcK (ps ++ [(i, v)]) fun qs => LH.putK L a (.dct qs) k
    | .fdct _ => T.fail
    | .dead => T.fail
  | none => T.fail
/-- o[i] = v -/
def setE (L : LH) (o i v : EV) (k : LH → T) : T := refK o fun a => setO (L.get a) a i v L k
/-- what is walked: a list as it stands at each turn, or things known ahead -/
inductive IT where
  | lst (a : Nat) (i : Nat) | seq (xs : List EV) | rng (i : Int) (n : Nat) | zip (a b : Nat) (i : Nat) | zipT (xs ys : List EV) | enm (a : Nat) (i : Nat) | enmT (i : Nat) (xs : List EV)
def nthK (xs : List EV) (i : Nat) (stop : T) (go : EV → T) : T := match xs[i]? with
  | some v => go v
  | none => stop
def nxSeq (xs : List EV) (stop : T) (go : EV → IT → T) : T := match xs with
  | [] => stop
  | x :: r => go x (.seq r)
def nxRng (i : Int) (n : Nat) (stop : T) (go : EV → IT → T) : T := match n with
  | 0 => stop
  | m + 1 => frI (Int.add i (.ofNat 1)) fun j => go (.int i) (.rng j m)
def nxEnm (i : Nat) (xs : List EV) (stop : T) (go : EV → IT → T) : T := match xs with
  | [] => stop
  | x :: r => frN (Nat.succ i) fun j => go (.tup [.int (.ofNat i), x]) (.enmT j r)
def nxZip (xs ys : List EV) (stop : T) (go : EV → IT → T) : T := match xs with
  | [] => stop
  | x :: r => match ys with
    | [] => stop
    | y :: s => go (.tup [x, y]) (.zipT r s)
/-- the next turn: the end, or a thing and what is walked on -/
def nextK (L : LH) (J : IT) (stop : T) (go : EV → IT → T) : T := match J with
  | .lst a i => lstK (L.get a) fun xs => nthK xs i stop fun v => frN (Nat.succ i) fun i => go v (.lst a i)
  | .seq xs => nxSeq xs stop go
  | .rng i n => nxRng i n stop go
  | .zip a b i => lstK (L.get a) fun xs => lstK (L.get b) fun ys => nthK xs i stop fun v => nthK ys i stop fun w => frN (Nat.succ i) fun i => go (.tup [v, w]) (.zip a b i)
  | .zipT xs ys => nxZip xs ys stop go
  | .enmT i xs => nxEnm i xs stop go
  | .enm a i => lstK (L.get a) fun xs => nthK xs i stop fun v => frN (Nat.succ i) fun j => go (.tup [.int (.ofNat i), v]) (.enm a j)
def iterO (o : Option LO) (a : Nat) (k : IT → T) : T := match o with
  | some o => match o with
    | .lst _ => k (.lst a 0)
    | .dct _ => T.fail
    | .fdct ps => k (.seq (keysE ps))
    | .dead => T.fail
  | none => T.fail
def iterE (L : LH) (x : EV) (k : IT → T) : T := match x with
  | .tup xs => k (.seq xs)
  | .vl xs => k (.seq xs)
  | .str s => k (.seq (codes s))
  | .ref a => iterO (L.get a) a k
  | _ => T.fail
def setS : SL → Nat → EV → (SL → T) → T
  | [], _, _, k => k []
  | x :: r, i, v, k => match i with
    | 0 => k (some v :: r)
    | i + 1 => setS r i v fun r => k (x :: r)
theorem setS_eq : ∀ (s : SL) (i : Nat) (v : EV) (k : SL → T), setS s i v k = k (s.set i (some v))
  | [], i, _, _ => by cases i <;> rfl
  | _ :: _, 0, _, _ => rfl
  | x :: r, i + 1, v, k => by simp only [setS, List.set_cons_succ]; exact setS_eq r i v _
def wipeS : SL → List Nat → SL
  | s, [] => s
  | s, i :: r => (wipeS s r).set i none
def truB (v : EV) (L : LH) (k : KV) : T := match v with
  | .bl b => k (.bl b) L
  | _ => tru L v fun b => k (.bl b) L
/-- a value; where a test is asked, its truth -/
def truT (t : Bool) (k : KV) (v : EV) (L : LH) : T := match t with
  | true => truB v L k
  | false => k v L
/-- a loop over what is walked -/
def loopE (body : EV → SL → LH → KS → T) (fin : KS) : Nat → IT → SL → LH → T
  | 0, _, _, _ => T.fail
  | f + 1, J, s, L => nextK L J (fin s L) fun v J => body v s L fun s L => loopE body fin f J s L
def lcPut (o : Option EV) (c : Nat) (L : LH) (k : LH → T) : T := match o with
  | some y => lstK (L.get c) fun xs => belowB xs.length fun _ => frcK (xs ++ [y]) fun zs => LH.putK L c (.lst zs) k
  | none => k L
/-- the loop of a comprehension: c the list that is made -/
def lcE (c : Nat) (turn : EV → LH → (Option EV → LH → T) → T) (fin : LH → T) : Nat → IT → LH → T
  | 0, _, _ => T.fail
  | f + 1, J, L => nextK L J (fin L) fun v J => turn v L fun o L => lcPut o c L fun L => lcE c turn fin f J L
def revK : List EV → List EV → (List EV → T) → T
  | [], a, k => k a
  | x :: r, a, k => revK r (x :: a) k
theorem revK_eq : ∀ (xs a : List EV) (k : List EV → T), revK xs a k = k (xs.reverse ++ a)
  | [], _, _ => rfl
  | x :: r, a, k => by simp only [revK, revK_eq r, List.reverse_cons, List.append_assoc, List.singleton_append]
def accK (o : Option EV) (n : Nat) (acc : List EV) (L : LH) (k : Nat → List EV → LH → T) : T := match o with
  | some y => belowB n fun _ => frN (Nat.succ n) fun n => k n (y :: acc) L
  | none => k n acc L
/-- a comprehension whose list is known, not written any more: acc from its end -/
def lcF (turn : EV → LH → (Option EV → LH → T) → T) (fin : List EV → LH → T) : Nat → IT → Nat → List EV → LH → T
  | 0, _, _, _, _ => T.fail
  | f + 1, J, n, acc, L => nextK L J (revK acc [] fun xs => fin xs L) fun v J => turn v L fun o L => accK o n acc L fun n acc L => lcF turn fin f J n acc L
def whileE (test : SL → LH → (Bool → LH → T) → T) (body : SL → LH → KS → T) (fin : KS) : Nat → SL → LH → T
  | 0, _, _ => T.fail
  | f + 1, s, L => test s L fun b L => ifB b (fun _ => body s L fun s L => whileE test body fin f s L) fun _ => fin s L
/-- the surroundings: how many turns at most, the module's things, the defs -/
structure En where
  W : Nat
  G : List EV
  C : Nat → List EV → LH → KV → T
def En.self (E : En) : En := ⟨E.W, E.G, E.C⟩
theorem En.self_eq (E : En) : E.self = E := rfl
def pickE (vs : List EV) : List Nat → List EV
  | [] => []
  | i :: r => match vs[i]? with
    | some v => v :: pickE vs r
    | none => pickE vs r
def k2 (k : KV) (L : LH) (c : Bool) : T := match c with
  | true => k (.bl true) L
  | false => k (.bl false) L
def k2n (k : KV) (L : LH) (c : Bool) : T := match c with
  | true => k (.bl false) L
  | false => k (.bl true) L
def isLst (x : EV) (L : LH) (k : Unit → T) : T := refK x fun a => lstK (L.get a) fun _ => k ()
def isStr (x : EV) (k : Unit → T) : T := match x with
  | .str _ => k ()
  | _ => T.fail
def rcv (m : BM) (x : EV) (L : LH) (k : Unit → T) : T := match m with
  | .append => isLst x L k
  | .extend => isLst x L k
  | .index => isStr x k
  | .pop => isLst x L k
/-- a list of ours, written no more -/
def frzK (v : EV) (L : LH) (k : EV → LH → T) : T := match v with
  | .ref a => lstK (L.get a) fun xs => LH.putK L a .dead fun L => k (.vl xs) L
  | _ => k v L
def lockK (v : EV) (L : LH) (k : Nat → LH → T) : T := refK v fun a => dctK (L.get a) fun ps => LH.putK L a (.fdct ps) fun L => k a L
def unlkK (a : Nat) (L : LH) (k : LH → T) : T := fdctK (L.get a) fun ps => LH.putK L a (.dct ps) k
def negE (x : EV) (L : LH) (k : KV) : T := match x with
  | .int i => frI (-i) fun z => k (.int z) L
  | _ => T.fail
def isBl (x : EV) (a b : Unit → T) : T := match x with
  | .bl r => match r with
    | true => a ()
    | false => b ()
  | _ => T.fail
def slotE (s : SL) (i : Nat) (k : EV → T) : T := match s[i]? with
  | some o => someK o k
  | none => T.fail
def gloE (G : List EV) (i : Nat) (k : EV → T) : T := match G[i]? with
  | some v => k v
  | none => T.fail
def rngI (i : Int) (L : LH) (k : IT → LH → T) : T := match i with
  | .ofNat n => match Nat.blt n 1000000000 with
    | true => k (.rng (.ofNat 0) n) L
    | false => T.fail
  | .negSucc n => match Nat.blt n 1000000000 with
    | true => k (.rng (.ofNat 0) 0) L
    | false => T.fail
def rngE (vs : List EV) (L : LH) (k : IT → LH → T) : T := one vs fun v => intK v fun i => rngI i L k
def tupE (v : EV) (k : List EV → T) : T := match v with
  | .tup xs => k xs
  | _ => T.fail
def zipR (a : Nat) (y : EV) (L : LH) (k : IT → LH → T) : T := refK y fun b => lstK (L.get a) fun _ => lstK (L.get b) fun _ => k (.zip a b 0) L
def zipE (x y : EV) (L : LH) (k : IT → LH → T) : T := match x with
  | .ref a => zipR a y L k
  | .tup xs => tupE y fun ys => k (.zipT xs ys) L
  | .vl xs => vlK y fun ys => k (.zipT xs ys) L
  | _ => T.fail
def enmE (x : EV) (L : LH) (k : IT → LH → T) : T := match x with
  | .ref a => lstK (L.get a) fun _ => k (.enm a 0) L
  | .vl xs => k (.enmT 0 xs) L
  | _ => T.fail
def fitTs : MTs → List EV → Bool
  | .nil, xs => match xs with
    | [] => true
    | _ :: _ => false
  | .cons _ r, xs => match xs with
    | [] => false
    | _ :: xs => fitTs r xs
mutual
def evT : MT → En → EV → SL → LH → KS → T
  | .nm i, _, v, s, L, k => setS s i v fun s => k s L
  | .tup ts, E, v, s, L, k => seqE v L fun xs => ifB (fitTs ts xs) (fun _ => evTs ts E xs s L k) fun _ => T.fail
  | .sub o i, E, v, s, L, k => ev o E false s L fun x L => ev i E false s L fun y L => setE L x y v fun L => k s L
  | .nope, _, _, _, _, _ => T.fail
def evTs : MTs → En → List EV → SL → LH → KS → T
  | .nil, _, vs, s, L, k => match vs with
    | [] => k s L
    | _ :: _ => T.fail
  | .cons t r, E, vs, s, L, k => match vs with
    | v :: vs => evT t E v s L fun s L => evTs r E vs s L k
    | [] => T.fail
def ev : ME → En → Bool → SL → LH → KV → T
  | .k v, _, t, _, L, k => truT t k v L
  | .v i, _, t, s, L, k => slotE s i fun v => truT t k v L
  | .g i, E, t, _, L, k => gloE E.G i fun v => truT t k v L
  | .t n, _, t, _, L, k => ifB t (fun _ => T.fail) fun _ => k (.ty n) L
  | .bin op a b, E, t, s, L, k => ev a E false s L fun x L => ev b E false s L fun y L => binE op L x y (truT t k)
  | .neg a, E, t, s, L, k => ev a E false s L fun x L => negE x L (truT t k)
  | .not a, E, t, s, L, k => ifB t (fun _ => ev a E true s L fun x L => isBl x (fun _ => k (.bl false) L) fun _ => k (.bl true) L)
      fun _ => ev a E false s L fun x L => tru L x (k2n k L)
  | .and a b, E, t, s, L, k => ifB t (fun _ => ev a E true s L fun x L => isBl x (fun _ => ev b E true s L k) fun _ => k (.bl false) L)
      fun _ => ev a E false s L fun x L => tru L x fun c => ifB c (fun _ => ev b E false s L k) fun _ => k x L
  | .or a b, E, t, s, L, k => ifB t (fun _ => ev a E true s L fun x L => isBl x (fun _ => k (.bl true) L) fun _ => ev b E true s L k)
      fun _ => ev a E false s L fun x L => tru L x fun c => ifB c (fun _ => k x L) fun _ => ev b E false s L k
  | .cmp op a b, E, _, s, L, k => ev a E false s L fun x L => ev b E false s L fun y L => cmpE op L x y (k2 k L)
  | .chain o1 o2 a b c, E, _, s, L, k => ev a E false s L fun x L => ev b E false s L fun y L => cmpE o1 L x y fun r => ifB r (fun _ => ev c E false s L fun z L => cmpE o2 L y z (k2 k L)) fun _ => k (.bl false) L
  | .ite c a b, E, t, s, L, k => ifB t (fun _ => T.fail) fun _ => ev c E true s L fun x L => isBl x (fun _ => ev a E false s L k) fun _ => ev b E false s L k
  | .tup es, E, t, s, L, k => evs es E s L fun vs L => truT t k (.tup vs) L
  | .lst es, E, t, s, L, k => evs es E s L fun vs L => LH.newK L (.lst vs) fun c L => truT t k (.ref c) L
  | .idx a i, E, t, s, L, k => ev a E false s L fun x L => ev i E false s L fun y L => idxE L x y fun v => truT t k v L
  | .call f as, E, t, s, L, k => evs as E s L fun vs L => E.C f vs L (truT t k)
  | .callk f as ks ix, E, t, s, L, k => evs as E s L fun vs L => evs ks E s L fun ws L => E.C f (pickE (vs ++ ws) ix) L (truT t k)
  | .bi f as, E, t, s, L, k => evs as E s L fun vs L => biE f L vs (truT t k)
  | .mt m o as, E, t, s, L, k => ev o E false s L fun x L => rcv m x L fun _ => evs as E s L fun vs L => mtE m L x vs (truT t k)
  | .lc it tg own c e, E, t, s, L, k => ifB t (fun _ => T.fail) fun _ => evI it E s L fun J L => LH.newK L (.lst []) fun d L =>
      lcE d (fun v L k => evT tg E.self v (wipeS s own) L fun s L => evO c E s L fun b L => ifB b (fun _ => ev e E false s L fun y L => k (some y) L) fun _ => k none L) (fun L => k (.ref d) L) E.W J L
  | .disp ps, E, t, s, L, k => ifB t (fun _ => T.fail) fun _ => LH.newK L (.dct []) fun c L => evs ps E s L fun vs L => dctK (L.get c) fun ps0 => nilB ps0 fun z => ifB z (fun _ => T.fail) fun _ => someK (mkR vs []) fun qs => frcK qs fun qs => LH.putK L c (.dct qs) fun L => k (.ref c) L
  | .itl e, E, t, s, L, k => ifB t (fun _ => T.fail) fun _ => ev e E false s L fun x L => refK x fun a => dctK (L.get a) fun ps => appK (itemsE ps) [] fun xs => k (.vl xs) L
  | .vll e, E, t, s, L, k => ifB t (fun _ => T.fail) fun _ => ev e E false s L fun x L => refK x fun a => dctK (L.get a) fun ps => appK (valsE ps) [] fun xs => k (.vl xs) L
  | .lk v e, E, t, s, L, k => ifB t (fun _ => T.fail) fun _ => slotE s v fun x => lockK x L fun a L => ev e E false s L fun y L => unlkK a L fun L => k y L
  | .vls es, E, t, s, L, k => evs es E s L fun vs L => truT t k (.vl vs) L
  | .vlc it tg own c e, E, t, s, L, k => ifB t (fun _ => T.fail) fun _ => evI it E s L fun J L =>
      lcF (fun v L k => evT tg E.self v (wipeS s own) L fun s L => evO c E s L fun b L => ifB b (fun _ => ev e E false s L fun y L => k (some y) L) fun _ => k none L) (fun xs L => k (.vl xs) L) E.W J 0 [] L
  | .nope, _, _, _, _, _ => T.fail
def evO : Mo → En → SL → LH → (Bool → LH → T) → T
  | .none, _, _, L, k => k true L
  | .some e, E, s, L, k => ev e E true s L fun x L => isBl x (fun _ => k true L) fun _ => k false L
def evs : Ms → En → SL → LH → (List EV → LH → T) → T
  | .nil, _, _, L, k => k [] L
  | .cons e r, E, s, L, k => ev e E false s L fun x L => evs r E s L fun xs L => k (x :: xs) L
def evI : MI → En → SL → LH → (IT → LH → T) → T
  | .ev e, E, s, L, k => ev e E false s L fun x L => iterE L x fun J => k J L
  | .rng as, E, s, L, k => evs as E s L fun vs L => rngE vs L k
  | .zip a b, E, s, L, k => ev a E false s L fun x L => ev b E false s L fun y L => zipE x y L k
  | .enum a, E, s, L, k => ev a E false s L fun x L => enmE x L k
end
/-- what is behind a statement -/
structure Bh where
  rt : KV
  bk : KS
  ct : KS
mutual
def xs : MSs → En → SL → LH → KS → Bh → T
  | .nil, _, s, L, nx, _ => nx s L
  | .cons st r, E, s, L, nx, B => x st E s L (fun s L => xs r E s L nx B) B
def x : MS → En → SL → LH → KS → Bh → T
  | .asg t e, E, s, L, nx, _ => ev e E false s L fun v L => evT t E v s L nx
  | .ex e, E, s, L, nx, _ => ev e E false s L fun _ L => nx s L
  | .iff c a b, E, s, L, nx, B => ev c E true s L fun v L => isBl v (fun _ => xs a E s L nx B) fun _ => xs b E.self s L nx B
  | .whl c b, E, s, L, nx, B => whileE (fun s L k => ev c E true s L fun v L => isBl v (fun _ => k true L) fun _ => k false L) (fun s L k => xs b E s L k ⟨B.rt, nx, k⟩) nx E.W s L
  | .for t it b, E, s, L, nx, B => evI it E s L fun J L => loopE (fun v s L k => evT t E v s L fun s L => xs b E s L k ⟨B.rt, nx, k⟩) nx E.W J s L
  | .ret e, E, s, L, _, B => ev e E false s L B.rt
  | .retN, _, _, L, _, B => B.rt .non L
  | .brk, _, s, L, _, B => B.bk s L
  | .cont, _, s, L, _, B => B.ct s L
  | .pass, _, s, L, nx, _ => nx s L
  | .lk v st, E, s, L, nx, B => slotE s v fun x' => lockK x' L fun a L => x st E s L (fun s L => unlkK a L fun L => nx s L) ⟨fun v L => unlkK a L fun L => B.rt v L, fun s L => unlkK a L fun L => B.bk s L, fun s L => unlkK a L fun L => B.ct s L⟩
  | .frz v st, E, s, L, nx, B => slotE s v fun x' => frzK x' L fun y L => setS s v y fun s => x st E s L nx B
  | .nope, _, _, _, _, _ => T.fail
end
/-- a def: how many parameters, how many slots, its body; a draw -/
inductive FD where
  | df (np ns : Nat) (b : MSs) | dp (np ns : Nat) (b : MSs) | draw | prim (dm : Nat) (p : List EV → LH → KV → T)
def noS : KS := fun _ _ => T.fail
def opqK (v : EV) (k : Unit → T) : T := match v with
  | .opq => k ()
  | _ => T.fail
def drawC (n : Nat) (L : LH) (k : KV) : T := match Nat.blt L.c 1099511627776 with
  | true => match Nat.blt n 1073741824 with
    | true => frN (Nat.succ L.c) fun c => T.draw n fun r => k (.int (.ofNat r)) ⟨L.n, L.t, c⟩
    | false => T.fail
  | false => T.fail
def drawI (i : Int) (L : LH) (k : KV) : T := match i with
  | .ofNat n => match Nat.beq n 0 with
    | true => T.fail
    | false => drawC n L k
  | .negSucc _ => T.fail
def drawE (vs : List EV) (L : LH) (k : KV) : T := pairK vs fun x y => opqK x fun _ => intK y fun i => drawI i L k
def slotsOf : List EV → Nat → SL
  | [], n => List.replicate n none
  | v :: r, n => some v :: slotsOf r n
def bodyE (np ns : Nat) (b : MSs) (E : En) (vs : List EV) (L : LH) (k : KV) : T := match Nat.beq vs.length np with
  | true => xs b E (slotsOf vs (ns - np)) L (fun _ L => k .non L) ⟨k, noS, noS⟩
  | false => T.fail
mutual
def noRef : EV → Bool
  | .ref _ => false
  | .tup xs => noRefs xs
  | .vl xs => noRefs xs
  | _ => true
def noRefs : List EV → Bool
  | [] => true
  | x :: xs => match noRef x with
    | true => noRefs xs
    | false => false
end
/-- what is handed out: a list of ours is written no more -/
def outK (v : EV) (L : LH) (k : EV → T) : T := match v with
  | .ref a => lstK (L.get a) fun xs => match noRefs xs with
    | true => k (.vl xs)
    | false => T.fail
  | _ => match noRef v with
    | true => k v
    | false => T.fail
/-- a def with a heap of its own -/
def pureE (np ns : Nat) (b : MSs) (E : En) (vs : List EV) (L : LH) (k : KV) : T := match noRefs vs with
  | true => match Nat.beq vs.length np with
    | true => xs b E (slotsOf vs (ns - np)) ⟨0, .nil, L.c⟩ (fun _ L1 => k .non ⟨L.n, L.t, L1.c⟩) ⟨fun v L1 => outK v L1 fun v => k v ⟨L.n, L.t, L1.c⟩, noS, noS⟩
    | false => T.fail
  | false => T.fail
def primE (c : Bool) (p : List EV → LH → KV → T) (vs : List EV) (L : LH) (k : KV) : T := match c with
  | true => p vs L k
  | false => T.fail
def runF (o : Option FD) (d : Nat) (E : En) (vs : List EV) (L : LH) (k : KV) : T := match o with
  | some o => match o with
    | .df np ns b => bodyE np ns b E vs L k
    | .dp np ns b => pureE np ns b E vs L k
    | .draw => drawE vs L k
    | .prim dm p => primE (Nat.ble dm d) p vs L k
  | none => T.fail
def callE (W : Nat) (G : List EV) (F : List FD) : Nat → Nat → List EV → LH → KV → T
  | 0, _, _, _, _ => T.fail
  | d + 1, f, vs, L, k => runF F[f]? d ⟨W, G, callE W G F d⟩ vs L k
end Ev

set_option Elab.async false
set_option linter.all false
set_option maxRecDepth 100000
set_option maxHeartbeats 4000000
/-! EvRel: what the evaluator's values and heap say of the layer's. -/
namespace Ev
open PySem PySem.Spec PyProof.Rows L2
def tyName : Nat → Option String
  | 0 => some "int" | 1 => some "bool" | 2 => some "str" | 3 => some "list" | 4 => some "tuple" | 5 => some "dict" | _ => none
def toS (s : List Nat) : Str := ⟨s.toArray⟩
/-- what is fixed: the written part, where the defs stand, the stream: where it stands, what is kept for it, what holds of it -/
structure Gd where
  K : PySem.W.Frag
  fa : Nat → Addr
  z : Addr
  rsv : List Addr
  J : Nat → Hp → Prop
  kd : Addr → List (EV × EV) → Prop
section
variable (D : Gd)
/-- a tuple: tracked, or of the module's own -/
def TupAt (K : PySem.W.Frag) (H : Hp) (a : Addr) (ys : List V) : Prop := H a = some (.tup ys) ∨
  ∃ (o : Obj) (its : Array Value) (n : Nat), K.lookup a = some o ∧ o.cls = .type "tuple" ∧ o.data = .seq its n ∧ its.size ≤ sizeLine ∧ Vals ys its.toList
theorem TupAt.sq {K : PySem.W.Frag} {H : Hp} {a : Addr} {ys : List V} (h : TupAt K H a ys) : SqT K H a ys := h.elim SqT.of .inr
mutual
inductive RV (μ : List Addr) (H : Hp) : EV → V → Prop where
  | non : RV μ H .non .non
  | bl (b : Bool) : RV μ H (.bl b) (.bl b)
  | int (i : Int) : RV μ H (.int i) (.int i)
  | str (s : List Nat) : RV μ H (.str s) (.str (toS s))
  | tup {xs : List EV} {ys : List V} {a : Addr} : TupAt D.K H a ys → RVs μ H xs ys → RV μ H (.tup xs) (.ref a)
  | ref {i : Nat} {a : Addr} : μ[i]? = some a → RV μ H (.ref i) (.ref a)
  | fn (i : Nat) : RV μ H (.fn i) (.ref (D.fa i))
  | ty {n : Nat} {T : String} : tyName n = some T → RV μ H (.ty n) (.ty T)
  | opq : RV μ H .opq (.ref D.z)
  | kd {ps : List (EV × EV)} {a : Addr} : D.kd a ps → RV μ H (.kd ps) (.ref a)
  | vl {xs : List EV} {ys : List V} {a : Addr} {od : Obj} : H a = some (.frz od (.lst ys)) → RVs μ H xs ys → RV μ H (.vl xs) (.ref a)
inductive RVs (μ : List Addr) (H : Hp) : List EV → List V → Prop where
  | nil : RVs μ H [] []
  | cons {x : EV} {y : V} {xs : List EV} {ys : List V} : RV μ H x y → RVs μ H xs ys → RVs μ H (x :: xs) (y :: ys)
end
def RK : EV → Key → Prop
  | .int i, .inl j => i = j
  | .str s, .inr x => toS s = x
  | _, _ => False
def RPs (μ : List Addr) (H : Hp) : List (EV × EV) → List (Key × V) → Prop
  | [], [] => True
  | p :: ps, q :: qs => RK p.1 q.1 ∧ RV D μ H p.2 q.2 ∧ RPs μ H ps qs
  | _, _ => False
def ObR (μ : List Addr) (H : Hp) : LO → Addr → Prop
  | .lst xs, a => ∃ ys, H a = some (.lst ys) ∧ RVs D μ H xs ys
  | .dct ps, a => ∃ kvs, H a = some (.dK kvs) ∧ RPs D μ H ps kvs
  | .fdct ps, a => ∃ od kvs, H a = some (.frz od (.dK kvs)) ∧ RPs D μ H ps kvs
  | .dead, a => ∃ od u, H a = some (.frz od u)
structure Rep (μ : List Addr) (L : LH) (H : Hp) : Prop where
  len : μ.length = L.n
  nd : μ.Nodup
  ob : ∀ i a, μ[i]? = some a → ∃ o, L.get i = some o ∧ ObR D μ H o a
  top : ∀ i o, L.get i = some o → i < L.n
  rs : ∀ a, a ∈ μ → a ∉ D.rsv
  J : D.J L.c H
structure Ext (μ : List Addr) (H : Hp) (μ' : List Addr) (H' : Hp) : Prop where
  pre : ∃ t, μ' = μ ++ t
  tup : ∀ b xs, H b = some (.tup xs) → H' b = some (.tup xs)
  keep : ∀ b o, H b = some o → b ∉ μ → b ∉ D.rsv → H' b = some o
  frz : ∀ b o u, H b = some (.frz o u) → H' b = some (.frz o u)
  new : ∀ b, b ∈ μ' → b ∈ μ ∨ H b = none ∨ b ∈ D.rsv
def RS (μ : List Addr) (H : Hp) (s : SL) (σ : L2.St) : Prop := s.length = σ.length ∧ ∀ (i : Nat) v, s[i]? = some (some v) → ∃ u, σ[i]? = some (some u) ∧ RV D μ H v u
/-- the end k of a run serves what is wanted behind: for values, truths, slots -/
def PostV (μ : List Addr) (H : Hp) (k : KV) (Q : VK) : Prop := ∀ v L' μ' H' u, Ext D μ H μ' H' → Rep D μ' L' H' → RV D μ' H' v u → (k v L').holds → Q u H'
def PostB (μ : List Addr) (H : Hp) (k : Bool → LH → T) (Q : Bool → Hp → Prop) : Prop := ∀ b L' μ' H', Ext D μ H μ' H' → Rep D μ' L' H' → (k b L').holds → Q b H'
def PostA (n : Nat) (μ : List Addr) (H : Hp) (k : List EV → LH → T) (Q : List V → Hp → Prop) : Prop := ∀ vs L' μ' H' us, vs.length = n → Ext D μ H μ' H' → Rep D μ' L' H' → RVs D μ' H' vs us → (k vs L').holds → Q us H'
def PostS (μ : List Addr) (H : Hp) (k : KS) (Q : L2.St → Hp → Prop) : Prop := ∀ s L' μ' H' σ, Ext D μ H μ' H' → Rep D μ' L' H' → RS D μ' H' s σ → (k s L').holds → Q σ H'
end
section
variable {D : Gd} {μ μ1 μ2 : List Addr} {H H1 H2 : Hp} {L : LH}
theorem Ext.refl : Ext D μ H μ H := ⟨⟨[], by simp⟩, fun _ _ h => h, fun _ _ h _ _ => h, fun _ _ _ h => h, fun _ h => .inl h⟩
theorem Ext.at {i : Nat} {a : Addr} (e : Ext D μ H μ1 H1) (h : μ[i]? = some a) : μ1[i]? = some a := by
  obtain ⟨t, rfl⟩ := e.pre
  rw [List.getElem?_append_left (List.getElem?_eq_some_iff.mp h).1]
  exact h
theorem Ext.trans (e : Ext D μ H μ1 H1) (f : Ext D μ1 H1 μ2 H2) : Ext D μ H μ2 H2 := by
  refine ⟨?_, fun b xs h => f.tup b xs (e.tup b xs h), fun b o h hm hr => ?_, fun b o u h => f.frz b o u (e.frz b o u h), fun b hb => ?_⟩
  · obtain ⟨t, rfl⟩ := e.pre
    obtain ⟨u, rfl⟩ := f.pre
    exact ⟨t ++ u, by simp⟩
  · refine f.keep b o (e.keep b o h hm hr) (fun hb => ?_) hr
    rcases e.new b hb with z | z | z
    · exact hm z
    · rw [h] at z; cases z
    · exact hr z
  · rcases f.new b hb with z | z | z
    · exact e.new b z
    · by_cases hm : b ∈ μ
      · exact .inl hm
      · cases q : H b with
        | none => exact .inr (.inl rfl)
        | some o =>
          by_cases hr : b ∈ D.rsv
          · exact .inr (.inr hr)
          · rw [e.keep b o q hm hr] at z; cases z
    · exact .inr (.inr z)
theorem sqT_ext {K : PySem.W.Frag} {a : Addr} {xs : List V} (f : ∀ b xs, H b = some (.tup xs) → H1 b = some (.tup xs)) (h : TupAt K H a xs) : TupAt K H1 a xs := h.elim (fun r => .inl (f _ _ r)) .inr
mutual
theorem RV.mono (e : Ext D μ H μ1 H1) : ∀ {v : EV} {u : V}, RV D μ H v u → RV D μ1 H1 v u
  | _, _, .non => .non
  | _, _, .bl b => .bl b
  | _, _, .int i => .int i
  | _, _, .str s => .str s
  | _, _, .tup h r => .tup (sqT_ext e.tup h) (RVs.mono e r)
  | _, _, .ref h => .ref (e.at h)
  | _, _, .fn i => .fn i
  | _, _, .ty h => .ty h
  | _, _, .opq => .opq
  | _, _, .kd h => .kd h
  | _, _, .vl h r => .vl (e.frz _ _ _ h) (RVs.mono e r)
theorem RVs.mono (e : Ext D μ H μ1 H1) : ∀ {vs : List EV} {us : List V}, RVs D μ H vs us → RVs D μ1 H1 vs us
  | _, _, .nil => .nil
  | _, _, .cons r s => .cons (RV.mono e r) (RVs.mono e s)
end
theorem RPs.mono (e : Ext D μ H μ1 H1) : ∀ {ps : List (EV × EV)} {qs : List (Key × V)}, RPs D μ H ps qs → RPs D μ1 H1 ps qs
  | [], [], _ => True.intro
  | [], _ :: _, h => h.elim
  | _ :: _, [], h => h.elim
  | _ :: _, _ :: _, ⟨a, b, c⟩ => ⟨a, b.mono e, RPs.mono e c⟩
mutual
theorem RV.mono2 (e : ∀ b xs, H b = some (.tup xs) → H1 b = some (.tup xs)) (f : ∀ b od xs, H b = some (.frz od (.lst xs)) → H1 b = some (.frz od (.lst xs))) : ∀ {v : EV} {u : V}, RV D μ H v u → RV D μ H1 v u
  | _, _, .non => .non
  | _, _, .bl b => .bl b
  | _, _, .int i => .int i
  | _, _, .str s => .str s
  | _, _, .tup h r => .tup (sqT_ext e h) (RVs.mono2 e f r)
  | _, _, .ref h => .ref h
  | _, _, .fn i => .fn i
  | _, _, .ty h => .ty h
  | _, _, .opq => .opq
  | _, _, .kd h => .kd h
  | _, _, .vl h r => .vl (f _ _ _ h) (RVs.mono2 e f r)
theorem RVs.mono2 (e : ∀ b xs, H b = some (.tup xs) → H1 b = some (.tup xs)) (f : ∀ b od xs, H b = some (.frz od (.lst xs)) → H1 b = some (.frz od (.lst xs))) : ∀ {vs : List EV} {us : List V}, RVs D μ H vs us → RVs D μ H1 vs us
  | _, _, .nil => .nil
  | _, _, .cons r s => .cons (RV.mono2 e f r) (RVs.mono2 e f s)
end
theorem RPs.mono2 (e : ∀ b xs, H b = some (.tup xs) → H1 b = some (.tup xs)) (f : ∀ b od xs, H b = some (.frz od (.lst xs)) → H1 b = some (.frz od (.lst xs))) : ∀ {ps : List (EV × EV)} {qs : List (Key × V)}, RPs D μ H ps qs → RPs D μ H1 ps qs
  | [], [], _ => True.intro
  | [], _ :: _, h => h.elim
  | _ :: _, [], h => h.elim
  | _ :: _, _ :: _, ⟨a, b, c⟩ => ⟨a, b.mono2 e f, RPs.mono2 e f c⟩
theorem ObR.mono2 (e : ∀ b xs, H b = some (.tup xs) → H1 b = some (.tup xs)) (f : ∀ b od xs, H b = some (.frz od (.lst xs)) → H1 b = some (.frz od (.lst xs))) {o : LO} {a : Addr} (h : ObR D μ H o a) (same : ∀ u, H a = some u → H1 a = some u) : ObR D μ H1 o a := by
  cases o with
  | lst xs => obtain ⟨ys, h1, h2⟩ := h; exact ⟨ys, same _ h1, h2.mono2 e f⟩
  | dct ps => obtain ⟨ys, h1, h2⟩ := h; exact ⟨ys, same _ h1, RPs.mono2 e f h2⟩
  | fdct ps => obtain ⟨od, ys, h1, h2⟩ := h; exact ⟨od, ys, same _ h1, RPs.mono2 e f h2⟩
  | dead => obtain ⟨od, u, h1⟩ := h; exact ⟨od, u, same _ h1⟩
theorem RVs.length : ∀ {vs : List EV} {us : List V}, RVs D μ H vs us → vs.length = us.length
  | _, _, .nil => rfl
  | _, _, .cons _ r => congrArg (· + 1) r.length
theorem RVs.append : ∀ {vs ws : List EV} {us ys : List V}, RVs D μ H vs us → RVs D μ H ws ys → RVs D μ H (vs ++ ws) (us ++ ys)
  | _, _, _, _, .nil, s => s
  | _, _, _, _, .cons a r, s => .cons a (r.append s)
theorem RVs.get : ∀ {vs : List EV} {us : List V} {i : Nat} {v : EV}, RVs D μ H vs us → vs[i]? = some v → ∃ u, us[i]? = some u ∧ RV D μ H v u
  | _, _, _, _, .nil, e => by simp at e
  | _, _, 0, _, .cons a _, e => by simp at e; subst e; exact ⟨_, rfl, a⟩
  | _, _, i + 1, v, .cons _ r, e => by
    obtain ⟨u, h1, h2⟩ := r.get (i := i) (v := v) (by simpa using e)
    exact ⟨u, by simpa using h1, h2⟩
theorem RVs.set {v : EV} {u : V} (a : RV D μ H v u) : ∀ {vs : List EV} {us : List V} (i : Nat), RVs D μ H vs us → RVs D μ H (vs.set i v) (us.set i u)
  | _, _, _, .nil => .nil
  | _, _, 0, .cons _ r => .cons a r
  | _, _, i + 1, .cons q r => .cons q (RVs.set a i r)
theorem RVs.rep : ∀ {vs : List EV} {us : List V} (n : Nat), RVs D μ H vs us → RVs D μ H (List.replicate n vs).flatten (List.replicate n us).flatten
  | _, _, 0, _ => .nil
  | _, _, n + 1, r => by simp only [List.replicate_succ, List.flatten_cons]; exact r.append (RVs.rep n r)
theorem RS.mono (e : Ext D μ H μ1 H1) {s : SL} {σ : L2.St} (r : RS D μ H s σ) : RS D μ1 H1 s σ := ⟨r.1, fun i v h => let ⟨u, a, b⟩ := r.2 i v h; ⟨u, a, b.mono e⟩⟩
theorem RS.set {s : SL} {σ : L2.St} (r : RS D μ H s σ) {v : EV} {u : V} (a : RV D μ H v u) (i : Nat) : RS D μ H (s.set i (some v)) (σ.set i (some u)) := by
  refine ⟨by simp [r.1], fun j w h => ?_⟩
  by_cases hj : i = j
  · subst hj
    by_cases hi : i < s.length
    · rw [List.getElem?_set_self hi] at h
      cases h
      exact ⟨u, by rw [List.getElem?_set_self (by rw [← r.1]; exact hi)], a⟩
    · rw [List.getElem?_eq_none (by simpa using hi)] at h; cases h
  · rw [List.getElem?_set_ne hj] at h ⊢
    exact r.2 j w h
theorem PostV.mono (e : Ext D μ H μ1 H1) {k : KV} {Q : VK} (p : PostV D μ H k Q) : PostV D μ1 H1 k Q := fun v L' μ' H' u x r a h => p v L' μ' H' u (e.trans x) r a h
theorem PostB.mono (e : Ext D μ H μ1 H1) {k : Bool → LH → T} {Q : Bool → Hp → Prop} (p : PostB D μ H k Q) : PostB D μ1 H1 k Q := fun b L' μ' H' x r h => p b L' μ' H' (e.trans x) r h
theorem PostA.mono {n : Nat} (e : Ext D μ H μ1 H1) {k : List EV → LH → T} {Q : List V → Hp → Prop} (p : PostA D n μ H k Q) : PostA D n μ1 H1 k Q := fun vs L' μ' H' us z x r a h => p vs L' μ' H' us z (e.trans x) r a h
theorem PostS.mono (e : Ext D μ H μ1 H1) {k : KS} {Q : L2.St → Hp → Prop} (p : PostS D μ H k Q) : PostS D μ1 H1 k Q := fun s L' μ' H' σ x r a h => p s L' μ' H' σ (e.trans x) r a h
/-! ### the logical heap grows, is written -/
/-- what is to be known of the kept things: they stay so where they are not touched -/
structure Gd.Ok (D : Gd) : Prop where
  keep : ∀ (c : Nat) (H H' : Hp), D.J c H → (∀ b, b ∈ D.rsv → H' b = H b) → D.J c H'
  there : ∀ (c : Nat) (H : Hp) b, D.J c H → b ∈ D.rsv → H b ≠ none
theorem nd_at {μ : List Addr} (nd : μ.Nodup) {i j : Nat} {a : Addr} (h : μ[i]? = some a) (g : μ[j]? = some a) : i = j := by
  obtain ⟨h1, e1⟩ := List.getElem?_eq_some_iff.mp h
  obtain ⟨h2, e2⟩ := List.getElem?_eq_some_iff.mp g
  exact (List.getElem_inj nd).mp (e1.trans e2.symm)
theorem Rep.tr (R : Rep D μ L H) {i : Nat} {o : LO} (h : L.get i = some o) : ∃ a, μ[i]? = some a ∧ ObR D μ H o a := by
  have hi : i < μ.length := by rw [R.len]; exact R.top i o h
  refine ⟨μ[i], List.getElem?_eq_getElem hi, ?_⟩
  obtain ⟨o', e, r⟩ := R.ob i _ (List.getElem?_eq_getElem hi)
  rw [h] at e
  cases e
  exact r
theorem rd_upd {a : Addr} {o : HO} {b : Addr} {xs : List V} (h : H b = some (.tup xs)) (hb : b ≠ a) : upd H a o b = some (.tup xs) := by
  rw [upd_ne hb]; exact h
theorem rd_some {b : Addr} {xs : List V} (h : H b = some (.tup xs)) : H b ≠ none := by rw [h]; simp
theorem HT.put_some (v : LO) (t : HT) : ∀ i o, (t.put v i).get i = some o → o = v := by
  induction t with
  | nil =>
    intro i o h
    cases i with
    | zero => simp only [HT.put, HT.get, Option.some.injEq] at h; exact h.symm
    | succ j => simp only [HT.put, HT.get] at h; cases h
  | node w l r hl hr =>
    intro i o h
    cases i with
    | zero => simp only [HT.put, HT.get, Option.some.injEq] at h; exact h.symm
    | succ j =>
      simp only [HT.put] at h
      cases e : Nat.beq (Nat.mod j 2) 0 <;> rw [e] at h <;> simp only [cond_false, cond_true, HT.get, e] at h
      · exact hr _ _ h
      · exact hl _ _ h
theorem HT.put_ne (v : LO) (t : HT) : ∀ i j, i ≠ j → (t.put v i).get j = t.get j := by
  induction t with
  | nil =>
    intro i j hij
    cases i with
    | zero =>
      cases j with
      | zero => exact absurd rfl hij
      | succ j => simp only [HT.put, HT.get]; cases Nat.beq (Nat.mod j 2) 0 <;> rfl
    | succ i => rfl
  | node o l r hl hr =>
    intro i j hij
    cases i with
    | zero =>
      cases j with
      | zero => exact absurd rfl hij
      | succ j => rfl
    | succ i =>
      cases j with
      | zero => simp only [HT.put]; cases Nat.beq (Nat.mod i 2) 0 <;> rfl
      | succ j =>
        have hne : i ≠ j := fun z => hij (by rw [z])
        simp only [HT.put, HT.get]
        cases e : Nat.beq (Nat.mod i 2) 0 <;> cases e2 : Nat.beq (Nat.mod j 2) 0 <;> simp only [cond_false, cond_true, HT.get, e2]
        · have e3 : Nat.mod i 2 = Nat.mod j 2 := by
            have a1 : i % 2 ≠ 0 := fun z => by rw [show Nat.mod i 2 = 0 from z] at e; cases e
            have a2 : j % 2 ≠ 0 := fun z => by rw [show Nat.mod j 2 = 0 from z] at e2; cases e2
            show i % 2 = j % 2
            omega
          exact hr _ _ (half_ne hne e3)
        · have e3 : Nat.mod i 2 = Nat.mod j 2 := (Nat.eq_of_beq_eq_true e).trans (Nat.eq_of_beq_eq_true e2).symm
          exact hl _ _ (half_ne hne e3)
/-- an object's description, where the heap has grown, or another object of ours was written -/
theorem ObR.mono (e : Ext D μ H μ1 H1) {o : LO} {a : Addr} (h : ObR D μ H o a) (same : ∀ u, H a = some u → H1 a = some u) : ObR D μ1 H1 o a := by
  cases o with
  | lst xs => obtain ⟨ys, h1, h2⟩ := h; exact ⟨ys, same _ h1, h2.mono e⟩
  | dct ps => obtain ⟨ys, h1, h2⟩ := h; exact ⟨ys, same _ h1, RPs.mono e h2⟩
  | fdct ps => obtain ⟨od, ys, h1, h2⟩ := h; exact ⟨od, ys, same _ h1, RPs.mono e h2⟩
  | dead => obtain ⟨od, u, h1⟩ := h; exact ⟨od, u, same _ h1⟩
theorem Rep.trk (R : Rep D μ L H) {a : Addr} (h : a ∈ μ) : H a ≠ none := by
  obtain ⟨i, hi⟩ := List.getElem?_of_mem h
  obtain ⟨o, _, r⟩ := R.ob i a hi
  cases o with
  | lst xs => obtain ⟨ys, e, _⟩ := r; rw [e]; simp
  | dct ps => obtain ⟨ys, e, _⟩ := r; rw [e]; simp
  | fdct ps => obtain ⟨od, ys, e, _⟩ := r; rw [e]; simp
  | dead => obtain ⟨od, u, e⟩ := r; rw [e]; simp
/-- a new thing that is no object of ours (a tuple) -/
theorem ext_tup (G : D.Ok) (R : Rep D μ L H) {u : HO} {p : Addr} (hp : H p = none) : Ext D μ H μ (upd H p u) ∧ Rep D μ L (upd H p u) := by
  have nr : p ∉ D.rsv := fun z => G.there _ H p R.J z hp
  have nk : ∀ b, H b ≠ none → b ≠ p := fun b hb z => hb (z ▸ hp)
  have ext : Ext D μ H μ (upd H p u) := ⟨⟨[], by simp⟩, fun b xs r => rd_upd r (nk b (rd_some r)), fun b q hb _ _ => by rw [upd_ne (nk b (by rw [hb]; simp))]; exact hb, fun b o v hb => by rw [upd_ne (nk b (by rw [hb]; simp))]; exact hb, fun b hb => .inl hb⟩
  exact ⟨ext, R.len, R.nd, fun i a hi => by
    obtain ⟨o, e, r⟩ := R.ob i a hi
    exact ⟨o, e, r.mono ext fun u hu => by rw [upd_ne (nk a (by rw [hu]; simp))]; exact hu⟩, R.top, R.rs, G.keep _ _ _ R.J fun b hb => upd_ne fun z => nr (z ▸ hb)⟩
/-- a new object at a fresh address -/
theorem new_ok (G : D.Ok) (R : Rep D μ L H) {o : LO} {u : HO} {p : Addr} (hp : H p = none) (k : Nat → LH → T) (h : (LH.newK L o k).holds)
    (ho : ∀ e : Ext D μ H (μ ++ [p]) (upd H p u), ObR D (μ ++ [p]) (upd H p u) o p) :
    ∃ L' : LH, Ext D μ H (μ ++ [p]) (upd H p u) ∧ Rep D (μ ++ [p]) L' (upd H p u) ∧ (μ ++ [p])[L.n]? = some p ∧ L'.get L.n = some o ∧ (k L.n L').holds := by
  have nr : p ∉ D.rsv := fun z => G.there _ H p R.J z hp
  have nk : ∀ b, H b ≠ none → b ≠ p := fun b hb z => hb (z ▸ hp)
  have nm : p ∉ μ := fun z => R.trk z hp
  unfold LH.newK at h
  rw [HT.putK_eq] at h
  cases e : (L.t.put o L.n).get L.n with
  | none => rw [e] at h; exact h.elim
  | some w =>
    have ew := HT.put_some o L.t L.n w e
    subst ew
    rw [e] at h
    simp only [newK2, frN_eq] at h
    have ext : Ext D μ H (μ ++ [p]) (upd H p u) := ⟨⟨[p], rfl⟩, fun b xs r => rd_upd r (nk b (rd_some r)), fun b q hb _ _ => by rw [upd_ne (nk b (by rw [hb]; simp))]; exact hb, fun b o v hb => by rw [upd_ne (nk b (by rw [hb]; simp))]; exact hb, fun b hb => by
      rcases List.mem_append.mp hb with z | z
      · exact .inl z
      · exact .inr (.inl (by rw [List.mem_singleton.mp z]; exact hp))⟩
    have hn : (μ ++ [p])[L.n]? = some p := by rw [← R.len]; simp
    refine ⟨⟨Nat.succ L.n, L.t.put w L.n, L.c⟩, ext, ⟨?_, ?_, fun i a hi => ?_, fun i q hi => ?_, fun a ha => ?_, G.keep _ _ _ R.J fun b hb => upd_ne fun z => nr (z ▸ hb)⟩, hn, e, h⟩
    · simp [R.len]
    · exact List.nodup_append.mpr ⟨R.nd, by simp, fun a ha b hb z => nm (by rw [List.mem_singleton.mp hb] at z; exact z ▸ ha)⟩
    · by_cases hi' : i = L.n
      · subst hi'
        rw [hn] at hi
        cases hi
        exact ⟨w, e, ho ext⟩
      · have hlt : i < μ.length := by
          have := (List.getElem?_eq_some_iff.mp hi).1
          simp at this
          have := R.len
          omega
        rw [List.getElem?_append_left hlt] at hi
        obtain ⟨q, e1, r1⟩ := R.ob i a hi
        exact ⟨q, (HT.put_ne w L.t L.n i (Ne.symm hi')).trans e1, r1.mono ext fun v hv => by rw [upd_ne (nk a (by rw [hv]; simp))]; exact hv⟩
    · by_cases hi' : i = L.n
      · rw [hi']; exact Nat.lt_succ_self _
      · have e1 : L.get i = some q := (HT.put_ne w L.t L.n i (Ne.symm hi')).symm.trans hi
        exact Nat.lt_succ_of_lt (R.top i q e1)
    · rcases List.mem_append.mp ha with z | z
      · exact R.rs a z
      · rw [List.mem_singleton.mp z]; exact nr
/-- what may be written: no tuple, nothing locked -/
def wrB : HO → Bool
  | .tup _ => false
  | .frz _ _ => false
  | _ => true
/-- an object of ours is written -/
theorem put_ok (G : D.Ok) (R : Rep D μ L H) {i : Nat} {a : Addr} {o o0 : LO} {u u0 : HO} (hi : μ[i]? = some a) (h0 : L.get i = some o0) (ha : H a = some u0) (n1 : wrB u0 = true) (k : LH → T) (h : (LH.putK L i o k).holds)
    (ho : ∀ e : Ext D μ H μ (upd H a u), ObR D μ (upd H a u) o a) :
    ∃ L' : LH, Ext D μ H μ (upd H a u) ∧ Rep D μ L' (upd H a u) ∧ L'.get i = some o ∧ (∀ j, j ≠ i → L'.get j = L.get j) ∧ (k L').holds := by
  have hm : a ∈ μ := List.mem_of_getElem? hi
  have nr : a ∉ D.rsv := R.rs a hm
  unfold LH.putK at h
  rw [HT.putK_eq] at h
  have ext : Ext D μ H μ (upd H a u) := ⟨⟨[], by simp⟩, fun b xs r => rd_upd r (fun z => by
      subst z
      rw [ha] at r
      cases (Option.some.inj r)
      cases n1), fun b q hb hn _ => by rw [upd_ne (fun z => hn (by subst z; exact hm))]; exact hb, fun b o v hb => by
      rw [upd_ne (fun z => by
        subst z
        rw [ha] at hb
        cases (Option.some.inj hb)
        cases n1)]
      exact hb, fun b hb => .inl hb⟩
  have hg : (L.t.put o i).get i = some o := HT.get_put_same o L.t i (by show (L.get i).isSome = true; rw [h0]; rfl)
  have ho' : ∀ j, j ≠ i → (L.t.put o i).get j = L.t.get j := fun j hj => HT.put_ne o L.t i j (Ne.symm hj)
  refine ⟨⟨L.n, L.t.put o i, L.c⟩, ext, ⟨R.len, R.nd, fun j b hj => ?_, fun j q hj => ?_, R.rs, G.keep _ _ _ R.J fun b hb => upd_ne fun z => nr (z ▸ hb)⟩, hg, ho', h⟩
  · by_cases hj' : j = i
    · subst hj'
      rw [hi] at hj
      cases hj
      exact ⟨o, hg, ho ext⟩
    · obtain ⟨q, e1, r1⟩ := R.ob j b hj
      exact ⟨q, (ho' j hj').trans e1, r1.mono ext fun v hv => by rw [upd_ne (fun z => hj' (by subst z; exact nd_at R.nd hj hi))]; exact hv⟩
  · by_cases hj' : j = i
    · subst hj'; exact R.top j o0 h0
    · exact R.top j q ((ho' j hj').symm.trans hj)
end
end Ev

set_option Elab.async false
set_option linter.all false
set_option maxRecDepth 100000
set_option maxHeartbeats 4000000
/-! EvFz: things that are written no more; lists that are read though locked. -/
namespace Ev
open PySem PySem.Spec PyProof.Rows L2
/-- R holds behind some lockings -/
inductive Fz (R : Hp → Prop) : Hp → Prop where
  | done {H : Hp} : R H → Fz R H
  | step {H : Hp} {d : Addr} {u : HO} : H d = some u → Mut (some u) → (∀ od, Fz R (upd H d (.frz od u))) → Fz R H
section
variable {X : Cx} {pins : List (Addr × Obj)} {σ : L2.St} {H : Hp} {s : Shared} {Q : VK}
theorem fz_inv {R : Hp → Prop} (I : Inv X pins σ H s) (h : Fz R H) : ∃ H', Inv X pins σ H' s ∧ R H' := by
  induction h with
  | done r => exact ⟨_, I, r⟩
  | step h1 h2 h3 ih =>
    obtain ⟨od, I'⟩ := I.lock h1 h2
    exact ih od I'
theorem fz_ep {u : Value} (h : EP X pins σ (fun v H1 => Fz (Q v) H1) u s) : EP X pins σ Q u s := by
  obtain ⟨v, H', I, r, q⟩ := h
  obtain ⟨H2, I2, q2⟩ := fz_inv I q
  exact ⟨v, H2, I2, r, q2⟩
/-- a list locked as soon as it is laid -/
theorem fz_new {R : Hp → Prop} {p : Addr} {xs : List V} (h : ∀ od, R (upd H p (.frz od (.lst xs)))) : Fz R (upd H p (.lst xs)) :=
  .step (d := p) (u := .lst xs) upd_same trivial fun od => .done (by rw [upd_upd]; exact h od)
theorem pe_fz {e : Expr} {t : TE} (h : PE X e t) : PE X e fun σ H Q => t σ H fun v H1 => Fz (Q v) H1 := ⟨fun pins s σ H Q I q => thn (h.run pins s σ H _ I q) fun _ _ => fz_ep⟩
theorem ps_fz {st : Stmt} {t : TS} (h : PS X st t) : PS X st fun W σ H => Fz (fun H' => t W σ H') H := ⟨fun pins s σ H W I q => by
  obtain ⟨H2, I2, q2⟩ := fz_inv I q
  exact h.run pins s σ H2 W I2 q2⟩
/-! ### lists that are read -/
theorem lstR {l : Addr} {xs : List V} (I : Inv X pins σ H s) (h : Rd H l (.lst xs)) : xs.length ≤ sizeLine ∧ ∃ its : List Value, ∃ n : Nat, Vals xs its ∧ xs.length = its.length ∧ s.heap.get? l = some ⟨.type "list", none, .seq its.toArray n, #[]⟩ := by
  obtain ⟨a, its, n, b, c⟩ := h.ok I.hok
  exact ⟨a, its, n, b, b.length, c⟩
def rCatR : R2 := fun x y H Q => ∃ l b xs zs, x = .ref l ∧ y = .ref b ∧ Rd H l (.lst xs) ∧ Rd H b (.lst zs) ∧ xs.length + zs.length ≤ sizeLine ∧ ∀ p, H p = none → Q (.ref p) (upd H p (.lst (xs ++ zs)))
theorem op_catR : OpR X (binaryOp .Add) rCatR := by
  rintro pins s σ H _ _ v u Q I hx hy ⟨l, b, xs, zs, rfl, rfl, h1, h2, hz, q⟩
  cases hx
  cases hy
  obtain ⟨_, i1, n1, v1, l1, g1⟩ := lstR I h1
  obtain ⟨_, i2, n2, v2, l2, g2⟩ := lstR I h2
  have hsum : i1.toArray.size + i2.toArray.size ≤ sizeLine := by simp only [List.size_toArray]; omega
  refine PySem.P.add_list g1 g2 ?_ hsum
  rw [show i1.toArray ++ i2.toArray = (i1 ++ i2).toArray from by simp]
  have hl : (xs ++ zs).length ≤ sizeLine := by simp only [List.length_append]; omega
  exact ⟨.ref _, _, I.lnew (t' := s.toks) (v1.append v2) hl, rfl, q _ I.fresh⟩
def rRepR : R2 := fun x y H Q => ∃ l n xs, x = .ref l ∧ y = .int (Int.ofNat n) ∧ Rd H l (.lst xs) ∧ n ≤ sizeLine ∧ xs.length * n ≤ sizeLine ∧ ∀ p, H p = none → Q (.ref p) (upd H p (.lst (List.replicate n xs).flatten))
theorem op_repR : OpR X (binaryOp .Mult) rRepR := by
  rintro pins s σ H _ _ v u Q I hx hy ⟨l, n, xs, rfl, rfl, h1, hn, hz, q⟩
  cases hx
  have ss : sizeLine = 16777216 := sizeLine_eq
  have b1 : (-(2 ^ 63) : Int) ≤ Int.ofNat n := by have : (0 : Int) ≤ Int.ofNat n := Int.natCast_nonneg n; omega
  have b2 : Int.ofNat n < (2 ^ 63 : Int) := Int.lt_of_le_of_lt (Int.ofNat_le.mpr (show n ≤ 16777216 from ss ▸ hn)) (by decide)
  obtain ⟨k, hk, ek⟩ : ∃ k : Int, Int.ofNat n = k ∧ n = k.toNat := ⟨_, rfl, rfl⟩
  rw [hk] at hy b1 b2
  rw [ek] at hz q
  clear hk ek hn
  obtain ⟨t, rfl⟩ := hy
  obtain ⟨_, its, m, vv, ll, g⟩ := lstR I h1
  have size : its.toArray.size * k.toNat ≤ sizeLine := by
    rw [List.size_toArray, ← ll]
    exact hz
  have cap : ¬ its.toArray.size * k.toNat > (2 ^ 63 - 1) / 8 := by
    have : sizeLine ≤ (2 ^ 63 - 1) / 8 := by decide
    omega
  have fit : ¬ (!Builtin.List.listFitsIndex k) = true := by rw [fitsIndex_both b1 b2]; simp
  have long : ¬ Builtin.List.listTooLong (its.toArray.size * k.toNat) = true := by rw [notLongL size]; simp
  have fold : ∀ m : Nat, List.foldl (fun x1 x2 => x1 ++ x2) #[] (List.replicate m its.toArray) = (List.replicate m its).flatten.toArray := fun m => by
    simpa using foldl_rep its m []
  have new : List.foldl (fun x1 x2 => x1 ++ x2) #[] (List.replicate (if its.toArray.isEmpty = true then 0 else k.toNat) its.toArray) = (List.replicate k.toNat its).flatten.toArray := by
    rw [fold]
    cases its with
    | nil => simp
    | cons a r => simp
  refine wpAny_binaryOp_repeat_ref (T := "list") (U := "int") (by decide) ⟨_, g, rfl⟩ (fun s' => typeIs_int s' k t) noFill_list_mul F.fills_int_mul F.slot_int_rmul repeat_list F.slot_int_index.lookup
    (call_meets F.slot_int_rmul (typeIs_int s k t) F.entry_int_rmul (F.args_int_rmul_2 _ _) (int___rmul___int_list k t l its.toArray m) ⟨g, rfl, ⟨_, g, rfl⟩, ?_⟩)
  refine call_meets F.slot_list_mul ⟨_, g, rfl⟩ F.entry_list_mul (F.args_list_mul_2 _ _) (AutoListH.list___mul___list_int_3 l its.toArray m k t fit cap long) ⟨g, ?_⟩
  rw [new]
  have hl : (List.replicate k.toNat xs).flatten.length ≤ sizeLine := by rw [PyProof.Rows.lm_len_rep_flat, Nat.mul_comm]; exact hz
  exact ⟨.ref _, _, I.lnew (t' := s.toks) (vv.rep k.toNat) hl, rfl, q _ I.fresh⟩
def rExtR : V → List V → Hp → VK → Prop := fun x vs H Q => ∃ l b xs zs, x = .ref l ∧ vs = [.ref b] ∧ H l = some (.lst xs) ∧ Rd H b (.lst zs) ∧ xs.length + zs.length ≤ sizeLine ∧ Q .non (upd H l (.lst (xs ++ zs)))
theorem mt_extR : MtM X "list.extend" rExtR := by
  rintro pins s σ H _ _ v us Q I hx hv ⟨l, b, xs, zs, rfl, rfl, h1, h2, hz, q⟩
  cases hx
  obtain ⟨u, rfl, hu⟩ := hv.one
  cases hu
  obtain ⟨_, i1, n1, v1, l1, g1⟩ := lstR I (.inl h1)
  obtain ⟨_, i2, n2, v2, l2, g2⟩ := lstR I h2
  have sum : i1.toArray.size + i2.toArray.size ≤ sizeLine := by simp only [List.size_toArray]; omega
  have long : ¬ (!i1.toArray.isEmpty && Builtin.List.listTooLong (i1.toArray.size + i2.toArray.size)) = true := by rw [notLongL sum]; simp
  have s1 : i1.toArray.size ≤ sizeLine := by omega
  have s2 : i2.toArray.size ≤ sizeLine := by omega
  have hl : (xs ++ zs).length ≤ sizeLine := by simp only [List.length_append]; omega
  refine call_meets F.slot_list_extend ⟨_, g1, rfl⟩ F.entry_list_extend (F.args_list_extend_2 _ _) (AutoSeq1.list_extend_list_list_0 l i1.toArray n1 b i2.toArray n2 long (by rw [List.size_toArray]; omega) (by omega)) ⟨g1, g2, ?_⟩
  exact ⟨.non, _, I.lset (its' := i1 ++ i2) h1 g1 (by simp) (v1.append v2) hl, rfl, q⟩
end
end Ev

set_option Elab.async false
set_option linter.all false
set_option maxRecDepth 100000
set_option maxHeartbeats 4000000
/-! EvOps: each operation by values: where the evaluator's run holds, the layer's rule is served. -/
namespace Ev
open PySem PySem.Spec PyProof.Rows L2
section
variable {D : Gd} {μ : List Addr} {H : Hp} {L : LH} {Q : VK} {k : KV} {x y : EV} {u w : V}
theorem line_of {n : Nat} {k : Unit → T} (h : (lineB n k).holds) : n ≤ sizeLine ∧ (k ()).holds := by
  unfold lineB at h
  cases e : Nat.ble n 16777216 with
  | true => rw [e] at h; exact ⟨by rw [sizeLine_eq]; exact Nat.le_of_ble_eq_true e, h⟩
  | false => rw [e] at h; exact h.elim
theorem below_of {n : Nat} {k : Unit → T} (h : (belowB n k).holds) : n < sizeLine ∧ (k ()).holds := by
  unfold belowB at h
  cases e : Nat.blt n 16777216 with
  | true => rw [e] at h; exact ⟨by rw [sizeLine_eq]; exact Nat.le_of_ble_eq_true e, h⟩
  | false => rw [e] at h; exact h.elim
theorem ifB_of {c : Bool} {a b : Unit → T} (h : (ifB c a b).holds) : (c = true ∧ (a ()).holds) ∨ (c = false ∧ (b ()).holds) := by
  cases c with
  | true => exact .inl ⟨rfl, h⟩
  | false => exact .inr ⟨rfl, h⟩
theorem int_of {f : Int → T} (h : (intK x f).holds) : ∃ i, x = .int i ∧ (f i).holds := by
  cases x <;> first | exact ⟨_, rfl, h⟩ | exact h.elim
theorem ref_of {f : Nat → T} (h : (refK x f).holds) : ∃ i, x = .ref i ∧ (f i).holds := by
  cases x <;> first | exact ⟨_, rfl, h⟩ | exact h.elim
theorem lst_of {o : Option LO} {f : List EV → T} (h : (lstK o f).holds) : ∃ xs, o = some (.lst xs) ∧ (f xs).holds := by
  cases o with
  | none => exact h.elim
  | some o => cases o with
    | lst xs => exact ⟨xs, rfl, h⟩
    | dct ps => exact h.elim
    | fdct ps => exact h.elim
    | dead => exact h.elim
theorem someK_of {α : Type} {o : Option α} {f : α → T} (h : (someK o f).holds) : ∃ a, o = some a ∧ (f a).holds := by
  cases o with
  | none => exact h.elim
  | some a => exact ⟨a, rfl, h⟩
theorem one_of {vs : List EV} {f : EV → T} (h : (one vs f).holds) : ∃ v, vs = [v] ∧ (f v).holds := by
  match vs, h with
  | [v], h => exact ⟨v, rfl, h⟩
theorem pair_of {vs : List EV} {f : EV → EV → T} (h : (pairK vs f).holds) : ∃ v w, vs = [v, w] ∧ (f v w).holds := by
  match vs, h with
  | v :: r, h =>
    obtain ⟨w, rfl, h⟩ := one_of (show (one r fun w => f v w).holds from h)
    exact ⟨v, w, rfl, h⟩
theorem rv_int {i : Int} (r : RV D μ H (.int i) u) : u = .int i := by cases r; rfl
theorem rv_ref {i : Nat} (r : RV D μ H (.ref i) u) : ∃ a, u = .ref a ∧ μ[i]? = some a := by cases r with | ref h => exact ⟨_, rfl, h⟩
/-- a list of ours -/
theorem lst_at (R : Rep D μ L H) {i : Nat} (r : RV D μ H (.ref i) u) {xs : List EV} (h : L.get i = some (.lst xs)) : ∃ a ys, u = .ref a ∧ μ[i]? = some a ∧ H a = some (.lst ys) ∧ RVs D μ H xs ys := by
  obtain ⟨a, rfl, e⟩ := rv_ref r
  obtain ⟨b, e2, ys, h1, h2⟩ := R.tr h
  rw [e] at e2
  cases e2
  exact ⟨a, ys, rfl, e, h1, h2⟩
/-- a new locked list -/
theorem new_vl (G : D.Ok) (R : Rep D μ L H) {xs : List EV} {us : List V} {p : Addr} (hp : H p = none) (r : RVs D μ H xs us) (od : Obj) : Ext D μ H μ (upd H p (.frz od (.lst us))) ∧ Rep D μ L (upd H p (.frz od (.lst us))) ∧ RV D μ (upd H p (.frz od (.lst us))) (.vl xs) (.ref p) := by
  obtain ⟨ext, R'⟩ := ext_tup (u := .frz od (.lst us)) G R hp
  exact ⟨ext, R', .vl upd_same (r.mono ext)⟩
theorem vl_of {f : List EV → T} (h : (vlK x f).holds) : ∃ xs, x = .vl xs ∧ (f xs).holds := by
  cases x <;> first | exact ⟨_, rfl, h⟩ | exact h.elim
/-- a list, of ours or locked -/
theorem row_of (R : Rep D μ L H) (r : RV D μ H x u) {f : List EV → T} (h : (rowK x L f).holds) : ∃ a xs us, u = .ref a ∧ Rd H a (.lst us) ∧ RVs D μ H xs us ∧ (f xs).holds := by
  cases r with
  | vl h1 h2 => exact ⟨_, _, _, rfl, .inr ⟨_, h1⟩, h2, h⟩
  | @ref i a e =>
    have h : (lstK (L.get i) f).holds := h
    obtain ⟨xs, e1, g⟩ := lst_of h
    obtain ⟨b, e2, ys, h1, h2⟩ := R.tr e1
    rw [e] at e2
    cases e2
    exact ⟨_, _, _, rfl, .inl h1, h2, g⟩
  | _ => exact h.elim
theorem dct_at (R : Rep D μ L H) {i : Nat} (r : RV D μ H (.ref i) u) {ps : List (EV × EV)} (h : L.get i = some (.dct ps)) : ∃ a kvs, u = .ref a ∧ μ[i]? = some a ∧ H a = some (.dK kvs) ∧ RPs D μ H ps kvs := by
  obtain ⟨a, rfl, e⟩ := rv_ref r
  obtain ⟨b, e2, ys, h1, h2⟩ := R.tr h
  rw [e] at e2
  cases e2
  exact ⟨a, ys, rfl, e, h1, h2⟩
theorem RPs.length : ∀ {ps : List (EV × EV)} {qs : List (Key × V)}, RPs D μ H ps qs → ps.length = qs.length
  | [], [], _ => rfl
  | [], _ :: _, h => h.elim
  | _ :: _, [], h => h.elim
  | _ :: _, _ :: _, ⟨_, _, c⟩ => congrArg (· + 1) (RPs.length c)
theorem toS_length (s : List Nat) : (toS s).length = s.length := by show s.toArray.size = s.length; simp
/-! ### truth -/
theorem nilB_of {α : Type} {xs : List α} {k : Bool → T} (h : (nilB xs k).holds) : (k (!xs.isEmpty)).holds := by cases xs <;> exact h
theorem isEmpty_RVs {xs : List EV} {ys : List V} (r : RVs D μ H xs ys) : xs.isEmpty = ys.isEmpty := by cases r <;> rfl
theorem tru_V (R : Rep D μ L H) (r : RV D μ H x u) {k : Bool → T} (h : (tru L x k).holds) : ∃ b, TruV D.K u H b ∧ (k b).holds := by
  cases r with
  | non => exact ⟨false, rfl, h⟩
  | bl b => exact ⟨b, rfl, h⟩
  | int i => exact ⟨nzI i, by show nzI i = (i != 0); cases i with
      | ofNat n => cases n <;> rfl
      | negSucc n => rfl, h⟩
  | str s =>
    obtain ⟨h1, h2⟩ := line_of (show (lineB s.length fun _ => nilB s k).holds from h)
    refine ⟨!s.isEmpty, ⟨by rw [toS_length]; exact h1, ?_⟩, nilB_of h2⟩
    rw [toS_length]
    cases s <;> rfl
  | tup hs hr => exact ⟨_, .inr (.inl ⟨_, hs.sq, by rw [← isEmpty_RVs hr]⟩), nilB_of h⟩
  | @ref i a e =>
    have h : (truO (L.get i) k).holds := h
    cases q : L.get i with
    | none => rw [q] at h; exact h.elim
    | some o =>
      rw [q] at h
      cases o with
      | lst xs =>
        obtain ⟨a', ys, e1, e2, h1, h2⟩ := lst_at R (.ref e) q
        cases e1
        exact ⟨_, .inl ⟨_, SqL.of h1, by rw [← isEmpty_RVs h2]⟩, nilB_of h⟩
      | dct ps =>
        obtain ⟨a', ys, e1, e2, h1, h2⟩ := dct_at R (.ref e) q
        cases e1
        refine ⟨_, .inr (.inr ⟨_, h1, ?_⟩), nilB_of h⟩
        cases ps <;> cases ys <;> first | rfl | exact h2.elim
      | fdct ps => exact h.elim
      | dead => exact h.elim
  | vl h1 h2 => exact ⟨_, .inl ⟨_, .inl (.inr ⟨_, h1⟩), by rw [← isEmpty_RVs h2]⟩, nilB_of h⟩
  | fn i => exact h.elim
  | ty e => exact h.elim
  | opq => exact h.elim
  | kd e => exact h.elim
/-! ### arithmetic, + and * of lists -/
theorem add_V (G : D.Ok) (R : Rep D μ L H) (rx : RV D μ H x u) (ry : RV D μ H y w) (h : (addE x y L k).holds) (p : PostV D μ H k Q) : rI0 (fun i j => .int (i + j)) u w H Q ∨ rCat u w H Q ∨ rCatR u w H (fun v H1 => Fz (Q v) H1) := by
  cases rx with
  | int i =>
    obtain ⟨j, rfl, h1⟩ := int_of (show (intK y _).holds from h)
    rw [frI_eq] at h1
    rw [rv_int ry]
    exact .inl ⟨i, j, rfl, rfl, p _ L μ H _ Ext.refl R (.int _) h1⟩
  | @ref i a e =>
    obtain ⟨j, rfl, g⟩ := ref_of (show (refK y _).holds from h)
    obtain ⟨xs, e1, g⟩ := lst_of g
    obtain ⟨ys, e2, g⟩ := lst_of g
    obtain ⟨h1, g⟩ := line_of g
    obtain ⟨a', us, q1, q2, q3, q4⟩ := lst_at R (.ref e) e1
    cases q1
    obtain ⟨b, ws, q5, q6, q7, q8⟩ := lst_at R ry e2
    subst q5
    refine .inr (.inl ⟨a, b, us, ws, rfl, rfl, q3, q7, by rw [← q4.length, ← q8.length]; exact h1, fun pp hp => ?_⟩)
    obtain ⟨L', ext, R', en, _, hk⟩ := new_ok (u := .lst (us ++ ws)) G R hp _ g fun e => ⟨_, upd_same, (q4.mono e).append (q8.mono e)⟩
    exact p _ L' _ _ _ ext R' (.ref en) hk
  | vl h1 h2 =>
    obtain ⟨ys, rfl, g⟩ := vl_of h
    obtain ⟨hl, g⟩ := line_of g
    rw [appK_eq] at g
    cases ry with
    | vl h3 h4 =>
      refine .inr (.inr ⟨_, _, _, _, rfl, rfl, .inr ⟨_, h1⟩, .inr ⟨_, h3⟩, by rw [← h2.length, ← h4.length]; exact hl, fun pp hp => fz_new fun od => ?_⟩)
      obtain ⟨e1, R1, r1⟩ := new_vl G R hp (h2.append h4) od
      exact p _ L μ _ _ e1 R1 r1 g
  | _ => exact h.elim
theorem big_eq : big = 2 ^ bigE := by unfold big; rfl
theorem okB_of {b : Nat} {i : Int} {k : Unit → T} (h : (okB b i k).holds) : i.natAbs < b ∧ (k ()).holds := by
  cases i with
  | ofNat n =>
    simp only [okB] at h
    cases e : Nat.blt n b with
    | true => rw [e] at h; exact ⟨Nat.le_of_ble_eq_true e, h⟩
    | false => rw [e] at h; exact h.elim
  | negSucc n =>
    simp only [okB] at h
    cases e : Nat.blt (Nat.succ n) b with
    | true => rw [e] at h; exact ⟨Nat.le_of_ble_eq_true e, h⟩
    | false => rw [e] at h; exact h.elim
theorem okI_of {i : Int} {k : Unit → T} (h : (okI i k).holds) : i.natAbs < big ∧ (k ()).holds := okB_of h
theorem posI_of {j : Int} {k : Unit → T} (h : (posI j k).holds) : 0 < j ∧ (k ()).holds := by
  cases j with
  | ofNat n =>
    cases n with
    | zero => exact h.elim
    | succ m => exact ⟨Int.natCast_pos.mpr (Nat.succ_pos m), h⟩
  | negSucc n => exact h.elim
theorem mul_V (G : D.Ok) (R : Rep D μ L H) (rx : RV D μ H x u) (ry : RV D μ H y w) (h : (mulE x y L k).holds) (p : PostV D μ H k Q) : rI CMulW (fun i j => .int (i * j)) u w H Q ∨ rRep u w H Q ∨ rRepR u w H (fun v H1 => Fz (Q v) H1) := by
  cases rx with
  | int i =>
    obtain ⟨j, rfl, g⟩ := int_of (show (intK y _).holds from h)
    obtain ⟨h1, g⟩ := okI_of g
    obtain ⟨h2, g⟩ := okI_of g
    rw [frI_eq] at g
    rw [rv_int ry]
    rw [big_eq] at h1 h2
    exact .inl ⟨i, j, rfl, rfl, wide_mul h1 h2 (by decide) (by decide) (by decide), p _ L μ H _ Ext.refl R (.int _) g⟩
  | @ref i a e =>
    obtain ⟨j, rfl, g⟩ := int_of (show (intK y _).holds from h)
    cases j with
    | negSucc n => exact g.elim
    | ofNat n =>
      obtain ⟨xs, e1, g⟩ := lst_of (show (lstK (L.get i) _).holds from g)
      obtain ⟨h1, g⟩ := line_of g
      obtain ⟨h2, g⟩ := line_of g
      rw [frcK_eq] at g
      obtain ⟨a', us, q1, q2, q3, q4⟩ := lst_at R (.ref e) e1
      cases q1
      rw [rv_int ry]
      have hs : sizeLine = 16777216 := sizeLine_eq
      refine .inr (.inl ⟨a, _, us, rfl, rfl, q3, by have : (0 : Int) ≤ Int.ofNat n := Int.natCast_nonneg n; omega, by show ((n : Nat) : Int) < 2 ^ 63; omega, by rw [← q4.length]; exact h1, fun pp hp => ?_⟩)
      obtain ⟨L', ext, R', en, _, hk⟩ := new_ok (u := .lst (List.replicate n us).flatten) G R hp _ g fun e => ⟨_, upd_same, RVs.rep n (q4.mono e)⟩
      exact p _ L' _ _ _ ext R' (.ref en) hk
  | vl h1 h2 =>
    obtain ⟨j, rfl, g⟩ := int_of (show (intK y _).holds from h)
    cases j with
    | negSucc n => exact g.elim
    | ofNat n =>
      simp only [mulV] at g
      obtain ⟨hl, g⟩ := line_of g
      obtain ⟨hn, g⟩ := line_of g
      rw [frcK_eq] at g
      refine .inr (.inr ⟨_, n, _, rfl, rv_int ry, .inr ⟨_, h1⟩, hn, by rw [← h2.length]; exact hl, fun pp hp => fz_new fun od => ?_⟩)
      obtain ⟨e1, R1, r1⟩ := new_vl G R hp (RVs.rep n h2) od
      exact p _ L μ _ _ e1 R1 r1 g
  | _ => exact h.elim
theorem pow_V (R : Rep D μ L H) {i j : Int} (h : (powI i j L k).holds) (p : PostV D μ H k Q) : CPow i j ∧ Q (.int (i ^ j.toNat)) H := by
  cases j with
  | negSucc n => exact h.elim
  | ofNat n =>
    simp only [powI] at h
    cases e : Nat.ble n 1000000 with
    | false => rw [e] at h; exact h.elim
    | true =>
      rw [e] at h
      cases e2 : Nat.blt i.natAbs 18446744073709551616 with
      | false => rw [e2] at h; exact h.elim
      | true =>
        rw [e2] at h
        simp only [frI_eq] at h
        have h1 : n ≤ 1000000 := Nat.le_of_ble_eq_true e
        have h2 : i.natAbs < 18446744073709551616 := Nat.le_of_ble_eq_true e2
        exact ⟨⟨Int.natCast_nonneg n, by show ((n : Nat) : Int) ≤ 1000000; omega, h2⟩, p _ L μ H _ Ext.refl R (.int _) h⟩
end
end Ev

set_option Elab.async false
set_option linter.all false
set_option maxRecDepth 100000
set_option maxHeartbeats 4000000
/-! EvOps2: ==, order, in, subscripts, stores. -/
namespace Ev
open PySem PySem.Spec PyProof.Rows L2
/-! ### data -/
mutual
def py : Dt → PyData
  | .non => .none
  | .bl b => .bool b
  | .int i => .int i
  | .str s => .str (toS s)
  | .lst xs => .list (pys xs)
  | .tup xs => .tuple (pys xs)
def pys : List Dt → List PyData
  | [] => []
  | x :: r => py x :: pys r
end
theorem eqI_eq (i j : Int) : eqI i j = (i == j) := by
  rw [Bool.beq_eq_decide_eq]
  cases i <;> cases j <;> simp only [eqI]
  · rw [Bool.eq_iff_iff, Nat.beq_eq, decide_eq_true_eq]
    exact ⟨fun h => by rw [h], fun h => by injection h⟩
  · exact (decide_eq_false (fun h => nomatch h)).symm
  · exact (decide_eq_false (fun h => nomatch h)).symm
  · rw [Bool.eq_iff_iff, Nat.beq_eq, decide_eq_true_eq]
    exact ⟨fun h => by rw [h], fun h => by injection h⟩
theorem beqNs_iff : ∀ (a b : List Nat), beqNs a b = true ↔ a = b
  | [], [] => by simp [beqNs]
  | [], _ :: _ => by simp [beqNs]
  | _ :: _, [] => by simp [beqNs]
  | x :: a, y :: b => by
    simp only [beqNs]
    cases e : Nat.beq x y with
    | true =>
      have h := Nat.eq_of_beq_eq_true e
      subst h
      simp only [List.cons.injEq, true_and]
      exact beqNs_iff a b
    | false =>
      have h : x ≠ y := fun z => by subst z; simp at e
      simp [h]
theorem toS_inj {a b : List Nat} : toS a = toS b ↔ a = b := by
  refine ⟨fun h => ?_, fun h => by rw [h]⟩
  have h1 : a.toArray = b.toArray := by injection h
  simpa using h1
theorem beqNs_eq (a b : List Nat) : beqNs a b = (toS a == toS b) := by
  rw [Bool.beq_eq_decide_eq, Bool.eq_iff_iff, beqNs_iff, decide_eq_true_eq, toS_inj]
theorem b2I_eq (b : Bool) : b2I b = if b then 1 else 0 := by cases b <;> rfl
mutual
theorem eqD_eq : ∀ (d e : Dt), PyData.eqv (py d) (py e) = eqD d e
  | .non, e => by cases e <;> simp [py, PyData.eqv, eqD]
  | .bl a, e => by cases e <;> simp [py, PyData.eqv, eqD, eqI_eq, b2I_eq] <;> first | done | (rename_i b; cases a <;> cases b <;> rfl)
  | .int i, e => by cases e <;> simp [py, PyData.eqv, eqD, eqI_eq, b2I_eq]
  | .str x, e => by cases e <;> simp [py, PyData.eqv, eqD, beqNs_eq]
  | .lst xs, e => by
    cases e with
    | lst ys => simp only [py, PyData.eqv, eqD]; exact eqDs_eq xs ys
    | _ => simp [py, PyData.eqv, eqD]
  | .tup xs, e => by
    cases e with
    | tup ys => simp only [py, PyData.eqv, eqD]; exact eqDs_eq xs ys
    | _ => simp [py, PyData.eqv, eqD]
theorem eqDs_eq : ∀ (d e : List Dt), PyData.eqvAll (pys d) (pys e) = eqDs d e
  | [], [] => by simp [pys, PyData.eqvAll, eqDs]
  | [], _ :: _ => by simp [pys, PyData.eqvAll, eqDs]
  | _ :: _, [] => by simp [pys, PyData.eqvAll, eqDs]
  | x :: xs, y :: ys => by
    simp only [pys, PyData.eqvAll, eqDs, eqD_eq x y, eqDs_eq xs ys]
    cases eqD x y <;> rfl
end
theorem okS_ok : ∀ (s : List Nat), okS s = true → ∀ c ∈ s, c < 1114112
  | [], _, c, h => by simp at h
  | a :: r, e, c, h => by
    simp only [okS] at e
    cases q : Nat.blt a 1114112 with
    | false => rw [q] at e; cases e
    | true =>
      rw [q] at e
      rcases List.mem_cons.mp h with z | z
      · rw [z]; exact Nat.le_of_ble_eq_true q
      · exact okS_ok r e c z
theorem strOk_of {s : List Nat} (h : okS s = true) : PyData.strOk (toS s) = true := by
  show (s.toArray.all fun c => decide (c < 0x110000)) = true
  simp only [List.all_toArray, List.all_eq_true, decide_eq_true_eq]
  exact okS_ok s h
section
variable {D : Gd} {μ : List Addr} {H : Hp} {L : LH}
/-- how deep -/
def fits (n : Nat) (d : PyData) : Prop := d.canLay0 = true ∧ d.depth ≤ n
def fitsAll (n : Nat) (ds : List PyData) : Prop := PyData.canLayAll0 ds = true ∧ PyData.depthAll ds ≤ n
theorem mapO_ok {f : EV → Option Dt} {n : Nat} (hf : ∀ v u t, RV D μ H v u → f v = some t → Dp D.K H u (py t) ∧ fits n (py t)) : ∀ {vs : List EV} {us : List V} {ts : List Dt}, RVs D μ H vs us → mapO f vs = some ts → DpAll D.K H us (pys ts) ∧ fitsAll n (pys ts)
  | _, _, ts, .nil, e => by
    simp only [mapO, Option.some.injEq] at e
    subst e
    exact ⟨.nil, rfl, Nat.zero_le _⟩
  | v :: vs, _, ts, .cons r rs, e => by
    simp only [mapO] at e
    cases q : f v with
    | none => rw [q] at e; cases e
    | some t =>
      rw [q] at e
      cases q2 : mapO f vs with
      | none => rw [q2] at e; cases e
      | some us =>
        rw [q2] at e
        simp only [Option.some.injEq] at e
        subst e
        obtain ⟨h1, h2, h3⟩ := hf _ _ _ r q
        obtain ⟨h4, h5, h6⟩ := mapO_ok hf rs q2
        exact ⟨.cons h1 h4, by simp only [pys, PyData.canLayAll0, h2, h5]; rfl, by simp only [pys, PyData.depthAll]; omega⟩
theorem toD_ok (R : Rep D μ L H) : ∀ (n : Nat) (v : EV) (u : V) (t : Dt), RV D μ H v u → toD L n v = some t → Dp D.K H u (py t) ∧ fits n (py t)
  | 0, _, _, _, _, e => by simp [toD] at e
  | n + 1, v, u, t, r, e => by
    have ih := toD_ok R n
    cases r with
    | non => simp only [toD, Option.some.injEq] at e; subst e; exact ⟨.non, rfl, Nat.zero_le _⟩
    | bl b => simp only [toD, Option.some.injEq] at e; subst e; exact ⟨.bl b, rfl, Nat.zero_le _⟩
    | int i => simp only [toD, Option.some.injEq] at e; subst e; exact ⟨.int i, rfl, Nat.zero_le _⟩
    | str s =>
      simp only [toD, dtS] at e
      cases q : okS s with
      | false => rw [q] at e; cases e
      | true => rw [q] at e; simp only [Option.some.injEq] at e; subst e; exact ⟨.str _, strOk_of q, Nat.zero_le _⟩
    | @tup xs ys a hs hr =>
      simp only [toD] at e
      cases q : mapO (toD L n) xs with
      | none => rw [q] at e; cases e
      | some ts =>
        rw [q] at e
        simp only [dtT, Option.some.injEq] at e
        subst e
        obtain ⟨h1, h2, h3⟩ := mapO_ok ih hr q
        exact ⟨.tup hs.sq h1, h2, by simp only [py, PyData.depth]; omega⟩
    | @ref i a he =>
      simp only [toD] at e
      cases q0 : L.get i with
      | none => rw [q0] at e; cases e
      | some o =>
        rw [q0] at e
        cases o with
        | dct ps => cases e
        | fdct ps => cases e
        | dead => cases e
        | lst xs =>
          simp only [lstO, obD] at e
          cases q : mapO (toD L n) xs with
          | none => rw [q] at e; cases e
          | some ts =>
            rw [q] at e
            simp only [dtL, Option.some.injEq] at e
            subst e
            obtain ⟨b, ys, e1, e2, h4, h5⟩ := lst_at R (.ref he) q0
            cases e1
            obtain ⟨h1, h2, h3⟩ := mapO_ok ih h5 q
            exact ⟨.lst (SqL.of h4) h1, h2, by simp only [py, PyData.depth]; omega⟩
    | vl h1 h2 =>
      simp only [toD] at e
      cases q : mapO (toD L n) _ with
      | none => rw [q] at e; cases e
      | some ts =>
        rw [q] at e
        simp only [dtL, Option.some.injEq] at e
        subst e
        obtain ⟨g1, g2, g3⟩ := mapO_ok ih h2 q
        exact ⟨.lst (.inl (.inr ⟨_, h1⟩)) g1, g2, by simp only [py, PyData.depth]; omega⟩
    | fn i => simp [toD] at e
    | ty h => simp [toD] at e
    | opq => simp [toD] at e
    | kd h => simp [toD] at e
theorem shaped_of {n : Nat} {d : PyData} (h : fits n d) (hn : n ≤ 64) : SeqAt.shaped d = true := by
  unfold SeqAt.shaped
  rw [h.1, Bool.true_and]
  exact decide_eq_true (Nat.le_trans h.2 hn)
theorem rigB_of {b : Bool} {k : Bool → T} (h : (rigB b k).holds) : (k b).holds := by cases b <;> exact h
/-- == served: scalars, or the two data, and what is reckoned -/
def EqR (D : Gd) (H : Hp) (u w : V) (b : Bool) : Prop := (scal u w = true ∧ decide (u = w) = b) ∨ ∃ d e, Dp D.K H u d ∧ Dp D.K H w e ∧ SeqAt.shaped d = true ∧ SeqAt.shaped e = true ∧ PyData.eqv d e = b
theorem eq_V (R : Rep D μ L H) {x y : EV} {u w : V} (rx : RV D μ H x u) (ry : RV D μ H y w) {k : Bool → T} (h : (eqE L x y k).holds) : ∃ b, (k b).holds ∧ EqR D H u w b := by
  have gen : (eqG L x y k).holds → ∃ b, (k b).holds ∧ EqR D H u w b := fun h => by
    unfold eqG bothD at h
    cases q1 : toD L 60 x with
    | none => rw [q1] at h; exact h.elim
    | some d =>
      cases q2 : toD L 60 y with
      | none => rw [q1, q2] at h; exact h.elim
      | some e =>
        rw [q1, q2] at h
        obtain ⟨a1, a2⟩ := toD_ok R 60 x u d rx q1
        obtain ⟨b1, b2⟩ := toD_ok R 60 y w e ry q2
        refine ⟨eqD d e, ?_, .inr ⟨_, _, a1, b1, shaped_of a2 (by decide), shaped_of b2 (by decide), eqD_eq d e⟩⟩
        simp only at h
        cases q : eqD d e <;> rw [q] at h <;> exact h
  cases rx with
  | int i =>
    cases ry with
    | int j => exact ⟨_, rigB_of h, .inl ⟨rfl, by rw [dec_int]; exact (eqI_eq i j).symm⟩⟩
    | _ => exact gen h
  | str s =>
    cases ry with
    | str t => exact ⟨_, rigB_of h, .inl ⟨rfl, by rw [dec_str]; exact (beqNs_eq s t).symm⟩⟩
    | _ => exact gen h
  | non => exact gen h
  | bl b => exact gen h
  | tup a b => exact gen h
  | ref a => exact gen h
  | fn i => exact gen h
  | ty h' => exact gen h
  | opq => exact gen h
  | kd h' => exact gen h
  | vl h1 h2 => exact gen h
theorem ltI_eq (i j : Int) : ltI i j = decide (i < j) := by
  cases i with
  | ofNat a =>
    cases j with
    | ofNat b =>
      show Nat.blt a b = _
      rw [Bool.eq_iff_iff, decide_eq_true_eq]
      show Nat.ble (a + 1) b = true ↔ _
      rw [Nat.ble_eq]
      show a < b ↔ ((a : Nat) : Int) < ((b : Nat) : Int)
      omega
    | negSucc b =>
      show false = _
      refine (decide_eq_false ?_).symm
      have : Int.negSucc b < 0 := Int.negSucc_lt_zero b
      have : (0 : Int) ≤ Int.ofNat a := Int.natCast_nonneg a
      omega
  | negSucc a =>
    cases j with
    | ofNat b =>
      show true = _
      refine (decide_eq_true ?_).symm
      have : Int.negSucc a < 0 := Int.negSucc_lt_zero a
      have : (0 : Int) ≤ Int.ofNat b := Int.natCast_nonneg b
      omega
    | negSucc b =>
      show Nat.blt b a = _
      rw [Bool.eq_iff_iff, decide_eq_true_eq]
      show Nat.ble (b + 1) a = true ↔ _
      rw [Nat.ble_eq, Int.negSucc_eq, Int.negSucc_eq]
      omega
theorem two_of {x y : EV} {f : Int → Int → T} (h : (two x y f).holds) : ∃ i j, x = .int i ∧ y = .int j ∧ (f i j).holds := by
  obtain ⟨i, e1, h1⟩ := int_of h
  obtain ⟨j, e2, h2⟩ := int_of h1
  exact ⟨i, j, e1, e2, h2⟩
/-- in: by == with each -/
theorem isNonK_of {x : EV} {u : V} (r : RV D μ H x u) {k : Bool → T} (h : (isNonK x k).holds) : (k (decide (u = .non))).holds := by
  cases r with
  | non => simpa [isNonK] using h
  | opq => exact h.elim
  | _ => simpa [isNonK] using h
theorem nonK_of {y : EV} {k : Unit → T} (h : (nonK y k).holds) : y = .non ∧ (k ()).holds := by
  cases y <;> first | exact ⟨rfl, h⟩ | exact h.elim
/-! ### places -/
theorem atE_of {xs : List EV} {ys : List V} (r : RVs D μ H xs ys) {i : Int} {k : EV → T} (h : (atE xs i k).holds) : ∃ v u, atI ys i = some u ∧ RV D μ H v u ∧ (k v).holds := by
  cases i with
  | ofNat n =>
    simp only [atE] at h
    cases e : xs[n]? with
    | none => rw [e] at h; exact h.elim
    | some v =>
      rw [e] at h
      obtain ⟨u, h1, h2⟩ := r.get e
      exact ⟨v, u, atI_nat h1, h2, h⟩
  | negSucc n =>
    simp only [atE] at h
    cases e : Nat.blt n xs.length with
    | false => rw [e] at h; exact h.elim
    | true =>
      rw [e] at h
      simp only at h
      cases e2 : xs[Nat.sub xs.length (Nat.succ n)]? with
      | none => rw [e2] at h; exact h.elim
      | some v =>
        rw [e2] at h
        obtain ⟨u, h1, h2⟩ := r.get e2
        refine ⟨v, u, ?_, h2, h⟩
        have hn : n < xs.length := Nat.le_of_ble_eq_true e
        have hl := r.length
        have hn1 : ¬ (0 : Int) ≤ Int.negSucc n := fun z => by have := Int.negSucc_lt_zero n; omega
        have hn2 : -(ys.length : Int) ≤ Int.negSucc n := by rw [Int.negSucc_eq]; omega
        have hn3 : (Int.negSucc n + (ys.length : Int)).toNat = Nat.sub xs.length (Nat.succ n) := by rw [Int.negSucc_eq]; show _ = xs.length - (n + 1); omega
        unfold atI ixN
        rw [if_neg hn1, if_pos hn2]
        simp only [Option.bind_some]
        rw [hn3]
        exact h1
/-! ### dicts by text and int keys -/
theorem keyEq_ok {p : EV} {q : Key} {x : EV} {k : Key} (r : RK p q) (rx : RK x k) : keyEq p x = some (decide (q = k)) := by
  cases p with
  | int i =>
    cases q with
    | inr y => exact r.elim
    | inl j =>
      cases r
      cases x with
      | int a =>
        cases k with
        | inr y => exact rx.elim
        | inl b =>
          cases rx
          simp only [keyEq, eqI_eq, Option.some.injEq]
          rw [Bool.beq_eq_decide_eq]
          simp
      | str a =>
        cases k with
        | inl y => exact rx.elim
        | inr b => simp [keyEq]
      | _ => cases k <;> exact rx.elim
  | str i =>
    cases q with
    | inl y => exact r.elim
    | inr j =>
      cases r
      cases x with
      | int a =>
        cases k with
        | inr y => exact rx.elim
        | inl b => simp [keyEq]
      | str a =>
        cases k with
        | inl y => exact rx.elim
        | inr b =>
          cases rx
          simp only [keyEq, beqNs_eq, Option.some.injEq]
          rw [Bool.beq_eq_decide_eq]
          simp
      | _ => cases k <;> exact rx.elim
  | _ => cases q <;> exact r.elim
theorem isKey_of {x : EV} {u : V} (r : RV D μ H x u) (h : isKey x = true) : ∃ k : Key, RK x k ∧ u = kV k := by
  cases r with
  | int i => exact ⟨.inl i, rfl, rfl⟩
  | str s => exact ⟨.inr (toS s), rfl, rfl⟩
  | _ => cases h
theorem keyEq_isKey {p x : EV} {b : Bool} (h : keyEq p x = some b) : isKey x = true := by
  cases p <;> cases x <;> first | rfl | cases h
theorem dGet_key {x : EV} : ∀ {ps : List (EV × EV)} {o : Option EV}, dGet x ps = some o → isKey x = true
  | [], o, h => by
    simp only [dGet] at h
    cases e : isKey x with
    | true => rfl
    | false => rw [e] at h; cases h
  | p :: r, o, h => by
    simp only [dGet] at h
    cases e : keyEq p.1 x with
    | none => rw [e] at h; cases h
    | some b => exact keyEq_isKey e
theorem dGet_ok {x : EV} {k : Key} (rx : RK x k) : ∀ {ps : List (EV × EV)} {qs : List (Key × V)} {o : Option EV}, RPs D μ H ps qs → dGet x ps = some o →
    (o = none ∧ valV qs k = none) ∨ ∃ v u, o = some v ∧ valV qs k = some u ∧ RV D μ H v u
  | [], [], o, _, h => by
    simp only [dGet] at h
    cases e : isKey x with
    | false => rw [e] at h; cases h
    | true => rw [e] at h; cases h; exact .inl ⟨rfl, rfl⟩
  | [], _ :: _, _, r, _ => r.elim
  | _ :: _, [], _, r, _ => r.elim
  | p :: ps, q :: qs, o, ⟨r1, r2, r3⟩, h => by
    simp only [dGet] at h
    rw [keyEq_ok r1 rx] at h
    by_cases e : q.1 = k
    · rw [decide_eq_true e] at h
      cases h
      exact .inr ⟨_, _, rfl, valV_pos e, r2⟩
    · rw [decide_eq_false e] at h
      rw [valV_neg e]
      exact dGet_ok rx r3 h
theorem dRep_ok {x y : EV} {k : Key} {w : V} (rx : RK x k) (ry : RV D μ H y w) : ∀ {ps : List (EV × EV)} {qs : List (Key × V)}, RPs D μ H ps qs → RPs D μ H (dRep x y ps) (qs.map fun kv => if kv.1 = k then (kv.1, w) else kv)
  | [], [], _ => True.intro
  | [], _ :: _, r => r.elim
  | _ :: _, [], r => r.elim
  | p :: ps, q :: qs, ⟨r1, r2, r3⟩ => by
    simp only [dRep, List.map_cons]
    rw [keyEq_ok r1 rx]
    by_cases e : q.1 = k
    · rw [decide_eq_true e, if_pos e]
      exact ⟨r1, ry, dRep_ok rx ry r3⟩
    · rw [decide_eq_false e, if_neg e]
      exact ⟨r1, r2, dRep_ok rx ry r3⟩
theorem RPs.snoc {x y : EV} {k : Key} {w : V} (rx : RK x k) (ry : RV D μ H y w) : ∀ {ps : List (EV × EV)} {qs : List (Key × V)}, RPs D μ H ps qs → RPs D μ H (ps ++ [(x, y)]) (qs ++ [(k, w)])
  | [], [], _ => ⟨rx, ry, True.intro⟩
  | [], _ :: _, r => r.elim
  | _ :: _, [], r => r.elim
  | p :: ps, q :: qs, ⟨r1, r2, r3⟩ => ⟨r1, r2, RPs.snoc rx ry r3⟩
theorem hasK_of {o : Option (Option EV)} {k : Bool → T} (h : (hasK o k).holds) : ∃ v, o = some v ∧ (k v.isSome).holds := by
  cases o with
  | none => exact h.elim
  | some v => cases v <;> exact ⟨_, rfl, h⟩
theorem gotK_of {o : Option (Option EV)} {k : EV → T} (h : (gotK o k).holds) : ∃ v, o = some (some v) ∧ (k v).holds := by
  cases o with
  | none => exact h.elim
  | some v => cases v with
    | none => exact h.elim
    | some v => exact ⟨v, rfl, h⟩
/-- a dict of the module: what D.kd is to say -/
def KdOk (D : Gd) : Prop := ∀ a ps, D.kd a ps → ∀ x o (k : Key), RK x k → dGet x ps = some o → True
end
end Ev

set_option Elab.async false
set_option linter.all false
set_option maxRecDepth 100000
set_option maxHeartbeats 4000000
/-! EvE1: the operations as rules of the layer. -/
namespace Ev
open PySem PySem.Spec PyProof.Rows L2
def opB : BO → Operator
  | .add => .Add | .sub => .Sub | .mul => .Mult | .fdiv => .FloorDiv | .mod => .Mod | .pow => .Pow
def opC : CO → CmpOp
  | .eq => .Eq | .ne => .NotEq | .lt => .Lt | .le => .LtE | .gt => .Gt | .ge => .GtE | .inn => .In | .nin => .NotIn | .isN => .Is | .notN => .IsNot
section
variable {X : Cx} {D : Gd}
theorem PE.imp {e : Expr} {t t' : TE} (h : PE X e t) (f : ∀ σ H Q, t' σ H Q → t σ H Q) : PE X e t' := ⟨fun pins s σ H Q I q => h.run pins s σ H Q I (f _ _ _ q)⟩
theorem PT.imp {e : Expr} {t t' : TT} (h : PT X e t) (f : ∀ σ H Q, t' σ H Q → t σ H Q) : PT X e t' := ⟨fun pins s σ H Q I q => h.run pins s σ H Q I (f _ _ _ q)⟩
def rBin (D : Gd) (op : BO) : R2 := fun u w H Q => ∃ μ L x y k, Rep D μ L H ∧ RV D μ H x u ∧ RV D μ H y w ∧ (binE op L x y k).holds ∧ PostV D μ H k Q
theorem bin_ok (G : D.Ok) (op : BO) : OpR X (binaryOp (opB op)) (rBin D op) := by
  intro pins s σ H u w v1 v2 Q I r1 r2 h
  obtain ⟨μ, L, x, y, k, R, rx, ry, h, p⟩ := h
  cases op with
  | add =>
    rcases add_V G R rx ry h p with q | q | q
    · exact op_add pins s σ H u w v1 v2 Q I r1 r2 q
    · exact op_cat pins s σ H u w v1 v2 Q I r1 r2 q
    · exact thn (op_catR pins s σ H u w v1 v2 _ I r1 r2 q) fun _ _ => fz_ep
  | sub =>
    obtain ⟨i, rfl, h1⟩ := int_of (show (intK x _).holds from h)
    obtain ⟨j, rfl, h2⟩ := int_of h1
    rw [frI_eq] at h2
    rw [rv_int rx] at r1
    rw [rv_int ry] at r2
    exact op_sub pins s σ H _ _ v1 v2 Q I r1 r2 ⟨i, j, rfl, rfl, p _ L μ H _ Ext.refl R (.int _) h2⟩
  | mul =>
    rcases mul_V G R rx ry h p with q | q | q
    · exact op_mulW pins s σ H u w v1 v2 Q I r1 r2 q
    · exact op_rep pins s σ H u w v1 v2 Q I r1 r2 q
    · exact thn (op_repR pins s σ H u w v1 v2 _ I r1 r2 q) fun _ _ => fz_ep
  | fdiv =>
    obtain ⟨i, rfl, h1⟩ := int_of (show (intK x _).holds from h)
    obtain ⟨j, rfl, h2⟩ := int_of h1
    obtain ⟨h3, h4⟩ := posI_of h2
    obtain ⟨h5, h6⟩ := okI_of h4
    rw [frI_eq] at h6
    rw [rv_int rx] at r1
    rw [rv_int ry] at r2
    rw [big_eq] at h5
    exact op_fdivW pins s σ H _ _ v1 v2 Q I r1 r2 ⟨i, j, rfl, rfl, wide_div h3 h5 (by decide) (by decide), p _ L μ H _ Ext.refl R (.int _) h6⟩
  | mod =>
    obtain ⟨i, rfl, h1⟩ := int_of (show (intK x _).holds from h)
    obtain ⟨j, rfl, h2⟩ := int_of h1
    obtain ⟨h3, h4⟩ := posI_of h2
    rw [frI_eq] at h4
    rw [rv_int rx] at r1
    rw [rv_int ry] at r2
    exact op_mod pins s σ H _ _ v1 v2 Q I r1 r2 ⟨i, j, rfl, rfl, h3, p _ L μ H _ Ext.refl R (.int _) h4⟩
  | pow =>
    obtain ⟨i, rfl, h1⟩ := int_of (show (intK x _).holds from h)
    obtain ⟨j, rfl, h2⟩ := int_of h1
    rw [rv_int rx] at r1
    rw [rv_int ry] at r2
    obtain ⟨h3, h4⟩ := pow_V R h2 p
    exact op_pow pins s σ H _ _ v1 v2 Q I r1 r2 ⟨i, j, rfl, rfl, h3, h4⟩
def rCmp (D : Gd) (op : CO) : R2 := fun u w H Q => ∃ μ L x y k, Rep D μ L H ∧ RV D μ H x u ∧ RV D μ H y w ∧ (cmpE op L x y k).holds ∧ ∀ b, (k b).holds → Q (.bl b) H
theorem anyD_eq (d : Dt) : ∀ ds : List Dt, ((pys ds).any fun z => PyData.eqv z (py d)) = anyD d ds
  | [] => rfl
  | e :: r => by
    simp only [pys, List.any_cons, anyD, eqD_eq, anyD_eq d r]
    cases eqD e d <;> rfl
theorem memD_of {D : Gd} {μ : List Addr} {H : Hp} {L : LH} (R : Rep D μ L H) {x : EV} {u : V} (rx : RV D μ H x u) {a : Addr} {ys : List EV} {us : List V} (ha : Rd H a (.lst us)) (ry : RVs D μ H ys us) {k : Bool → T} (h : (memD (toD L 60 x) (mapO (toD L 60) ys) k).holds) :
    ∃ d ds, Dp D.K H u d ∧ Dp D.K H (.ref a) (.list ds) ∧ SeqAt.shaped d = true ∧ SeqAt.shaped (.list ds) = true ∧ (k (ds.any fun z => PyData.eqv z d)).holds := by
  unfold memD at h
  cases q1 : toD L 60 x with
  | none => rw [q1] at h; exact h.elim
  | some d =>
    cases q2 : mapO (toD L 60) ys with
    | none => rw [q1, q2] at h; exact h.elim
    | some ds =>
      rw [q1, q2] at h
      obtain ⟨a1, a2⟩ := toD_ok R 60 x u d rx q1
      obtain ⟨b1, b2, b3⟩ := mapO_ok (toD_ok R 60) ry q2
      refine ⟨_, _, a1, .lst (.inl ha) b1, shaped_of a2 (by decide), shaped_of (n := 61) ⟨b2, by simp only [PyData.depth]; omega⟩ (by decide), ?_⟩
      rw [anyD_eq]
      exact rigB_of h
/-- what is asked of the module's dicts: their value by a key, in the layer's words -/
theorem strK_of {x : EV} {k : Unit → T} (h : (strK x k).holds) : (∃ t, x = .str t) ∧ (k ()).holds := by
  cases x with
  | str t => exact ⟨⟨t, rfl⟩, h⟩
  | _ => exact h.elim
structure KdGet (D : Gd) (X : Cx) : Prop where
  ty : ∀ (pins : List (Addr × Obj)) (s : Shared) (σ : L2.St) (H : Hp) (a : Addr) (ps : List (EV × EV)), Inv X pins σ H s → D.kd a ps → s.TypeIs (.ref a) "dict" ∧ ∃ o, X.K.lookup a = some o ∧ o.cls = .type "dict"
  ix : ∀ (pins : List (Addr × Obj)) (s : Shared) (σ : L2.St) (H : Hp) (a : Addr) (ps : List (EV × EV)) (μ : List Addr) (x v : EV) (u : V) (iv : Value) (Q : VK), Inv X pins σ H s → D.kd a ps → RV D μ H x u → RelV u iv → dGet x ps = some (some v) → (∀ w, RV D μ H v w → Q w H) →
    wpAny (model X.prog X.w) X.A (getItem (.ref a) iv) (EP X pins σ Q) X.xe s
  isin : ∀ (neg : Bool) (pins : List (Addr × Obj)) (s : Shared) (σ : L2.St) (H : Hp) (a : Addr) (ps : List (EV × EV)) (μ : List Addr) (x : EV) (o : Option EV) (u : V) (iv : Value) (Q : VK), Inv X pins σ H s → D.kd a ps → (∃ t, x = .str t) → RV D μ H x u → RelV u iv → dGet x ps = some o → Q (.bl (if neg then !o.isSome else o.isSome)) H →
    wpAny (model X.prog X.w) X.A (compareOp (if neg then .NotIn else .In) iv (.ref a)) (EP X pins σ Q) X.xe s
theorem cmp_ok (hK : X.K = D.K) (kg : KdGet D X) (hu : X.A.units + 65 < cLine) (op : CO) : OpR X (compareOp (opC op)) (rCmp D op) := by
  intro pins s σ H u w v1 v2 Q I r1 r2 h
  obtain ⟨μ, L, x, y, k, R, rx, ry, h, p⟩ := h
  have nums : ∀ {f : Int → Int → T}, (two x y f).holds → ∃ i j, x = .int i ∧ y = .int j ∧ u = .int i ∧ w = .int j ∧ (f i j).holds := fun {f} h => by
    obtain ⟨i, j, e1, e2, h⟩ := two_of h
    subst e1 e2
    exact ⟨i, j, rfl, rfl, rv_int rx, rv_int ry, h⟩
  cases op with
  | eq =>
    obtain ⟨b, hk, q⟩ := eq_V R rx ry h
    rcases q with ⟨q1, q2⟩ | ⟨d, e, q1, q2, q3, q4, q5⟩
    · exact op_eq pins s σ H u w v1 v2 Q I r1 r2 ⟨q1, by rw [q2]; exact p _ hk⟩
    · rw [← hK] at q1 q2
      exact op_eqD (by omega) pins s σ H u w v1 v2 Q I r1 r2 ⟨d, e, q1, q2, q3, q4, by rw [q5]; exact p _ hk⟩
  | ne =>
    obtain ⟨b, hk, q⟩ := eq_V R rx ry h
    have hk' : (k (!b)).holds := by cases b <;> exact hk
    rcases q with ⟨q1, q2⟩ | ⟨d, e, q1, q2, q3, q4, q5⟩
    · exact op_ne pins s σ H u w v1 v2 Q I r1 r2 ⟨q1, by rw [q2]; exact p _ hk'⟩
    · rw [← hK] at q1 q2
      exact op_neD (by omega) pins s σ H u w v1 v2 Q I r1 r2 ⟨d, e, q1, q2, q3, q4, by rw [q5]; exact p _ hk'⟩
  | lt =>
    obtain ⟨i, j, _, _, rfl, rfl, h⟩ := nums h
    exact op_lt pins s σ H _ _ v1 v2 Q I r1 r2 ⟨i, j, rfl, rfl, by dsimp only; rw [← ltI_eq]; exact p _ (rigB_of h)⟩
  | gt =>
    obtain ⟨i, j, _, _, rfl, rfl, h⟩ := nums h
    exact op_gt pins s σ H _ _ v1 v2 Q I r1 r2 ⟨i, j, rfl, rfl, by dsimp only; rw [← ltI_eq]; exact p _ (rigB_of h)⟩
  | le =>
    obtain ⟨i, j, _, _, rfl, rfl, h⟩ := nums h
    refine op_le pins s σ H _ _ v1 v2 Q I r1 r2 ⟨i, j, rfl, rfl, ?_⟩
    have e : decide (i ≤ j) = !ltI j i := by rw [ltI_eq, ← decide_not, decide_eq_decide]; omega
    dsimp only
    rw [e]
    exact p _ (rigB_of h)
  | ge =>
    obtain ⟨i, j, _, _, rfl, rfl, h⟩ := nums h
    refine op_ge pins s σ H _ _ v1 v2 Q I r1 r2 ⟨i, j, rfl, rfl, ?_⟩
    have e : decide (j ≤ i) = !ltI i j := by rw [ltI_eq, ← decide_not, decide_eq_decide]; omega
    dsimp only
    rw [e]
    exact p _ (rigB_of h)
  | isN =>
    simp only [cmpE] at h
    obtain ⟨rfl, h1⟩ := nonK_of h
    cases ry
    exact op_isN pins s σ H u _ v1 v2 Q I r1 r2 ⟨rfl, p _ (isNonK_of rx h1)⟩
  | notN =>
    simp only [cmpE] at h
    obtain ⟨rfl, h0⟩ := nonK_of h
    cases ry
    have h1 := isNonK_of rx h0
    have h2 : (k (!decide (u = .non))).holds := by
      cases q : decide (u = .non) <;> rw [q] at h1 <;> simp only [ifB] at h1 <;> exact h1
    exact op_notN pins s σ H u _ v1 v2 Q I r1 r2 ⟨rfl, p _ h2⟩
  | inn =>
    simp only [cmpE] at h
    cases ry with
    | @ref i a e =>
      simp only [inE] at h
      cases q : L.get i with
      | none => rw [q] at h; exact h.elim
      | some o =>
        rw [q] at h
        cases o with
        | lst ys =>
          simp only [inO] at h
          obtain ⟨a', us, e1, e2, h1, h2⟩ := lst_at R (.ref e) q
          cases e1
          obtain ⟨d, ds, q1, q2, q3, q4, q5⟩ := memD_of R rx (.inl h1) h2 h
          rw [← hK] at q1 q2
          exact op_inD hu pins s σ H u _ v1 v2 Q I r1 r2 ⟨d, ds, q1, q2, q3, q4, p _ q5⟩
        | fdct ps => exact h.elim
        | dead => exact h.elim
        | dct ps =>
          simp only [inO] at h
          obtain ⟨a', us, e1, e2, h1, h2⟩ := dct_at R (.ref e) q
          cases e1
          obtain ⟨o, e3, h3⟩ := hasK_of h
          obtain ⟨kk, rk, rfl⟩ := isKey_of rx (dGet_key e3)
          have eo : o.isSome = (valV us kk).isSome := by
            rcases dGet_ok rk h2 e3 with ⟨z1, z2⟩ | ⟨v', u', z1, z2, _⟩ <;> rw [z1, z2] <;> rfl
          obtain rfl : v2 = Value.ref a := r2
          exact d_in (X := X) (by omega) I (DGet.k h1) r1 fun s' I' => ⟨.bl _, H, I', rfl, by rw [← eo]; exact p _ h3⟩
    | @kd ps a e =>
      simp only [inE] at h
      obtain ⟨hx, h⟩ := strK_of h
      obtain ⟨o, e3, h3⟩ := hasK_of h
      obtain rfl : v2 = Value.ref a := r2
      exact kg.isin false pins s σ H a ps μ x o u v1 Q I e hx rx r1 e3 (p _ h3)
    | vl h1 h2 =>
      obtain ⟨d, ds, q1, q2, q3, q4, q5⟩ := memD_of R rx (.inr ⟨_, h1⟩) h2 h
      rw [← hK] at q1 q2
      exact op_inD hu pins s σ H u _ v1 v2 Q I r1 r2 ⟨d, ds, q1, q2, q3, q4, p _ q5⟩
    | _ => exact h.elim
  | nin =>
    simp only [cmpE] at h
    cases ry with
    | @ref i a e =>
      simp only [inE] at h
      cases q : L.get i with
      | none => rw [q] at h; exact h.elim
      | some o =>
        rw [q] at h
        cases o with
        | lst ys =>
          simp only [inO] at h
          obtain ⟨a', us, e1, e2, h1, h2⟩ := lst_at R (.ref e) q
          cases e1
          obtain ⟨d, ds, q1, q2, q3, q4, q5⟩ := memD_of R rx (.inl h1) h2 h
          rw [← hK] at q1 q2
          refine op_notInD hu pins s σ H u _ v1 v2 Q I r1 r2 ⟨d, ds, q1, q2, q3, q4, p _ ?_⟩
          cases z : ds.any fun z => PyData.eqv z d <;> rw [z] at q5 <;> exact q5
        | fdct ps => exact h.elim
        | dead => exact h.elim
        | dct ps =>
          simp only [inO] at h
          obtain ⟨a', us, e1, e2, h1, h2⟩ := dct_at R (.ref e) q
          cases e1
          obtain ⟨o, e3, h3⟩ := hasK_of h
          obtain ⟨kk, rk, rfl⟩ := isKey_of rx (dGet_key e3)
          have eo : o.isSome = (valV us kk).isSome := by
            rcases dGet_ok rk h2 e3 with ⟨z1, z2⟩ | ⟨v', u', z1, z2, _⟩ <;> rw [z1, z2] <;> rfl
          obtain rfl : v2 = Value.ref a := r2
          refine d_notIn (X := X) (by omega) I (DGet.k h1) r1 fun s' I' => ⟨.bl _, H, I', rfl, p _ ?_⟩
          rw [← eo]
          cases o <;> exact h3
    | @kd ps a e =>
      simp only [inE] at h
      obtain ⟨hx, h⟩ := strK_of h
      obtain ⟨o, e3, h3⟩ := hasK_of h
      obtain rfl : v2 = Value.ref a := r2
      refine kg.isin true pins s σ H a ps μ x o u v1 Q I e hx rx r1 e3 (p _ ?_)
      cases o <;> exact h3
    | vl h1 h2 =>
      simp only [inE] at h
      obtain ⟨d, ds, q1, q2, q3, q4, q5⟩ := memD_of R rx (.inr ⟨_, h1⟩) h2 h
      rw [← hK] at q1 q2
      refine op_notInD hu pins s σ H u _ v1 v2 Q I r1 r2 ⟨d, ds, q1, q2, q3, q4, p _ ?_⟩
      cases z : ds.any fun z => PyData.eqv z d <;> rw [z] at q5 <;> exact q5
    | _ => exact h.elim
end
end Ev

set_option Elab.async false
set_option linter.all false
set_option maxRecDepth 100000
set_option maxHeartbeats 4000000
/-! EvE2: subscripts, built-ins, methods, stores as rules of the layer. -/
namespace Ev
open PySem PySem.Spec PyProof.Rows L2
section
variable {X : Cx} {D : Gd}
def rIdx (D : Gd) : R2 := fun u w H Q => ∃ μ L x y k, Rep D μ L H ∧ RV D μ H x u ∧ RV D μ H y w ∧ (idxE L x y k).holds ∧ ∀ v u', RV D μ H v u' → (k v).holds → Q u' H
theorem idx_ok (hK : X.K = D.K) (kg : KdGet D X) (hu : X.A.units + 65 < cLine) : IxR X (rIdx D) := by
  intro value slice pins s σ H u w v1 v2 Q I r1 r2 h hs
  obtain ⟨μ, L, x, y, k, R, rx, ry, h, p⟩ := h
  cases rx with
  | @tup xs ys a hq hr =>
    simp only [idxE] at h
    obtain ⟨i, rfl, h1⟩ := int_of h
    obtain ⟨v, u', e1, e2, e3⟩ := atE_of hr h1
    rw [rv_int ry] at r2
    have hq := hq.sq
    rw [← hK] at hq
    exact ix_tup value slice pins s σ H _ _ v1 v2 Q I r1 r2 ⟨a, ys, i, u', rfl, rfl, hq, e1, p _ _ e2 e3⟩ hs
  | @ref i a e =>
    simp only [idxE] at h
    cases q : L.get i with
    | none => rw [q] at h; exact h.elim
    | some o =>
      rw [q] at h
      cases o with
      | lst xs =>
        simp only [idxO] at h
        obtain ⟨n, rfl, h1⟩ := int_of h
        obtain ⟨a', us, e1, e2, h2, h3⟩ := lst_at R (.ref e) q
        cases e1
        obtain ⟨v, u', e1, e3, e4⟩ := atE_of h3 h1
        rw [rv_int ry] at r2
        exact ix_list value slice pins s σ H _ _ v1 v2 Q I r1 r2 ⟨a, us, n, u', rfl, rfl, SqL.of h2, e1, p _ _ e3 e4⟩ hs
      | fdct ps => exact h.elim
      | dead => exact h.elim
      | dct ps =>
        simp only [idxO] at h
        obtain ⟨v, e1, h1⟩ := gotK_of h
        obtain ⟨a', us, e2, e3, h2, h3⟩ := dct_at R (.ref e) q
        cases e2
        obtain ⟨kk, rk, rfl⟩ := isKey_of ry (dGet_key e1)
        obtain rfl : v1 = Value.ref a := r1
        rcases dGet_ok rk h3 e1 with ⟨z, _⟩ | ⟨v', u', z1, z2, z3⟩
        · cases z
        · cases z1
          have g := DGet.k (k := kk) h2
          rw [z2] at g
          exact PyProof.Rows.tail_any (dict_typeIs I g) PySem.F.slot_dict_getitem.lookup (d_getItem (by omega) I g r2 fun w' s' I' rw' => ⟨u', H, I', rw', p _ _ z3 h1⟩) hs
  | vl h1 h2 =>
    simp only [idxE] at h
    obtain ⟨n, rfl, h3⟩ := int_of h
    obtain ⟨v, u', e1, e3, e4⟩ := atE_of h2 h3
    rw [rv_int ry] at r2
    exact ix_list value slice pins s σ H _ _ v1 v2 Q I r1 r2 ⟨_, _, n, u', rfl, rfl, .inl (.inr ⟨_, h1⟩), e1, p _ _ e3 e4⟩ hs
  | @kd ps a e =>
    simp only [idxE] at h
    obtain ⟨v, e1, h1⟩ := gotK_of h
    obtain rfl : v1 = Value.ref a := r1
    exact PyProof.Rows.tail_any (kg.ty pins s σ H a ps I e).1 PySem.F.slot_dict_getitem.lookup (kg.ix pins s σ H a ps μ y v w v2 Q I e ry r2 e1 fun u' hu' => p _ _ hu' h1) hs
  | _ => exact h.elim
/-! ### built-ins -/
def rBi (D : Gd) (f : BF) : List V → Hp → VK → Prop := fun us H Q => ∃ μ L vs k, Rep D μ L H ∧ RVs D μ H vs us ∧ (biE f L vs k).holds ∧ PostV D μ H k Q
def valB : BF → Value
  | .abs => .builtin "abs" | .len => .builtin "len" | .isinst => .builtin "isinstance" | .all => .builtin "all" | .any => .builtin "any"
  | .list => .type "list" | .tuple => .type "tuple" | .int => .type "int" | .max => .builtin "max" | .min => .builtin "min" | .dict => .type "dict" | .vlist => .type "list"
theorem rvs1 {μ : List Addr} {H : Hp} {v : EV} {us : List V} (r : RVs D μ H [v] us) : ∃ u, us = [u] ∧ RV D μ H v u := by
  cases r with
  | cons a b => cases b; exact ⟨_, rfl, a⟩
theorem rvs2 {μ : List Addr} {H : Hp} {v w : EV} {us : List V} (r : RVs D μ H [v, w] us) : ∃ u z, us = [u, z] ∧ RV D μ H v u ∧ RV D μ H w z := by
  cases r with
  | cons a b =>
    obtain ⟨z, rfl, c⟩ := rvs1 b
    exact ⟨_, z, rfl, a, c⟩
/-- the kinds in the library's words -/
def tyOfK : Nat → Value
  | 0 => .type "int" | 1 => .type "bool" | 2 => .type "str" | 3 => .type "list" | 4 => .type "tuple" | 5 => .type "dict" | _ => .type "NoneType"
theorem kind_ok {μ : List Addr} {H : Hp} {L : LH} (kt : ∀ a ps, D.kd a ps → ∃ o, D.K.lookup a = some o ∧ o.cls = .type "dict") (R : Rep D μ L H) {x : EV} {u : V} (rx : RV D μ H x u) {c : Nat} (h : kindE L x = some c) : TyX D.K H u (tyOfK c) ∧ c ≤ 6 := by
  cases rx with
  | non => cases h; exact ⟨.base .non, by decide⟩
  | bl b => cases h; exact ⟨.base (.bl b), by decide⟩
  | int i => cases h; exact ⟨.base (.int i), by decide⟩
  | str s => cases h; exact ⟨.base (.str _), by decide⟩
  | @tup xs ys a hq hr =>
    cases h
    rcases hq with hq | ⟨o, its, n, hk, hc, _⟩
    · exact ⟨.base (.tup hq), by decide⟩
    · exact ⟨.kTuple hk hc, by decide⟩
  | @ref i a e =>
    simp only [kindE] at h
    cases q : L.get i with
    | none => rw [q] at h; cases h
    | some o =>
      rw [q] at h
      cases o with
      | lst xs =>
        cases h
        obtain ⟨a', us, e1, e2, h2, h3⟩ := lst_at R (.ref e) q
        cases e1
        exact ⟨.base (.lst h2), by decide⟩
      | fdct ps => cases h
      | dead => cases h
      | dct ps =>
        cases h
        obtain ⟨a', us, e1, e2, h2, h3⟩ := dct_at R (.ref e) q
        cases e1
        exact ⟨.base (.dK h2), by decide⟩
  | vl h1 h2 =>
    cases h
    exact ⟨.base (.frz h1), by decide⟩
  | @kd ps a e =>
    cases h
    obtain ⟨o, h1, h2⟩ := kt a ps e
    exact ⟨.kDict h1 h2, by decide⟩
  | _ => cases h
theorem kit_ty (K : PySem.W.Frag) : ∀ (c n : Nat) (T : String), c ≤ 6 → tyName n = some T → PySem.W.kitOne K (tyOfK c) (.type T) = some (isaK c n) := by
  intro c n T hc hn
  match n, hn with
  | 0, hn => cases hn; match c, hc with
    | 0, _ => rfl | 1, _ => rfl | 2, _ => rfl | 3, _ => rfl | 4, _ => rfl | 5, _ => rfl | 6, _ => rfl
  | 1, hn => cases hn; match c, hc with
    | 0, _ => rfl | 1, _ => rfl | 2, _ => rfl | 3, _ => rfl | 4, _ => rfl | 5, _ => rfl | 6, _ => rfl
  | 2, hn => cases hn; match c, hc with
    | 0, _ => rfl | 1, _ => rfl | 2, _ => rfl | 3, _ => rfl | 4, _ => rfl | 5, _ => rfl | 6, _ => rfl
  | 3, hn => cases hn; match c, hc with
    | 0, _ => rfl | 1, _ => rfl | 2, _ => rfl | 3, _ => rfl | 4, _ => rfl | 5, _ => rfl | 6, _ => rfl
  | 4, hn => cases hn; match c, hc with
    | 0, _ => rfl | 1, _ => rfl | 2, _ => rfl | 3, _ => rfl | 4, _ => rfl | 5, _ => rfl | 6, _ => rfl
  | 5, hn => cases hn; match c, hc with
    | 0, _ => rfl | 1, _ => rfl | 2, _ => rfl | 3, _ => rfl | 4, _ => rfl | 5, _ => rfl | 6, _ => rfl
  | _ + 6, hn => cases hn
theorem kit_tys {μ : List Addr} {H : Hp} (K : PySem.W.Frag) {c : Nat} (hc : c ≤ 6) : ∀ {ts : List EV} {us : List V} {b : Bool}, RVs D μ H ts us → isaKs c ts = some b → ∃ ws, Paired ClsV us ws ∧ PySem.W.kitAny K (tyOfK c) ws = some b
  | _, _, b, .nil, h => by
    simp only [isaKs, Option.some.injEq] at h
    subst h
    exact ⟨[], .nil, rfl⟩
  | _, _, b, .cons r rs, h => by
    cases r with
    | @ty n T hn =>
      simp only [isaKs, tyO] at h
      have q := kit_ty K c n T hc hn
      cases e0 : isaKs c _ with
      | none => rw [e0] at h; cases h
      | some b' =>
        rw [e0] at h
        obtain ⟨ws, h1, h2⟩ := kit_tys K hc rs e0
        cases e : isaK c n with
        | true =>
          rw [e] at h q
          simp only [Option.some.injEq] at h
          subst h
          exact ⟨.type T :: ws, .cons (.ty T) h1, by simp only [PySem.W.kitAny, q]⟩
        | false =>
          rw [e] at h q
          simp only [Option.some.injEq] at h
          subst h
          exact ⟨.type T :: ws, .cons (.ty T) h1, by simp only [PySem.W.kitAny, q]; exact h2⟩
    | _ => simp [isaKs, tyO] at h
theorem allBl_ok {μ : List Addr} {H : Hp} : ∀ {vs : List EV} {us : List V} {b : Bool}, RVs D μ H vs us → allBl vs = some b → ∃ bs : List Bool, us = bs.map V.bl ∧ bs.all id = b
  | _, _, b, .nil, h => by
    simp only [allBl, Option.some.injEq] at h
    subst h
    exact ⟨[], rfl, rfl⟩
  | _, _, b, .cons r rs, h => by
    cases r with
    | bl a =>
      simp only [allBl, blO] at h
      cases a with
      | true =>
        obtain ⟨bs, e1, e2⟩ := allBl_ok rs h
        exact ⟨true :: bs, by simp [e1], by simpa using e2⟩
      | false =>
        simp only at h
        cases e : allBl _ with
        | none => rw [e] at h; cases h
        | some b' =>
          rw [e] at h
          cases h
          obtain ⟨bs, e1, e2⟩ := allBl_ok rs e
          exact ⟨false :: bs, by simp [e1], by simp⟩
    | _ => simp [allBl, blO] at h
theorem anyBl_ok {μ : List Addr} {H : Hp} : ∀ {vs : List EV} {us : List V} {b : Bool}, RVs D μ H vs us → anyBl vs = some b → ∃ bs : List Bool, us = bs.map V.bl ∧ bs.any id = b
  | _, _, b, .nil, h => by
    simp only [anyBl, Option.some.injEq] at h
    subst h
    exact ⟨[], rfl, rfl⟩
  | _, _, b, .cons r rs, h => by
    cases r with
    | bl a =>
      simp only [anyBl, blO] at h
      cases a with
      | false =>
        obtain ⟨bs, e1, e2⟩ := anyBl_ok rs h
        exact ⟨false :: bs, by simp [e1], by simpa using e2⟩
      | true =>
        simp only at h
        cases e : anyBl _ with
        | none => rw [e] at h; cases h
        | some b' =>
          rw [e] at h
          cases h
          obtain ⟨bs, e1, e2⟩ := anyBl_ok rs e
          exact ⟨true :: bs, by simp [e1], by simp⟩
    | _ => simp [anyBl, blO] at h
theorem rigO_of {o : Option Bool} {L : LH} {k : KV} (h : (rigO o L k).holds) : ∃ b, o = some b ∧ (k (.bl b) L).holds := by
  cases o with
  | none => exact h.elim
  | some b => cases b <;> exact ⟨_, rfl, h⟩
theorem absI_eq (i : Int) : absI i = if i < 0 then -i else i := by
  cases i with
  | ofNat n => rw [if_neg (by have : (0 : Int) ≤ Int.ofNat n := Int.natCast_nonneg n; omega)]; rfl
  | negSucc n => rw [if_pos (Int.negSucc_lt_zero n)]; rfl
theorem any_valV_some {kvs : List (Key × V)} {k : Key} {u : V} (h : valV kvs k = some u) : (kvs.any fun kv => decide (kv.1 = k)) = true := by
  unfold valV at h
  cases e : kvs.find? fun kv => decide (kv.1 = k) with
  | none => rw [e] at h; cases h
  | some q =>
    have := List.find?_some e
    exact List.any_eq_true.mpr ⟨q, List.mem_of_find?_eq_some e, this⟩
theorem any_valV_none {kvs : List (Key × V)} {k : Key} (h : valV kvs k = none) : (kvs.any fun kv => decide (kv.1 = k)) = false := by
  unfold valV at h
  cases e : kvs.find? fun kv => decide (kv.1 = k) with
  | none =>
    rw [List.any_eq_false]
    intro x hx
    simpa using List.find?_eq_none.mp e x hx
  | some q => rw [e] at h; cases h
theorem RK.rv {μ : List Addr} {H : Hp} {x : EV} {k : Key} (r : RK x k) : RV D μ H x (kV k) := by
  cases k with
  | inl i => cases x <;> first | exact r.elim | (cases r; exact .int _)
  | inr s => cases x <;> first | exact r.elim | (cases r; exact .str _)
theorem RPs.keys {μ : List Addr} {H : Hp} : ∀ {ps : List (EV × EV)} {qs : List (Key × V)}, RPs D μ H ps qs → RVs D μ H (keysE ps) (qs.map fun kv => kV kv.1)
  | [], [], _ => .nil
  | [], _ :: _, r => r.elim
  | _ :: _, [], r => r.elim
  | p :: ps, q :: qs, ⟨r1, r2, r3⟩ => .cons r1.rv r3.keys
theorem RPs.vals {μ : List Addr} {H : Hp} : ∀ {ps : List (EV × EV)} {qs : List (Key × V)}, RPs D μ H ps qs → RVs D μ H (valsE ps) (qs.map (·.2))
  | [], [], _ => .nil
  | [], _ :: _, r => r.elim
  | _ :: _, [], r => r.elim
  | p :: ps, q :: qs, ⟨r1, r2, r3⟩ => .cons r2 r3.vals
theorem codes_RVs {μ : List Addr} {H : Hp} : ∀ z : List Nat, RVs D μ H (codes z) (z.map fun c => V.str ⟨#[c]⟩)
  | [] => .nil
  | c :: z => .cons (.str [c]) (codes_RVs z)
theorem signs_vals : ∀ {z : List Nat} {vs : List Value}, vs.length = z.length → (∀ (j : Nat) (v : Value), vs[j]? = some v → ∃ c u, z[j]? = some c ∧ v = Value.str ⟨#[c]⟩ u) → Vals (z.map fun c => V.str ⟨#[c]⟩) vs
  | [], [], _, _ => .nil
  | [], _ :: _, h, _ => by cases h
  | _ :: _, [], h, _ => by cases h
  | c :: z, v :: vs, hl, h => by
    obtain ⟨c', u, e1, e2⟩ := h 0 v rfl
    cases e1
    subst e2
    exact .cons ⟨u, rfl⟩ (signs_vals (Nat.succ.inj hl) fun j w hw => h (j + 1) w hw)
theorem putD_ok {μ : List Addr} {H : Hp} {x y : EV} {k : Key} {u : V} (rk : RK x k) (ry : RV D μ H y u) {ps ps' : List (EV × EV)} {qs : List (Key × V)} (r : RPs D μ H ps qs) (h : putD x y ps = some ps') : RPs D μ H ps' (putK qs k u) := by
  unfold putD at h
  cases e : dGet x ps with
  | none => rw [e] at h; cases h
  | some o =>
    rw [e] at h
    unfold putK
    rcases dGet_ok rk r e with ⟨z1, z2⟩ | ⟨v', u', z1, z2, _⟩
    · subst z1
      cases h
      rw [any_valV_none z2, if_neg Bool.false_ne_true]
      exact RPs.snoc rk ry r
    · subst z1
      cases h
      rw [any_valV_some z2, if_pos rfl]
      exact dRep_ok rk ry r
theorem pairO_of {x : EV} {p : EV × EV} (h : pairO x = some p) : x = .tup [p.1, p.2] := by
  cases x with
  | tup xs =>
    cases xs with
    | nil => cases h
    | cons a r =>
      cases r with
      | nil => cases h
      | cons b r =>
        cases r with
        | nil => cases h; rfl
        | cons _ _ => cases h
  | _ => cases h
theorem putD_key {x y : EV} {ps ps' : List (EV × EV)} (h : putD x y ps = some ps') : isKey x = true := by
  unfold putD at h
  cases e : dGet x ps with
  | none => rw [e] at h; cases h
  | some o => exact dGet_key e
theorem mkD_ok {K : PySem.W.Frag} {μ : List Addr} {H : Hp} (hK : K = D.K) : ∀ {xs : List EV} {us : List V} {ps rs : List (EV × EV)} {qs : List (Key × V)}, RVs D μ H xs us → mkD xs ps = some rs → RPs D μ H ps qs →
    ∃ (as : List Addr) (kvs : List (Key × V)), us = as.map V.ref ∧ Paired (fun p kv => SqT K H p [kV kv.1, kv.2]) as kvs ∧ RPs D μ H rs (mergeK qs kvs)
  | _, _, ps, rs, qs, .nil, h, r => by cases h; exact ⟨[], [], rfl, .nil, r⟩
  | _, _, ps, rs, qs, @RVs.cons _ _ _ x u xs us rx rr, h, r => by
    simp only [mkD] at h
    cases e : pairO x with
    | none => rw [e] at h; cases h
    | some p =>
      rw [e] at h
      have ex := pairO_of e
      subst ex
      cases rx with
      | @tup _ ys a ha rt =>
        obtain ⟨w, z, rfl, r1, r2⟩ := rvs2 rt
        cases e2 : putD p.1 p.2 ps with
        | none => simp only [e2] at h; cases h
        | some ps' =>
          simp only [e2] at h
          obtain ⟨k, rk, rfl⟩ := isKey_of r1 (putD_key e2)
          obtain ⟨as, kvs, e3, hp, hm⟩ := mkD_ok hK rr h (putD_ok rk r2 r e2)
          subst e3
          exact ⟨a :: as, (k, z) :: kvs, rfl, .cons (by rw [hK]; exact ha.sq) hp, hm⟩
theorem bi_ok (G : D.Ok) (hK : X.K = D.K) (kg : KdGet D X) (hc : X.calm = true) (f : BF) : CallR X (valB f) (rBi D f) := by
  intro pins s σ H us ws Q I r h
  obtain ⟨μ, L, vs, k, R, rv, h, p⟩ := h
  have kt : ∀ a ps, D.kd a ps → ∃ o, D.K.lookup a = some o ∧ o.cls = .type "dict" := fun a ps e => by rw [← hK]; exact (kg.ty pins s σ H a ps I e).2
  cases f with
  | abs =>
    obtain ⟨v, rfl, h1⟩ := one_of (show (one vs _).holds from h)
    obtain ⟨i, rfl, h2⟩ := int_of h1
    obtain ⟨u, rfl, ru⟩ := rvs1 rv
    rw [frI_eq] at h2
    rw [rv_int ru] at r
    exact call_abs pins s σ H _ ws Q I r ⟨i, rfl, by rw [← absI_eq]; exact p _ L μ H _ Ext.refl R (.int _) h2⟩
  | len =>
    obtain ⟨v, rfl, h1⟩ := one_of (show (one vs _).holds from h)
    obtain ⟨u, rfl, ru⟩ := rvs1 rv
    have fin : ∀ {n : Nat}, (frN n fun n => k (.int (.ofNat n)) L).holds → Q (.int n) H := fun {n} h => by
      rw [frN_eq] at h
      exact p _ L μ H _ Ext.refl R (.int _) h
    cases ru with
    | str z =>
      simp only [lenE] at h1
      obtain ⟨h2, h3⟩ := line_of h1
      exact call_len_str pins s σ H _ ws Q I r ⟨_, rfl, by rw [toS_length]; exact h2, by rw [toS_length]; exact fin h3⟩
    | @tup xs ys a hq hr =>
      simp only [lenE] at h1
      have hq := hq.sq
      rw [← hK] at hq
      exact call_len_seq pins s σ H _ ws Q I r ⟨a, ys, rfl, .inr hq, by rw [← hr.length]; exact fin h1⟩
    | vl g1 g2 =>
      simp only [lenE] at h1
      exact call_len_seq pins s σ H _ ws Q I r ⟨_, _, rfl, .inl (.inl (.inr ⟨_, g1⟩)), by rw [← g2.length]; exact fin h1⟩
    | @ref i a e =>
      simp only [lenE] at h1
      cases q : L.get i with
      | none => rw [q] at h1; exact h1.elim
      | some o =>
        rw [q] at h1
        cases o with
        | lst xs =>
          obtain ⟨a', us, e1, e2, h2, h3⟩ := lst_at R (.ref e) q
          cases e1
          exact call_len_seq pins s σ H _ ws Q I r ⟨a, us, rfl, .inl (SqL.of h2), by rw [← h3.length]; exact fin h1⟩
        | fdct ps => exact h1.elim
        | dead => exact h1.elim
        | dct ps =>
          obtain ⟨a', us, e1, e2, h2, h3⟩ := dct_at R (.ref e) q
          cases e1
          obtain ⟨w1, rfl, rw1⟩ := vals1 r
          obtain rfl : w1 = Value.ref a := rw1
          exact d_len I (.inl h2) fun t s' I' => ⟨.int _, H, I', ⟨t, rfl⟩, by rw [← RPs.length h3]; exact fin h1⟩
    | _ => exact h1.elim
  | isinst =>
    obtain ⟨v, t, rfl, h1⟩ := pair_of (show (pairK vs _).holds from h)
    obtain ⟨u, z, rfl, ru, rz⟩ := rvs2 rv
    obtain ⟨c, hc1, h2⟩ := someK_of h1
    obtain ⟨ty, hc2⟩ := kind_ok kt R ru hc1
    rw [← hK] at ty
    cases rz with
    | @ty n T hn =>
      simp only [isiK] at h2
      obtain ⟨b, hb, h3⟩ := rigO_of h2
      cases hb
      exact call_isi pins s σ H _ ws Q I r ⟨u, _, _, _, _, rfl, .ty T, ty, kit_ty X.K c n T hc2 hn, p _ L μ H _ Ext.refl R (.bl _) h3⟩
    | @tup xs ys a hq hr =>
      simp only [isiK] at h2
      obtain ⟨b, hb, h3⟩ := rigO_of h2
      obtain ⟨cs, h4, h5⟩ := kit_tys X.K hc2 hr hb
      rcases hq with hq | ⟨o, its, n, hk, hcl, hd, _, hv⟩
      · exact call_isiT pins s σ H _ ws Q I r ⟨u, a, ys, _, cs, b, rfl, hq, h4, ty, h5, p _ L μ H _ Ext.refl R (.bl _) h3⟩
      · have e := ClsV.all h4 hv
        obtain ⟨oc, od, dt, sl⟩ := o
        simp only at hcl hd
        subst hcl hd
        exact call_isiK pins s σ H _ ws Q I r ⟨u, a, od, cs, n, sl, _, b, rfl, by rw [hK, hk, ← e], ty, h5, p _ L μ H _ Ext.refl R (.bl _) h3⟩
    | _ => exact h2.elim
  | all =>
    obtain ⟨v, rfl, h1⟩ := one_of (show (one vs _).holds from h)
    obtain ⟨u, rfl, ru⟩ := rvs1 rv
    obtain ⟨a, xs, us, rfl, h4, h5, h3⟩ := row_of R ru h1
    obtain ⟨b, hb, h6⟩ := rigO_of h3
    obtain ⟨bs, rfl, rfl⟩ := allBl_ok h5 hb
    exact cr_all hc pins s σ H _ ws Q I r ⟨a, bs, rfl, .inl h4, p _ L μ H _ Ext.refl R (.bl _) h6⟩
  | any =>
    obtain ⟨v, rfl, h1⟩ := one_of (show (one vs _).holds from h)
    obtain ⟨u, rfl, ru⟩ := rvs1 rv
    obtain ⟨a, xs, us, rfl, h4, h5, h3⟩ := row_of R ru h1
    obtain ⟨b, hb, h6⟩ := rigO_of h3
    obtain ⟨bs, rfl, rfl⟩ := anyBl_ok h5 hb
    exact cr_any hc pins s σ H _ ws Q I r ⟨a, bs, rfl, .inl h4, p _ L μ H _ Ext.refl R (.bl _) h6⟩
  | list =>
    obtain ⟨v, rfl, h1⟩ := one_of (show (one vs _).holds from h)
    obtain ⟨u, rfl, ru⟩ := rvs1 rv
    cases ru with
    | @tup xs ys a hq hr =>
      simp only [listE] at h1
      have hq := hq.sq
      rw [← hK] at hq
      refine call_list_of pins s σ H _ ws Q I r ⟨a, ys, rfl, .inr hq, fun pp hp => ?_⟩
      obtain ⟨L', ext, R', en, _, hk⟩ := new_ok (u := .lst ys) G R hp _ h1 fun e => ⟨_, upd_same, hr.mono e⟩
      exact p _ L' _ _ _ ext R' (.ref en) hk
    | @vl xs ys a od hq hr =>
      simp only [listE] at h1
      refine call_list_of pins s σ H _ ws Q I r ⟨a, ys, rfl, .inl (.inl (.inr ⟨_, hq⟩)), fun pp hp => ?_⟩
      obtain ⟨L', ext, R', en, _, hk⟩ := new_ok (u := .lst ys) G R hp _ h1 fun e => ⟨_, upd_same, hr.mono e⟩
      exact p _ L' _ _ _ ext R' (.ref en) hk
    | @ref i a e =>
      simp only [listE] at h1
      cases q : L.get i with
      | none => rw [q] at h1; exact h1.elim
      | some o =>
        rw [q] at h1
        cases o with
        | fdct ps => exact h1.elim
        | dead => exact h1.elim
        | lst xs =>
          obtain ⟨a', us, q1, e2, h3, h4⟩ := lst_at R (.ref e) q
          cases q1
          refine call_list_of pins s σ H _ ws Q I r ⟨a, us, rfl, .inl (SqL.of h3), fun pp hp => ?_⟩
          obtain ⟨L', ext, R', en, _, hk⟩ := new_ok (u := .lst us) G R hp _ h1 fun e => ⟨_, upd_same, h4.mono e⟩
          exact p _ L' _ _ _ ext R' (.ref en) hk
        | dct ps =>
          obtain ⟨a', us, q1, e2, h3, h4⟩ := dct_at R (.ref e) q
          cases q1
          refine call_listD hc pins s σ H _ ws Q I r ⟨a, us, rfl, .inl h3, fun pp hp => ?_⟩
          obtain ⟨L', ext, R', en, _, hk⟩ := new_ok (u := .lst (us.map fun kv => kV kv.1)) G R hp _ h1 fun e => ⟨_, upd_same, (RPs.keys h4).mono e⟩
          exact p _ L' _ _ _ ext R' (.ref en) hk
    | str z =>
      simp only [listE] at h1
      obtain ⟨hz, h2⟩ := line_of h1
      obtain ⟨w1, rfl, rw1⟩ := vals1 r
      obtain ⟨t, rfl⟩ := rw1
      refine call_list_str (hn := by rw [show (toS z).cps.size = z.length from toS_length z]; exact hz) (I.ok.hd hc) (toS z) t fun h' tk acc c hk hS hacc => ?_
      have hpn : H s.heap.objs.size = none := I.hok.fresh (Nat.le_refl _)
      have hv : Vals (z.map fun c => V.str ⟨#[c]⟩) acc.toList := signs_vals (by rw [Array.length_toList]; exact hacc.1) fun j v e => by
        obtain ⟨c, u, h1, h2⟩ := hacc.2 j v (by rw [← Array.getElem?_toList]; exact e)
        exact ⟨c, u, by simpa [toS] using h1, h2⟩
      obtain ⟨L', ext, R', en, _, hk2⟩ := new_ok (u := .lst (z.map fun c => V.str ⟨#[c]⟩)) G R hpn _ h2 fun e => ⟨_, upd_same, codes_RVs z⟩
      exact ⟨.ref s.heap.objs.size, upd H s.heap.objs.size (.lst (z.map fun c => V.str ⟨#[c]⟩)), I.laid (t' := tk) hk (Nat.le_refl _)
        (show ObjOk X.prog X.w _ _ _ (.lst _) from ⟨by rw [List.length_map]; exact hz, acc.toList, c, hv, by rw [Array.toArray_toList]; exact hS⟩), rfl, p _ L' _ _ _ ext R' (.ref en) hk2⟩
    | _ => exact h1.elim
  | vlist =>
    obtain ⟨v, rfl, h1⟩ := one_of (show (one vs _).holds from h)
    obtain ⟨u, rfl, ru⟩ := rvs1 rv
    have fin : ∀ {xs : List EV} {us : List V} {pp : Addr}, H pp = none → RVs D μ H xs us → (appK xs [] fun xs => k (.vl xs) L).holds → Fz (Q (.ref pp)) (upd H pp (.lst us)) := fun {xs us pp} hp rr g => fz_new fun od => by
      rw [appK_eq, List.append_nil] at g
      obtain ⟨e1, R1, r1⟩ := new_vl G R hp rr od
      exact p _ L μ _ _ e1 R1 r1 g
    refine thn (Q := EP X pins σ fun v H1 => Fz (Q v) H1) ?_ fun _ _ => fz_ep
    cases ru with
    | @tup xs ys a hq hr =>
      have hq := hq.sq
      rw [← hK] at hq
      exact call_list_of pins s σ H _ ws _ I r ⟨a, ys, rfl, .inr hq, fun pp hp => fin hp hr h1⟩
    | @vl xs ys a od hq hr => exact call_list_of pins s σ H _ ws _ I r ⟨a, ys, rfl, .inl (.inl (.inr ⟨_, hq⟩)), fun pp hp => fin hp hr h1⟩
    | @ref i a e =>
      simp only [listE] at h1
      cases q : L.get i with
      | none => rw [q] at h1; exact h1.elim
      | some o =>
        rw [q] at h1
        cases o with
        | fdct ps => exact h1.elim
        | dead => exact h1.elim
        | lst xs =>
          obtain ⟨a', us, q1, e2, h3, h4⟩ := lst_at R (.ref e) q
          cases q1
          exact call_list_of pins s σ H _ ws _ I r ⟨a, us, rfl, .inl (SqL.of h3), fun pp hp => fin hp h4 h1⟩
        | dct ps =>
          obtain ⟨a', us, q1, e2, h3, h4⟩ := dct_at R (.ref e) q
          cases q1
          exact call_listD hc pins s σ H _ ws _ I r ⟨a, us, rfl, .inl h3, fun pp hp => fin hp (RPs.keys h4) h1⟩
    | str z =>
      simp only [listE] at h1
      obtain ⟨hz, h2⟩ := line_of h1
      obtain ⟨w1, rfl, rw1⟩ := vals1 r
      obtain ⟨t, rfl⟩ := rw1
      refine call_list_str (hn := by rw [show (toS z).cps.size = z.length from toS_length z]; exact hz) (I.ok.hd hc) (toS z) t fun h' tk acc c hk hS hacc => ?_
      have hpn : H s.heap.objs.size = none := I.hok.fresh (Nat.le_refl _)
      have hv : Vals (z.map fun c => V.str ⟨#[c]⟩) acc.toList := signs_vals (by rw [Array.length_toList]; exact hacc.1) fun j v e => by
        obtain ⟨c, u, h1, h2⟩ := hacc.2 j v (by rw [← Array.getElem?_toList]; exact e)
        exact ⟨c, u, by simpa [toS] using h1, h2⟩
      exact ⟨.ref s.heap.objs.size, upd H s.heap.objs.size (.lst (z.map fun c => V.str ⟨#[c]⟩)), I.laid (t' := tk) hk (Nat.le_refl _)
        (show ObjOk X.prog X.w _ _ _ (.lst _) from ⟨by rw [List.length_map]; exact hz, acc.toList, c, hv, by rw [Array.toArray_toList]; exact hS⟩), rfl, fin hpn (codes_RVs z) h2⟩
    | _ => exact h1.elim
  | dict =>
    obtain ⟨v, rfl, h1⟩ := one_of (show (one vs _).holds from h)
    obtain ⟨u, rfl, ru⟩ := rvs1 rv
    obtain ⟨a, xs, us, rfl, h4, h5, h3⟩ := row_of R ru h1
    obtain ⟨ps, hm, h6⟩ := someK_of h3
    rw [frcK_eq] at h6
    obtain ⟨as, kvs, ea, hp, hr⟩ := mkD_ok (K := D.K) rfl h5 hm (qs := []) True.intro
    subst ea
    refine call_dictP hc pins s σ H _ ws Q I r ⟨a, as, kvs, rfl, .inl h4, by rw [hK]; exact hp, fun pp hpn => ?_⟩
    obtain ⟨L', ext, R', en, _, hk⟩ := new_ok (u := .dK (mergeK [] kvs)) G R hpn _ h6 fun e => ⟨_, upd_same, RPs.mono e hr⟩
    exact p _ L' _ _ _ ext R' (.ref en) hk
  | tuple =>
    obtain ⟨v, rfl, h1⟩ := one_of (show (one vs _).holds from h)
    obtain ⟨u, rfl, ru⟩ := rvs1 rv
    cases ru with
    | @tup xs ys a hq hr =>
      simp only [seqE] at h1
      have hq' := hq.sq
      rw [← hK] at hq'
      exact call_tuple_of pins s σ H _ ws Q I r ⟨a, ys, rfl, .inr ⟨hq', p _ L μ H _ Ext.refl R (.tup hq hr) h1⟩⟩
    | @vl xs ys a od hq hr =>
      simp only [seqE] at h1
      refine call_tuple_of pins s σ H _ ws Q I r ⟨a, ys, rfl, .inl ⟨.inl (.inr ⟨_, hq⟩), fun pp hp => ?_⟩⟩
      obtain ⟨ext, R'⟩ := ext_tup (u := .tup ys) G R hp
      exact p _ L _ _ _ ext R' (.tup (.inl upd_same) (hr.mono ext)) h1
    | @ref i a e =>
      simp only [seqE] at h1
      obtain ⟨xs, e1, h2⟩ := lst_of h1
      obtain ⟨a', us, q1, e2, h3, h4⟩ := lst_at R (.ref e) e1
      cases q1
      refine call_tuple_of pins s σ H _ ws Q I r ⟨a, us, rfl, .inl ⟨SqL.of h3, fun pp hp => ?_⟩⟩
      obtain ⟨ext, R'⟩ := ext_tup (u := .tup us) G R hp
      exact p _ L _ _ _ ext R' (.tup (.inl upd_same) (h4.mono ext)) h2
    | _ => exact h1.elim
  | int =>
    obtain ⟨v, rfl, h1⟩ := one_of (show (one vs _).holds from h)
    obtain ⟨u, rfl, ru⟩ := rvs1 rv
    cases ru with
    | int i => exact call_int1 pins s σ H _ ws Q I r (.inl ⟨i, rfl, p _ L μ H _ Ext.refl R (.int _) h1⟩)
    | bl b => exact call_int1 pins s σ H _ ws Q I r (.inr ⟨b, rfl, by rw [← b2I_eq]; exact p _ L μ H _ Ext.refl R (.int _) h1⟩)
    | _ => exact h1.elim
  | max =>
    obtain ⟨v, w, rfl, h1⟩ := pair_of (show (pairK vs _).holds from h)
    obtain ⟨u, z, rfl, ru, rz⟩ := rvs2 rv
    obtain ⟨i, j, rfl, rfl, h2⟩ := two_of h1
    rw [rv_int ru, rv_int rz] at r
    refine call_max2 hc pins s σ H _ ws Q I r ⟨i, j, rfl, ?_⟩
    rcases ifB_of h2 with ⟨c, h3⟩ | ⟨c, h3⟩ <;> rw [ltI_eq] at c
    · rw [if_pos (show j > i from of_decide_eq_true c)]; exact p _ L μ H _ Ext.refl R (.int _) h3
    · rw [if_neg (show ¬ j > i from of_decide_eq_false c)]; exact p _ L μ H _ Ext.refl R (.int _) h3
  | min =>
    obtain ⟨v, w, rfl, h1⟩ := pair_of (show (pairK vs _).holds from h)
    obtain ⟨u, z, rfl, ru, rz⟩ := rvs2 rv
    obtain ⟨i, j, rfl, rfl, h2⟩ := two_of h1
    rw [rv_int ru, rv_int rz] at r
    refine call_min2 hc pins s σ H _ ws Q I r ⟨i, j, rfl, ?_⟩
    rcases ifB_of h2 with ⟨c, h3⟩ | ⟨c, h3⟩ <;> rw [ltI_eq] at c
    · rw [if_pos (show j < i from of_decide_eq_true c)]; exact p _ L μ H _ Ext.refl R (.int _) h3
    · rw [if_neg (show ¬ j < i from of_decide_eq_false c)]; exact p _ L μ H _ Ext.refl R (.int _) h3
end
end Ev

set_option Elab.async false
set_option linter.all false
set_option maxRecDepth 100000
set_option maxHeartbeats 4000000
/-! EvE3: expressions: what is looked at, what their runs serve. -/
namespace Ev
open PySem PySem.Spec PyProof.Rows L2
/-- the names of a def's slots; of the module's things that are asked for; of the defs -/
structure Sx where
  N : List Str
  gl : List Str
  fn : List Str
def visB (sc : Scope) (x : Str) : Bool := match sc.names.lookup x with
  | some .local => true
  | some .cell => true
  | some .free => true
  | _ => false
theorem vis_of {sc : Scope} {x : Str} (h : visB sc x = true) : Vis sc x := by
  unfold visB at h
  unfold Vis
  cases e : sc.names.lookup x with
  | none => rw [e] at h; cases h
  | some k => rw [e] at h; cases k <;> first | cases h; done | simp
def gloB (sc : Scope) (x : Str) : Bool := decide (sc.names.lookup x = some .globalImplicit) && !(x == ("__debug__" : Str))
/-- the context, in the state of things that all parts of a def's text share -/
structure Cok (D : Gd) (S : Sx) (sc : Scope) (rm : Nat) (gv : Str → Option V) (X : Cx) : Prop where
  K : X.K = D.K
  sc : X.env.scope = sc
  N : X.N = S.N
  nd : X.N.Nodup
  calm : X.calm = true
  room : Room rm X.A
  ok : D.Ok
  kg : KdGet D X
  free : ∀ T, (T = "int" ∨ T = "bool" ∨ T = "str" ∨ T = "list" ∨ T = "tuple" ∨ T = "dict" ∨ T = "abs" ∨ T = "len" ∨ T = "isinstance" ∨ T = "all" ∨ T = "any" ∨ T = "max" ∨ T = "min" ∨ T = "range" ∨ T = "zip" ∨ T = "enumerate") → X.mg (Str.ofString T) = none
section
variable {D : Gd} {S : Sx} {sc : Scope} {rm : Nat} {gv : Str → Option V} {X : Cx} {En0 : En}
def PostT (D : Gd) (μ : List Addr) (H : Hp) (k : KV) (Q : Bool → Hp → Prop) : Prop := ∀ b L' μ' H', Ext D μ H μ' H' → Rep D μ' L' H' → (k (.bl b) L').holds → Q b H'
theorem PostT.mono {μ μ1 : List Addr} {H H1 : Hp} (e : Ext D μ H μ1 H1) {k : KV} {Q : Bool → Hp → Prop} (p : PostT D μ H k Q) : PostT D μ1 H1 k Q := fun b L' μ' H' x r h => p b L' μ' H' (e.trans x) r h
def tev (D : Gd) (E : En) (m : ME) : TE := fun σ H Q => ∃ μ s L k, RS D μ H s σ ∧ Rep D μ L H ∧ (ev m E false s L k).holds ∧ PostV D μ H k Q
def ttv (D : Gd) (E : En) (m : ME) : TT := fun σ H Q => ∃ μ s L k, RS D μ H s σ ∧ Rep D μ L H ∧ (ev m E true s L k).holds ∧ PostT D μ H k Q
def Ms.len : Ms → Nat
  | .nil => 0
  | .cons _ r => r.len + 1
def tevs (D : Gd) (E : En) (ms : Ms) : TA := fun σ H Q => ∃ μ s L k, RS D μ H s σ ∧ Rep D μ L H ∧ (evs ms E s L k).holds ∧ PostA D ms.len μ H k Q
theorem truB_V {μ : List Addr} {H : Hp} {L : LH} (R : Rep D μ L H) {v : EV} {u : V} (r : RV D μ H v u) {k : KV} (h : (truB v L k).holds) : ∃ b, TruV D.K u H b ∧ (k (.bl b) L).holds := by
  have gen : (tru L v fun b => k (.bl b) L).holds → ∃ b, TruV D.K u H b ∧ (k (.bl b) L).holds := fun h => tru_V R r (k := fun b => k (.bl b) L) h
  cases v with
  | bl b => cases r; exact ⟨b, rfl, h⟩
  | _ => exact gen h
/-- a test by its value's truth -/
theorem pt_of {e : Expr} {m : ME} (C : Cok D S sc rm gv X) (h : PE X e (tev D En0 m)) (he : ∀ whole, isTrue e X.env whole = (do let v ← whole; standAt e.pos; holding [v] (truthy v)))
    (hm : ∀ s L k, ev m En0 true s L k = ev m En0 false s L fun v L => truB v L k) : PT X e (ttv D En0 m) := by
  refine PT.imp (pt_truth h he) fun σ H Q ⟨μ, s, L, k, rs, R, hk, p⟩ => ?_
  rw [hm] at hk
  refine ⟨μ, s, L, _, rs, R, hk, fun v L' μ' H' u x R' r h => ?_⟩
  obtain ⟨b, h1, h2⟩ := truB_V R' r h
  exact ⟨b, by rw [C.K]; exact h1, p b L' μ' H' x R' h2⟩
/-! ### one lemma a construct -/
theorem e_int {i : Int} {j pos} : PE X (.Constant (.int i) j pos) (tev D En0 (.k (.int i))) := PE.imp pe_int fun σ H Q ⟨μ, s, L, k, rs, R, hk, p⟩ => p _ L μ H _ Ext.refl R (.int i) hk
theorem e_bl {i : Bool} {j pos} : PE X (.Constant (.bool i) j pos) (tev D En0 (.k (.bl i))) := PE.imp pe_bl fun σ H Q ⟨μ, s, L, k, rs, R, hk, p⟩ => p _ L μ H _ Ext.refl R (.bl i) hk
theorem e_non {j pos} : PE X (.Constant .none j pos) (tev D En0 (.k .non)) := PE.imp pe_non fun σ H Q ⟨μ, s, L, k, rs, R, hk, p⟩ => p _ L μ H _ Ext.refl R .non hk
theorem e_str {x : Str} {t : List Nat} {j pos} (hx : x = toS t) : PE X (.Constant (.str x) j pos) (tev D En0 (.k (.str t))) := by
  subst hx
  exact PE.imp pe_str fun σ H Q ⟨μ, s, L, k, rs, R, hk, p⟩ => p _ L μ H _ Ext.refl R (.str t) hk
theorem slot_of {s : SL} {i : Nat} {k : EV → T} (h : (slotE s i k).holds) : ∃ v, s[i]? = some (some v) ∧ (k v).holds := by
  unfold slotE at h
  cases e : s[i]? with
  | none => rw [e] at h; exact h.elim
  | some o =>
    rw [e] at h
    obtain ⟨v, rfl, h1⟩ := someK_of h
    exact ⟨v, rfl, h1⟩
theorem e_var {i : Nat} {x : Str} {pos} (hN : X.N[i]? = some x) (hv : Vis X.env.scope x) (hd : (x == ("__debug__" : Str)) = false) (hcd : (x == ("__classdict__" : Str)) = false) : PE X (.Name x pos) (tev D En0 (.v i)) := by
  refine PE.imp (pe_var hN hv hd hcd) fun σ H Q ⟨μ, s, L, k, rs, R, hk, p⟩ => ?_
  simp only [ev] at hk
  obtain ⟨v, e, h1⟩ := slot_of hk
  obtain ⟨u, e2, r⟩ := rs.2 i v e
  exact ⟨u, e2, p _ L μ H _ Ext.refl R r h1⟩
theorem e_bin (C : Cok D S sc rm gv X) {op : BO} {a b : ME} {ea eb : Expr} {pos} (ha : PE X ea (tev D En0 a)) (hb : PE X eb (tev D En0 b)) : PE X (.BinOp ea (opB op) eb pos) (tev D En0 (.bin op a b)) := by
  refine PE.imp (pe_op (bin_ok C.ok op) ha hb) fun σ H Q ⟨μ, s, L, k, rs, R, hk, p⟩ => ?_
  refine ⟨μ, s, L, _, rs, R, hk, fun x L1 μ1 H1 u e1 R1 r1 h1 => ⟨μ1, s, L1, _, rs.mono e1, R1, h1, fun y L2 μ2 H2 w e2 R2 r2 h2 => ?_⟩⟩
  exact ⟨μ2, L2, x, y, _, R2, r1.mono e2, r2, h2, (p.mono e1).mono e2⟩
theorem e_cmp (C : Cok D S sc rm gv X) (hu : X.A.units + 65 < cLine) {op : CO} {a b : ME} {ea eb : Expr} {pos} (ha : PE X ea (tev D En0 a)) (hb : PE X eb (tev D En0 b)) (hm : behindInMarks (opC op) eb = false) :
    PE X (.Compare ea [opC op] [eb] pos) (tev D En0 (.cmp op a b)) := by
  refine PE.imp (pe_cmpR (cmp_ok C.K C.kg hu op) ha hb hm) fun σ H Q ⟨μ, s, L, k, rs, R, hk, p⟩ => ?_
  refine ⟨μ, s, L, _, rs, R, hk, fun x L1 μ1 H1 u e1 R1 r1 h1 => ⟨μ1, s, L1, _, rs.mono e1, R1, h1, fun y L2 μ2 H2 w e2 R2 r2 h2 => ?_⟩⟩
  exact ⟨μ2, L2, x, y, _, R2, r1.mono e2, r2, h2, fun b hb => (p.mono e1).mono e2 _ L2 μ2 H2 _ Ext.refl R2 (.bl b) (by cases b <;> exact hb)⟩
theorem t_cmp (C : Cok D S sc rm gv X) (hu : X.A.units + 65 < cLine) {op : CO} {a b : ME} {ea eb : Expr} {pos} (ha : PE X ea (tev D En0 a)) (hb : PE X eb (tev D En0 b)) (hm : behindInMarks (opC op) eb = false) :
    PT X (.Compare ea [opC op] [eb] pos) (ttv D En0 (.cmp op a b)) := by
  refine PT.imp (pt_cmpR (cmp_ok C.K C.kg hu op) ha hb hm) fun σ H Q ⟨μ, s, L, k, rs, R, hk, p⟩ => ?_
  refine ⟨μ, s, L, _, rs, R, hk, fun x L1 μ1 H1 u e1 R1 r1 h1 => ⟨μ1, s, L1, _, rs.mono e1, R1, h1, fun y L2 μ2 H2 w e2 R2 r2 h2 => ?_⟩⟩
  exact ⟨μ2, L2, x, y, _, R2, r1.mono e2, r2, h2, fun b hb => ⟨b, rfl, (p.mono e1).mono e2 b L2 μ2 H2 Ext.refl R2 (by cases b <;> exact hb)⟩⟩
theorem e_idx (C : Cok D S sc rm gv X) (hu : X.A.units + 65 < cLine) {a b : ME} {ea eb : Expr} {pos} (ha : PE X ea (tev D En0 a)) (hb : PE X eb (tev D En0 b)) (hs : PlainIx eb) : PE X (.Subscript ea eb pos) (tev D En0 (.idx a b)) := by
  refine PE.imp (pe_ix (idx_ok C.K C.kg hu) ha hb hs) fun σ H Q ⟨μ, s, L, k, rs, R, hk, p⟩ => ?_
  refine ⟨μ, s, L, _, rs, R, hk, fun x L1 μ1 H1 u e1 R1 r1 h1 => ⟨μ1, s, L1, _, rs.mono e1, R1, h1, fun y L2 μ2 H2 w e2 R2 r2 h2 => ?_⟩⟩
  exact ⟨μ2, L2, x, y, _, R2, r1.mono e2, r2, h2, fun v u' r h => (p.mono e1).mono e2 _ L2 μ2 H2 _ Ext.refl R2 r h⟩
theorem isBl_of {v : EV} {a b : Unit → T} (h : (isBl v a b).holds) : ∃ c, v = .bl c ∧ (if c = true then a () else b ()).holds := by
  cases v with
  | bl c => cases c <;> exact ⟨_, rfl, h⟩
  | _ => exact h.elim
theorem e_neg {a : ME} {ea : Expr} {pos} (ha : PE X ea (tev D En0 a)) : PE X (.UnaryOp .USub ea pos) (tev D En0 (.neg a)) := by
  refine PE.imp (pe_un un_neg ha) fun σ H Q ⟨μ, s, L, k, rs, R, hk, p⟩ => ?_
  refine ⟨μ, s, L, _, rs, R, hk, fun x L1 μ1 H1 u e1 R1 r1 h1 => ?_⟩
  cases r1 with
  | int i =>
    simp only [negE, frI_eq] at h1
    exact ⟨i, rfl, p _ L1 μ1 H1 _ e1 R1 (.int _) h1⟩
  | _ => exact h1.elim
theorem e_not (C : Cok D S sc rm gv X) {a : ME} {ea : Expr} {pos} (ha : PE X ea (tev D En0 a)) : PE X (.UnaryOp .Not ea pos) (tev D En0 (.not a)) := by
  refine PE.imp (pe_notT ha) fun σ H Q ⟨μ, s, L, k, rs, R, hk, p⟩ => ?_
  refine ⟨μ, s, L, _, rs, R, hk, fun x L1 μ1 H1 u e1 R1 r1 h1 => ?_⟩
  obtain ⟨b, h2, h3⟩ := tru_V R1 r1 h1
  exact ⟨b, by rw [C.K]; exact h2, p _ L1 μ1 H1 _ e1 R1 (.bl _) (by cases b <;> exact h3)⟩
theorem t_not {a : ME} {ea : Expr} {pos} (ha : PT X ea (ttv D En0 a)) : PT X (.UnaryOp .Not ea pos) (ttv D En0 (.not a)) := by
  refine PT.imp (pt_not ha) fun σ H Q ⟨μ, s, L, k, rs, R, hk, p⟩ => ?_
  refine ⟨μ, s, L, _, rs, R, hk, fun b L1 μ1 H1 e1 R1 h1 => ?_⟩
  exact p _ L1 μ1 H1 e1 R1 (by cases b <;> exact h1)
theorem e_and (C : Cok D S sc rm gv X) {a b : ME} {ea eb : Expr} {er : List Expr} {pos} (ha : PE X ea (tev D En0 a)) (hb : PE X (.BoolOp .And (eb :: er) pos) (tev D En0 b)) : PE X (.BoolOp .And (ea :: eb :: er) pos) (tev D En0 (.and a b)) := by
  refine PE.imp (pe_andT ha hb) fun σ H Q ⟨μ, s, L, k, rs, R, hk, p⟩ => ?_
  refine ⟨μ, s, L, _, rs, R, hk, fun x L1 μ1 H1 u e1 R1 r1 h1 => ?_⟩
  obtain ⟨c, h2, h3⟩ := tru_V R1 r1 h1
  refine ⟨c, by rw [C.K]; exact h2, ?_⟩
  cases c with
  | true => exact ⟨μ1, s, L1, _, rs.mono e1, R1, h3, p.mono e1⟩
  | false => exact p _ L1 μ1 H1 _ e1 R1 r1 h3
theorem e_or (C : Cok D S sc rm gv X) {a b : ME} {ea eb : Expr} {er : List Expr} {pos} (ha : PE X ea (tev D En0 a)) (hb : PE X (.BoolOp .Or (eb :: er) pos) (tev D En0 b)) : PE X (.BoolOp .Or (ea :: eb :: er) pos) (tev D En0 (.or a b)) := by
  refine PE.imp (pe_orT ha hb) fun σ H Q ⟨μ, s, L, k, rs, R, hk, p⟩ => ?_
  refine ⟨μ, s, L, _, rs, R, hk, fun x L1 μ1 H1 u e1 R1 r1 h1 => ?_⟩
  obtain ⟨c, h2, h3⟩ := tru_V R1 r1 h1
  refine ⟨c, by rw [C.K]; exact h2, ?_⟩
  cases c with
  | true => exact p _ L1 μ1 H1 _ e1 R1 r1 h3
  | false => exact ⟨μ1, s, L1, _, rs.mono e1, R1, h3, p.mono e1⟩
theorem t_and {a b : ME} {ea eb : Expr} {er : List Expr} {pos} (ha : PT X ea (ttv D En0 a)) (hb : PW X (.BoolOp .And (eb :: er) pos) (ttv D En0 b)) : PW X (.BoolOp .And (ea :: eb :: er) pos) (ttv D En0 (.and a b)) := by
  refine ⟨fun wh pins s0 σ H Q I ⟨μ, s, L, k, rs, R, hk, p⟩ => (pw_and ha hb).run wh pins s0 σ H Q I ?_⟩
  refine ⟨μ, s, L, _, rs, R, hk, fun c L1 μ1 H1 e1 R1 h1 => ?_⟩
  cases c with
  | true => exact ⟨μ1, s, L1, _, rs.mono e1, R1, h1, p.mono e1⟩
  | false => exact p _ L1 μ1 H1 e1 R1 h1
theorem t_or {a b : ME} {ea eb : Expr} {er : List Expr} {pos} (ha : PT X ea (ttv D En0 a)) (hb : PW X (.BoolOp .Or (eb :: er) pos) (ttv D En0 b)) : PW X (.BoolOp .Or (ea :: eb :: er) pos) (ttv D En0 (.or a b)) := by
  refine ⟨fun wh pins s0 σ H Q I ⟨μ, s, L, k, rs, R, hk, p⟩ => (pw_or ha hb).run wh pins s0 σ H Q I ?_⟩
  refine ⟨μ, s, L, _, rs, R, hk, fun c L1 μ1 H1 e1 R1 h1 => ?_⟩
  cases c with
  | true => exact p _ L1 μ1 H1 e1 R1 h1
  | false => exact ⟨μ1, s, L1, _, rs.mono e1, R1, h1, p.mono e1⟩
theorem e_ite {c a b : ME} {ec ea eb : Expr} {pos} (hc : PT X ec (ttv D En0 c)) (ha : PE X ea (tev D En0 a)) (hb : PE X eb (tev D En0 b)) : PE X (.IfExp ec ea eb pos) (tev D En0 (.ite c a b)) := by
  refine PE.imp (pe_ifExp hc ha hb) fun σ H Q ⟨μ, s, L, k, rs, R, hk, p⟩ => ?_
  refine ⟨μ, s, L, _, rs, R, hk, fun c L1 μ1 H1 e1 R1 h1 => ?_⟩
  cases c with
  | true => exact ⟨μ1, s, L1, _, rs.mono e1, R1, h1, p.mono e1⟩
  | false => exact ⟨μ1, s, L1, _, rs.mono e1, R1, h1, p.mono e1⟩
end
end Ev

set_option Elab.async false
set_option linter.all false
set_option maxRecDepth 100000
set_option maxHeartbeats 4000000
/-! EvE4: arguments, displays, the module's names, calls. -/
namespace Ev
open PySem PySem.Spec PyProof.Rows L2
def notStar : Expr → Bool
  | .Starred .. => false
  | _ => true
theorem starEach_cons {e : Expr} {es : List Expr} {env : Env} (h : notStar e = true) : starEach (e :: es) env = (false, eval e env) :: starEach es env := by
  cases e <;> first | rfl | cases h
theorem star_none {es : List Expr} {env : Env} (h : es.all notStar = true) : (starEach es env).any (·.1) = false := by
  induction es with
  | nil => rfl
  | cons e r ih =>
    simp only [List.all_cons, Bool.and_eq_true] at h
    rw [starEach_cons h.1]
    simp only [List.any_cons, Bool.false_or]
    exact ih h.2
theorem back_none {es : List Expr} {env : Env} {pos : Pos} (h : es.all notStar = true) : (backTo pos (starEach es env)).any (·.1) = false := by
  unfold backTo
  rw [List.any_map]
  exact star_none h
section
variable {D : Gd} {S : Sx} {sc : Scope} {rm : Nat} {gv : Str → Option V} {X : Cx} {En0 : En}
theorem PA.imp {e : List Expr} {t t' : TA} (h : PA X e t) (f : ∀ σ H Q, t' σ H Q → t σ H Q) : PA X e t' := ⟨fun pos pins s σ H Q I q => h.run pos pins s σ H Q I (f _ _ _ q)⟩
theorem a_nil : PA X [] (tevs D En0 .nil) := PA.imp pa_nil fun σ H Q ⟨μ, s, L, k, rs, R, hk, p⟩ => p _ L μ H _ rfl Ext.refl R .nil hk
theorem a_cons {a : ME} {r : Ms} {ea : Expr} {er : List Expr} (ha : PE X ea (tev D En0 a)) (hr : PA X er (tevs D En0 r)) (hs : notStar ea = true) : PA X (ea :: er) (tevs D En0 (.cons a r)) := by
  refine PA.imp (pa_cons ha hr (starEach_cons hs)) fun σ H Q ⟨μ, s, L, k, rs, R, hk, p⟩ => ?_
  refine ⟨μ, s, L, _, rs, R, hk, fun x L1 μ1 H1 u e1 R1 r1 h1 => ⟨μ1, s, L1, _, rs.mono e1, R1, h1, fun xs L2 μ2 H2 us hl e2 R2 r2 h2 => ?_⟩⟩
  exact p _ L2 μ2 H2 _ (by show xs.length + 1 = r.len + 1; rw [hl]) (e1.trans e2) R2 (.cons (r1.mono e2) r2) h2
theorem e_tup (C : Cok D S sc rm gv X) {es : Ms} {ees : List Expr} {j pos} (ha : PA X ees (tevs D En0 es)) (hl : es.len ≤ 1000) : PE X (.Tuple ees j pos) (tev D En0 (.tup es)) := by
  refine PE.imp (pe_tup ha) fun σ H Q ⟨μ, s, L, k, rs, R, hk, p⟩ => ?_
  refine ⟨μ, s, L, _, rs, R, hk, fun xs L1 μ1 H1 us hn e1 R1 r1 h1 => ?_⟩
  refine ⟨by rw [sizeLine_eq, ← r1.length]; omega, fun pp hp => ?_⟩
  obtain ⟨ext, R'⟩ := ext_tup (u := .tup us) C.ok R1 hp
  exact p _ L1 μ1 _ _ (e1.trans ext) R' (.tup (.inl upd_same) (r1.mono ext)) h1
theorem e_lst (C : Cok D S sc rm gv X) {es : Ms} {ees : List Expr} {pos} (ha : PA X ees (tevs D En0 es)) (hl : es.len ≤ 1000) : PE X (.List ees pos) (tev D En0 (.lst es)) := by
  refine PE.imp (pe_lst ha) fun σ H Q ⟨μ, s, L, k, rs, R, hk, p⟩ => ?_
  refine ⟨μ, s, L, _, rs, R, hk, fun xs L1 μ1 H1 us hn e1 R1 r1 h1 => ?_⟩
  refine ⟨by rw [sizeLine_eq, ← r1.length]; omega, fun pp hp => ?_⟩
  obtain ⟨L', ext, R', en, _, hk'⟩ := new_ok (u := .lst us) C.ok R1 hp _ h1 fun e => ⟨_, upd_same, r1.mono e⟩
  exact p _ L' _ _ _ (e1.trans ext) R' (.ref en) hk'
theorem e_vls (C : Cok D S sc rm gv X) {es : Ms} {ees : List Expr} {pos} (ha : PA X ees (tevs D En0 es)) (hl : es.len ≤ 1000) : PE X (.List ees pos) (tev D En0 (.vls es)) := by
  refine PE.imp (pe_fz (pe_lst ha)) fun σ H Q ⟨μ, s, L, k, rs, R, hk, p⟩ => ?_
  refine ⟨μ, s, L, _, rs, R, hk, fun xs L1 μ1 H1 us hn e1 R1 r1 h1 => ?_⟩
  refine ⟨by rw [sizeLine_eq, ← r1.length]; omega, fun pp hp => fz_new fun od => ?_⟩
  obtain ⟨e2, R2, r2⟩ := new_vl C.ok R1 hp r1 od
  exact p _ L1 μ1 _ _ (e1.trans e2) R2 r2 h1
/-! the module's names -/
theorem e_glo {i : Nat} {x : Str} {v : EV} {u : V} {w : Value} {pos} (hg : Gl X x) (hm : X.mg x = some w) (r : L2.RelV u w) (hG : En0.G[i]? = some v) (hr : ∀ μ H, RV D μ H v u) (hd : (x == ("__debug__" : Str)) = false) : PE X (.Name x pos) (tev D En0 (.g i)) := by
  refine PE.imp (pe_glob hg hm r hd) fun σ H Q ⟨μ, s, L, k, rs, R, hk, p⟩ => ?_
  simp only [ev, gloE, hG] at hk
  exact p _ L μ H _ Ext.refl R (hr _ _) hk
theorem boot_ty : ∀ (n : Nat) (T : String), tyName n = some T → bootBuiltins (Str.ofString T) = some (.type T) ∧ (Str.ofString T) ≠ "__name__" ∧ (Str.ofString T == ("__debug__" : Str)) = false := by
  intro n T h
  match n, h with
  | 0, h => cases h; exact ⟨by decide +kernel, by decide +kernel, by decide +kernel⟩
  | 1, h => cases h; exact ⟨by decide +kernel, by decide +kernel, by decide +kernel⟩
  | 2, h => cases h; exact ⟨by decide +kernel, by decide +kernel, by decide +kernel⟩
  | 3, h => cases h; exact ⟨by decide +kernel, by decide +kernel, by decide +kernel⟩
  | 4, h => cases h; exact ⟨by decide +kernel, by decide +kernel, by decide +kernel⟩
  | 5, h => cases h; exact ⟨by decide +kernel, by decide +kernel, by decide +kernel⟩
  | _ + 6, h => cases h
theorem e_ty {n : Nat} {T : String} {pos} (hn : tyName n = some T) (hg : Gl X (Str.ofString T)) (hm : X.mg (Str.ofString T) = none) : PE X (.Name (Str.ofString T) pos) (tev D En0 (.t n)) := by
  obtain ⟨h1, h2, h3⟩ := boot_ty n T hn
  exact PE.imp (pe_bltn (v := .ty T) hg hm h1 rfl h2 h3) fun σ H Q ⟨μ, s, L, k, rs, R, hk, p⟩ => p _ L μ H _ Ext.refl R (.ty hn) hk
/-! calls -/
/-- what a def promises: what the evaluator says of it -/
def spC (D : Gd) (C : Nat → List EV → LH → KV → T) (n i : Nat) : Sp := fun us H Q _ => us.length = n ∧ ∃ μ L vs k, Rep D μ L H ∧ RVs D μ H vs us ∧ (C i vs L k).holds ∧ PostV D μ H k Q
structure FnH (D : Gd) (E : En) (rm : Nat) (X : Cx) (i : Nat) (x : Str) (n : Nat) : Prop where
  ex : ∃ (f : Addr) (fd : FuncData) (ps : List Str), ps.length = n ∧ FnOk X.prog X.w X.K X.mg X.base CX0 rm f fd ps (spC D E.C n i) ∧ X.mg x = some (.ref f) ∧ PySem.W.keepIn X.K (.ref f) = true ∧ Binds X.K fd ps []
theorem e_call (C : Cok D S sc rm gv X) {i n : Nat} {x : Str} {es : Ms} {ea : Expr} {ees : List Expr} {p pos} (F : FnH D En0 rm X i x n) (hg : Gl X x) (hd : (x == ("__debug__" : Str)) = false) (ha : PA X (ea :: ees) (tevs D En0 es)) (hs : (ea :: ees).all notStar = true)
    (hl : es.len = n) : PE X (.Call (.Name x p) (ea :: ees) [] pos) (tev D En0 (.call i es)) := by
  obtain ⟨f, fd, ps, _, hF, hm, hk, hb⟩ := F.ex
  simp only [List.all_cons, Bool.and_eq_true] at hs
  refine PE.imp (pe_call hF C.room hg hm hk hb .nil pass0 ha hd (starEach_cons hs.1) (back_none hs.2)) fun σ H Q ⟨μ, s, L, k, rs, R, hk2, q⟩ => ?_
  refine ⟨μ, s, L, _, rs, R, hk2, fun xs L1 μ1 H1 us hn e1 R1 r1 h1 => ?_⟩
  exact ⟨by rw [List.append_nil, ← r1.length, hn]; exact hl, μ1, L1, xs, _, R1, by rw [List.append_nil]; exact r1, h1, q.mono e1⟩
theorem e_call0 (C : Cok D S sc rm gv X) {i : Nat} {x : Str} {p pos} (F : FnH D En0 rm X i x 0) (hg : Gl X x) (hd : (x == ("__debug__" : Str)) = false) : PE X (.Call (.Name x p) [] [] pos) (tev D En0 (.call i .nil)) := by
  obtain ⟨f, fd, ps, _, hF, hm, hk, hb⟩ := F.ex
  refine PE.imp (pe_call0 hF C.room hg hm hk hb .nil pass0 hd) fun σ H Q ⟨μ, s, L, k, rs, R, hk2, q⟩ => ?_
  exact ⟨rfl, μ, L, [], _, R, .nil, hk2, q⟩
/-! built-ins -/
def nameB : BF → String
  | .abs => "abs" | .len => "len" | .isinst => "isinstance" | .all => "all" | .any => "any" | .list => "list" | .tuple => "tuple" | .int => "int" | .max => "max" | .min => "min" | .dict => "dict" | .vlist => "list"
theorem boot_B (f : BF) : bootBuiltins (Str.ofString (nameB f)) = some (valB f) ∧ (Str.ofString (nameB f)) ≠ "__name__" ∧ (Str.ofString (nameB f) == ("__debug__" : Str)) = false := by
  cases f <;> exact ⟨by decide +kernel, by decide +kernel, by decide +kernel⟩
theorem free_B (C : Cok D S sc rm gv X) (f : BF) : X.mg (Str.ofString (nameB f)) = none := C.free _ (by cases f <;> simp [nameB])
theorem bi_call {f : Value} {r : List V → Hp → VK → Prop} {t : TA} {x : Str} {e : Expr} {es : List Expr} {p pos} (hv : (∃ id, f = .builtin id) ∨ ∃ T, f = .type T) (hc : CallR X f r) (hg : Gl X x) (hm : X.mg x = none) (hb : bootBuiltins x = some f) (ha : PA X (e :: es) t) (hn : x ≠ "__name__") (hd : (x == ("__debug__" : Str)) = false) (hs : (e :: es).all notStar = true) :
    PE X (.Call (.Name x p) (e :: es) [] pos) (tCB r t) := by
  simp only [List.all_cons, Bool.and_eq_true] at hs
  rcases hv with ⟨id, rfl⟩ | ⟨T, rfl⟩
  · exact pe_callB hc hg hm hb ha hn hd (starEach_cons hs.1) (back_none hs.2)
  · exact pe_callTy hc hg hm hb ha hn hd (starEach_cons hs.1) (back_none hs.2)
theorem e_bi (C : Cok D S sc rm gv X) {f : BF} {es : Ms} {ea : Expr} {ees : List Expr} {p pos} (hg : Gl X (Str.ofString (nameB f))) (ha : PA X (ea :: ees) (tevs D En0 es)) (hs : (ea :: ees).all notStar = true) :
    PE X (.Call (.Name (Str.ofString (nameB f)) p) (ea :: ees) [] pos) (tev D En0 (.bi f es)) := by
  obtain ⟨b1, b2, b3⟩ := boot_B f
  refine PE.imp (bi_call (by cases f <;> first | exact .inl ⟨_, rfl⟩ | exact .inr ⟨_, rfl⟩) (bi_ok C.ok C.K C.kg C.calm f) hg (free_B C f) b1 ha b2 b3 hs) fun σ H Q ⟨μ, s, L, k, rs, R, hk2, q⟩ => ?_
  refine ⟨μ, s, L, _, rs, R, hk2, fun xs L1 μ1 H1 us hn e1 R1 r1 h1 => ?_⟩
  exact ⟨μ1, L1, xs, _, R1, r1, h1, q.mono e1⟩
end
end Ev

set_option Elab.async false
set_option linter.all false
set_option maxRecDepth 100000
set_option maxHeartbeats 4000000
/-! EvE5: what is walked. -/
namespace Ev
open PySem PySem.Spec PyProof.Rows L2
section
variable {D : Gd} {S : Sx} {sc : Scope} {rm : Nat} {gv : Str → Option V} {X : Cx} {En0 : En}
/-- the layer's iterator, at its turn i, and ours -/
inductive ItR (D : Gd) (μ : List Addr) (H : Hp) (J : It) : Nat → IT → Prop where
  | lst {a i : Nat} {p : Addr} : μ[a]? = some p → J = Itl D.K p → ItR D μ H J i (.lst a i)
  | tup {i : Nat} {p : Addr} {us : List V} {xs : List EV} : TupAt D.K H p us → RVs D μ H xs (us.drop i) → J = Itt D.K p → ItR D μ H J i (.seq xs)
  | str {i : Nat} {t : List Nat} : J = Its (toS t) → ItR D μ H J i (.seq (codes (t.drop i)))
  | rng {i n : Nat} {z : Int} : J = Itr 0 (i + n) → z = (i : Int) → ItR D μ H J i (.rng z n)
  | zip {a b i : Nat} {p q : Addr} : μ[a]? = some p → μ[b]? = some q → J = Itz D.K p q → ItR D μ H J i (.zip a b i)
  | zipT {i : Nat} {p q : Addr} {us ws : List V} {xs ys : List EV} : TupAt D.K H p us → TupAt D.K H q ws → RVs D μ H xs (us.drop i) → RVs D μ H ys (ws.drop i) → J = RZ.ItzT D.K p q → ItR D μ H J i (.zipT xs ys)
  | keys {i : Nat} {p : Addr} {od : Obj} {kvs : List (Key × V)} {xs : List EV} : H p = some (.frz od (.dK kvs)) → RVs D μ H xs ((kvs.map fun kv => kV kv.1).drop i) → J = Itk p od kvs → ItR D μ H J i (.seq xs)
  | enm {a i : Nat} {p : Addr} : μ[a]? = some p → J = Ite D.K p → ItR D μ H J i (.enm a i)
  | vl {i : Nat} {p : Addr} {od : Obj} {us : List V} {xs : List EV} : H p = some (.frz od (.lst us)) → RVs D μ H xs (us.drop i) → J = Itl D.K p → ItR D μ H J i (.seq xs)
  | zipV {i : Nat} {p q : Addr} {od od' : Obj} {us ws : List V} {xs ys : List EV} : H p = some (.frz od (.lst us)) → H q = some (.frz od' (.lst ws)) → RVs D μ H xs (us.drop i) → RVs D μ H ys (ws.drop i) → J = Itz D.K p q → ItR D μ H J i (.zipT xs ys)
  | enmV {i : Nat} {p : Addr} {od : Obj} {us : List V} {xs : List EV} : H p = some (.frz od (.lst us)) → RVs D μ H xs (us.drop i) → J = Ite D.K p → ItR D μ H J i (.enmT i xs)
theorem ItR.mono {μ μ1 : List Addr} {H H1 : Hp} {J : It} {i : Nat} {T : IT} (e : Ext D μ H μ1 H1) (h : ItR D μ H J i T) : ItR D μ1 H1 J i T := by
  cases h with
  | lst a b => exact .lst (e.at a) b
  | tup a b c => exact .tup (sqT_ext e.tup a) (b.mono e) c
  | str a => exact .str a
  | rng a b => exact .rng a b
  | zip a b c => exact .zip (e.at a) (e.at b) c
  | zipT a b c d f => exact .zipT (sqT_ext e.tup a) (sqT_ext e.tup b) (c.mono e) (d.mono e) f
  | keys a b c => exact .keys (e.frz _ _ _ a) (b.mono e) c
  | enm a b => exact .enm (e.at a) b
  | vl a b c => exact .vl (e.frz _ _ _ a) (b.mono e) c
  | zipV a b c d f => exact .zipV (e.frz _ _ _ a) (e.frz _ _ _ b) (c.mono e) (d.mono e) f
  | enmV a b c => exact .enmV (e.frz _ _ _ a) (b.mono e) c
theorem ItR.mono2 {μ : List Addr} {H H1 : Hp} {J : It} {i : Nat} {T : IT} (e : ∀ b xs, H b = some (.tup xs) → H1 b = some (.tup xs)) (f : ∀ b o u, H b = some (.frz o u) → H1 b = some (.frz o u)) (h : ItR D μ H J i T) : ItR D μ H1 J i T := by
  have f' : ∀ b od xs, H b = some (.frz od (.lst xs)) → H1 b = some (.frz od (.lst xs)) := fun b od xs => f b od _
  cases h with
  | lst a b => exact .lst a b
  | tup a b c => exact .tup (sqT_ext e a) (b.mono2 e f') c
  | str a => exact .str a
  | rng a b => exact .rng a b
  | zip a b c => exact .zip a b c
  | zipT a b c d g => exact .zipT (sqT_ext e a) (sqT_ext e b) (c.mono2 e f') (d.mono2 e f') g
  | keys a b c => exact .keys (f _ _ _ a) (b.mono2 e f') c
  | enm a b => exact .enm a b
  | vl a b c => exact .vl (f _ _ _ a) (b.mono2 e f') c
  | zipV a b c d g => exact .zipV (f _ _ _ a) (f _ _ _ b) (c.mono2 e f') (d.mono2 e f') g
  | enmV a b c => exact .enmV (f _ _ _ a) (b.mono2 e f') c
theorem drop_cons {α : Type} {l : List α} {i : Nat} {x : α} {r : List α} (h : l.drop i = x :: r) : l[i]? = some x ∧ l.drop (i + 1) = r := by
  refine ⟨?_, ?_⟩
  · rw [show i = i + 0 from rfl, ← List.getElem?_drop, h]; rfl
  · rw [← List.drop_drop, h]; rfl
theorem drop_nil {α : Type} {l : List α} {i : Nat} (h : l.drop i = []) : l.length ≤ i := List.drop_eq_nil_iff.mp h
theorem refK_of {x : EV} {f : Nat → T} (h : (refK x f).holds) : ∃ a, x = .ref a ∧ (f a).holds := by
  cases x with
  | ref a => exact ⟨a, rfl, h⟩
  | _ => exact h.elim
theorem intK_of {x : EV} {f : Int → T} (h : (intK x f).holds) : ∃ a, x = .int a ∧ (f a).holds := by
  cases x with
  | int a => exact ⟨a, rfl, h⟩
  | _ => exact h.elim
theorem lstK_tr {μ : List Addr} {H : Hp} {L : LH} (R : Rep D μ L H) {a : Nat} {p : Addr} (ha : μ[a]? = some p) {k : List EV → T} (h : (lstK (L.get a) k).holds) : ∃ xs us, L.get a = some (.lst xs) ∧ H p = some (.lst us) ∧ RVs D μ H xs us ∧ (k xs).holds := by
  obtain ⟨o, e, r⟩ := R.ob a p ha
  rw [e] at h
  cases o with
  | lst xs =>
    obtain ⟨us, h1, h2⟩ := r
    exact ⟨xs, us, e, h1, h2, h⟩
  | dct ps => exact h.elim
  | fdct ps => exact h.elim
  | dead => exact h.elim
theorem nth_of {xs : List EV} {i : Nat} {stop : T} {go : EV → T} (h : (nthK xs i stop go).holds) : (xs.length ≤ i ∧ stop.holds) ∨ ∃ v, xs[i]? = some v ∧ (go v).holds := by
  unfold nthK at h
  cases e : xs[i]? with
  | none => rw [e] at h; exact .inl ⟨List.getElem?_eq_none_iff.mp e, h⟩
  | some v => rw [e] at h; exact .inr ⟨v, rfl, h⟩
/-- a turn -/
theorem next_ok (G : D.Ok) {μ : List Addr} {H : Hp} {L : LH} {J : It} {i : Nat} {N : IT} (R : Rep D μ L H) (r : ItR D μ H J i N) {stop : T} {go : EV → IT → T} (h : (nextK L N stop go).holds) :
    (J.stop i H ∧ stop.holds) ∨ (J.go i H ∧ ∀ x H', J.yld i H x H' → ∃ v N', Ext D μ H μ H' ∧ Rep D μ L H' ∧ RV D μ H' v x ∧ ItR D μ H' J (i + 1) N' ∧ (go v N').holds) := by
  cases r with
  | lst ha e =>
    subst e
    simp only [nextK] at h
    obtain ⟨xs, us, e1, e2, r2, h⟩ := lstK_tr R ha h
    rcases nth_of h with ⟨hl, h⟩ | ⟨v, hv, h⟩
    · exact .inl ⟨⟨us, SqL.of e2, by rw [← r2.length]; exact hl⟩, h⟩
    · obtain ⟨u, hu, ru⟩ := r2.get hv
      refine .inr ⟨⟨us, u, SqL.of e2, hu⟩, fun x H' ⟨eH, hx⟩ => ?_⟩
      subst eH
      have := hx us (SqL.of e2)
      rw [hu] at this
      cases this
      rw [frN_eq] at h
      exact ⟨v, _, Ext.refl, R, ru, .lst ha rfl, h⟩
  | tup hp rx e =>
    subst e
    rename_i p us xs
    simp only [nextK] at h
    cases xs with
    | nil =>
      cases e : us.drop i with
      | nil => exact .inl ⟨⟨us, hp.sq, drop_nil e⟩, h⟩
      | cons y r => rw [e] at rx; cases rx
    | cons v xs =>
      cases e : us.drop i with
      | nil => rw [e] at rx; cases rx
      | cons y r =>
        rw [e] at rx
        obtain ⟨e1, e2⟩ := drop_cons e
        cases rx with
        | cons ra rb =>
          refine .inr ⟨⟨us, y, hp.sq, e1⟩, fun x H' ⟨eH, hx⟩ => ?_⟩
          subst eH
          have := hx us hp.sq
          rw [e1] at this
          cases this
          exact ⟨v, _, Ext.refl, R, ra, .tup hp (by rw [e2]; exact rb) rfl, h⟩
  | vl hp rx e =>
    subst e
    rename_i p od us xs
    have sq : SqL D.K H p us := .inl (.inr ⟨_, hp⟩)
    simp only [nextK] at h
    cases xs with
    | nil =>
      cases e : us.drop i with
      | nil => exact .inl ⟨⟨us, sq, drop_nil e⟩, h⟩
      | cons y r => rw [e] at rx; cases rx
    | cons v xs =>
      cases e : us.drop i with
      | nil => rw [e] at rx; cases rx
      | cons y r =>
        rw [e] at rx
        obtain ⟨e1, e2⟩ := drop_cons e
        cases rx with
        | cons ra rb =>
          refine .inr ⟨⟨us, y, sq, e1⟩, fun x H' ⟨eH, hx⟩ => ?_⟩
          subst eH
          have := hx us sq
          rw [e1] at this
          cases this
          exact ⟨v, _, Ext.refl, R, ra, .vl hp (by rw [e2]; exact rb) rfl, h⟩
  | enmV hp rx e =>
    subst e
    rename_i p od us xs
    have sq : SqL D.K H p us := .inl (.inr ⟨_, hp⟩)
    simp only [nextK] at h
    cases xs with
    | nil =>
      cases e : us.drop i with
      | nil => exact .inl ⟨⟨us, sq, drop_nil e⟩, h⟩
      | cons y r => rw [e] at rx; cases rx
    | cons v xs =>
      cases e : us.drop i with
      | nil => rw [e] at rx; cases rx
      | cons y r =>
        rw [e] at rx
        obtain ⟨e1, e2⟩ := drop_cons e
        cases rx with
        | cons ra rb =>
          refine .inr ⟨⟨us, y, sq, e1⟩, fun x H' ⟨T, x1, ex, hT, eH, hx⟩ => ?_⟩
          subst ex
          have h1 := hx us sq
          rw [e1] at h1
          cases h1
          obtain ⟨ext, R'⟩ := ext_tup (u := .tup [.int (i : Nat), y]) G R hT
          rw [← eH] at ext R'
          simp only [nxEnm, frN_eq] at h
          exact ⟨_, _, ext, R', .tup (.inl (by rw [eH]; exact upd_same)) (.cons (.int _) (.cons (ra.mono ext) .nil)), .enmV (ext.frz _ _ _ hp) (by rw [e2]; exact rb.mono ext) rfl, h⟩
  | zipV hp hq rx ry e =>
    subst e
    rename_i p q od od' us ws xs ys
    have sp : SqL D.K H p us := .inl (.inr ⟨_, hp⟩)
    have sq : SqL D.K H q ws := .inl (.inr ⟨_, hq⟩)
    simp only [nextK] at h
    cases xs with
    | nil =>
      cases e : us.drop i with
      | nil => exact .inl ⟨⟨us, ws, sp, sq, .inl (drop_nil e)⟩, h⟩
      | cons y r => rw [e] at rx; cases rx
    | cons v xs =>
      cases ys with
      | nil =>
        cases e : ws.drop i with
        | nil => exact .inl ⟨⟨us, ws, sp, sq, .inr (drop_nil e)⟩, h⟩
        | cons y r => rw [e] at ry; cases ry
      | cons w ys =>
        cases e : us.drop i with
        | nil => rw [e] at rx; cases rx
        | cons y r =>
          cases f : ws.drop i with
          | nil => rw [f] at ry; cases ry
          | cons y' r' =>
            rw [e] at rx
            rw [f] at ry
            obtain ⟨e1, e2⟩ := drop_cons e
            obtain ⟨f1, f2⟩ := drop_cons f
            cases rx with
            | cons ra rb =>
              cases ry with
              | cons sa sb =>
                refine .inr ⟨⟨us, ws, y, y', sp, sq, e1, f1⟩, fun x H' ⟨T, x1, y1, ex, hT, eH, hx, hy⟩ => ?_⟩
                subst ex
                have h1 := hx us sp
                rw [e1] at h1
                cases h1
                have h2 := hy ws sq
                rw [f1] at h2
                cases h2
                obtain ⟨ext, R'⟩ := ext_tup (u := .tup [y, y']) G R hT
                rw [← eH] at ext R'
                exact ⟨_, _, ext, R', .tup (.inl (by rw [eH]; exact upd_same)) (.cons (ra.mono ext) (.cons (sa.mono ext) .nil)), .zipV (ext.frz _ _ _ hp) (ext.frz _ _ _ hq) (by rw [e2]; exact rb.mono ext) (by rw [f2]; exact sb.mono ext) rfl, h⟩
  | keys hp rx e =>
    subst e
    rename_i p od kvs xs
    simp only [nextK] at h
    cases xs with
    | nil =>
      cases e : (kvs.map fun kv => kV kv.1).drop i with
      | nil => exact .inl ⟨⟨hp, by have := drop_nil e; rw [List.length_map] at this; exact this⟩, h⟩
      | cons y r => rw [e] at rx; cases rx
    | cons v xs =>
      cases e : (kvs.map fun kv => kV kv.1).drop i with
      | nil => rw [e] at rx; cases rx
      | cons y r =>
        rw [e] at rx
        obtain ⟨e1, e2⟩ := drop_cons e
        cases rx with
        | cons ra rb =>
          have hlt : i < kvs.length := by have := (List.getElem?_eq_some_iff.mp e1).1; rw [List.length_map] at this; exact this
          refine .inr ⟨⟨hp, hlt⟩, fun x H' ⟨eH, k, w, hx, ex⟩ => ?_⟩
          subst eH ex
          rw [List.getElem?_map, hx] at e1
          cases e1
          exact ⟨v, _, Ext.refl, R, ra, .keys hp (by rw [e2]; exact rb) rfl, h⟩
  | str e =>
    subst e
    rename_i t
    simp only [nextK] at h
    cases e : t.drop i with
    | nil =>
      rw [e] at h
      refine .inl ⟨?_, h⟩
      have := drop_nil e
      simpa [Its, toS] using this
    | cons c r =>
      rw [e] at h
      obtain ⟨e1, e2⟩ := drop_cons e
      have hlt : i < t.length := (List.getElem?_eq_some_iff.mp e1).1
      refine .inr ⟨by simpa [Its, toS] using hlt, fun x H' ⟨eH, c', hc, hx⟩ => ?_⟩
      subst eH hx
      have hc : t[i]? = some c' := by simpa [toS] using hc
      rw [e1] at hc
      cases hc
      exact ⟨.str [c], .seq (codes r), Ext.refl, R, .str [c], by rw [← e2]; exact .str rfl, h⟩
  | rng e ez =>
    subst e ez
    rename_i n
    simp only [nextK] at h
    cases n with
    | zero => exact .inl ⟨Nat.le_refl _, h⟩
    | succ n =>
      simp only [nxRng, frI_eq] at h
      refine .inr ⟨by show i < i + (n + 1); omega, fun x H' ⟨eH, hx⟩ => ?_⟩
      subst eH hx
      refine ⟨_, _, Ext.refl, R, ?_, .rng (by congr 1; omega) ?_, h⟩
      · rw [Int.zero_add]; exact .int _
      · show (i : Int) + 1 = ((i + 1 : Nat) : Int)
        omega
  | zip ha hb e =>
    subst e
    simp only [nextK] at h
    obtain ⟨xs, us, e1, e2, r2, h⟩ := lstK_tr R ha h
    obtain ⟨ys, ws, f1, f2, q2, h⟩ := lstK_tr R hb h
    rcases nth_of h with ⟨hl, h⟩ | ⟨v, hv, h⟩
    · exact .inl ⟨⟨us, ws, SqL.of e2, SqL.of f2, .inl (by rw [← r2.length]; exact hl)⟩, h⟩
    · rcases nth_of h with ⟨hl, h⟩ | ⟨w, hw, h⟩
      · exact .inl ⟨⟨us, ws, SqL.of e2, SqL.of f2, .inr (by rw [← q2.length]; exact hl)⟩, h⟩
      · obtain ⟨u, hu, ru⟩ := r2.get hv
        obtain ⟨z, hz, rz⟩ := q2.get hw
        refine .inr ⟨⟨us, ws, u, z, SqL.of e2, SqL.of f2, hu, hz⟩, fun x H' ⟨T, x1, y1, ex, hT, eH, hx, hy⟩ => ?_⟩
        subst ex
        have h1 := hx us (SqL.of e2)
        rw [hu] at h1
        cases h1
        have h2 := hy ws (SqL.of f2)
        rw [hz] at h2
        cases h2
        obtain ⟨ext, R'⟩ := ext_tup (u := .tup [u, z]) G R hT
        rw [← eH] at ext R'
        rw [frN_eq] at h
        exact ⟨_, _, ext, R', .tup (.inl (by rw [eH]; exact upd_same)) (.cons (ru.mono ext) (.cons (rz.mono ext) .nil)), .zip ha hb rfl, h⟩
  | zipT hp hq rx ry e =>
    subst e
    rename_i p q us ws xs ys
    simp only [nextK] at h
    cases xs with
    | nil =>
      cases e : us.drop i with
      | nil => exact .inl ⟨⟨us, ws, hp.sq, hq.sq, .inl (drop_nil e)⟩, h⟩
      | cons y r => rw [e] at rx; cases rx
    | cons v xs =>
      cases ys with
      | nil =>
        cases e : ws.drop i with
        | nil => exact .inl ⟨⟨us, ws, hp.sq, hq.sq, .inr (drop_nil e)⟩, h⟩
        | cons y r => rw [e] at ry; cases ry
      | cons w ys =>
        cases e : us.drop i with
        | nil => rw [e] at rx; cases rx
        | cons y r =>
          cases f : ws.drop i with
          | nil => rw [f] at ry; cases ry
          | cons y' r' =>
            rw [e] at rx
            rw [f] at ry
            obtain ⟨e1, e2⟩ := drop_cons e
            obtain ⟨f1, f2⟩ := drop_cons f
            cases rx with
            | cons ra rb =>
              cases ry with
              | cons sa sb =>
                refine .inr ⟨⟨us, ws, y, y', hp.sq, hq.sq, e1, f1⟩, fun x H' ⟨T, x1, y1, ex, hT, eH, hx, hy⟩ => ?_⟩
                subst ex
                have h1 := hx us hp.sq
                rw [e1] at h1
                cases h1
                have h2 := hy ws hq.sq
                rw [f1] at h2
                cases h2
                obtain ⟨ext, R'⟩ := ext_tup (u := .tup [y, y']) G R hT
                rw [← eH] at ext R'
                exact ⟨_, _, ext, R', .tup (.inl (by rw [eH]; exact upd_same)) (.cons (ra.mono ext) (.cons (sa.mono ext) .nil)), .zipT (sqT_ext ext.tup hp) (sqT_ext ext.tup hq) (by rw [e2]; exact rb.mono ext) (by rw [f2]; exact sb.mono ext) rfl, h⟩
  | enm ha e =>
    subst e
    simp only [nextK] at h
    obtain ⟨xs, us, e1, e2, r2, h⟩ := lstK_tr R ha h
    rcases nth_of h with ⟨hl, h⟩ | ⟨v, hv, h⟩
    · exact .inl ⟨⟨us, SqL.of e2, by rw [← r2.length]; exact hl⟩, h⟩
    · obtain ⟨u, hu, ru⟩ := r2.get hv
      refine .inr ⟨⟨us, u, SqL.of e2, hu⟩, fun x H' ⟨T, x1, ex, hT, eH, hx⟩ => ?_⟩
      subst ex
      have h1 := hx us (SqL.of e2)
      rw [hu] at h1
      cases h1
      obtain ⟨ext, R'⟩ := ext_tup (u := .tup [.int (i : Nat), u]) G R hT
      rw [← eH] at ext R'
      rw [frN_eq] at h
      exact ⟨_, _, ext, R', .tup (.inl (by rw [eH]; exact upd_same)) (.cons (.int _) (.cons (ru.mono ext) .nil)), .enm ha rfl, h⟩
/-! ### what is walked comes -/
def tevI (D : Gd) (E : En) (m : MI) : TI := fun σ H R => ∃ μ s L k, RS D μ H s σ ∧ Rep D μ L H ∧ (evI m E s L k).holds ∧ ∀ J N L' μ' H', Ext D μ H μ' H' → Rep D μ' L' H' → ItR D μ' H' J 0 N → (k N L').holds → R J H'
def iAny (K : PySem.W.Frag) (tl : TE) : TI := fun σ H R => tl σ H fun x H1 => (∃ a xs, x = .ref a ∧ SqL K H1 a xs ∧ R (Itl K a) H1) ∨ (∃ a xs, x = .ref a ∧ SqT K H1 a xs ∧ R (Itt K a) H1) ∨ (∃ t, x = .str t ∧ R (Its t) H1) ∨ ∃ d o kvs, x = .ref d ∧ H1 d = some (.frz o (.dK kvs)) ∧ R (Itk d o kvs) H1
theorem pi_any {tg l : Expr} {tl : TE} (hl : PE X l tl) : PI X tg l (iAny X.K tl) := by
  refine ⟨fun pins s σ H R I h => ?_⟩
  refine thn (hl.run pins s σ H _ I h) fun v s1 ⟨x, H1, I1, r1, q1⟩ => ?_
  rcases q1 with ⟨a, xs, e, hq, q⟩ | ⟨a, xs, e, hq, q⟩ | ⟨t, e, q⟩ | ⟨d, o, kvs, ex, hd, q⟩
  · subst e
    cases r1
    obtain ⟨its, rv, p, hz⟩ := I1.list hq
    refine wpAny_pyIter_list p.isList ?_
    exact pi_one (tk := s1.toks) I1 _ (turn_list a _) ⟨_, Heap.get?_push_size _ rfl, rfl, rfl⟩ q
  · subst e
    cases r1
    obtain ⟨its, rv, p, hz⟩ := I1.tuple hq
    refine wpAny_pyIter_tuple (show s1.heap.IsTuple a its.toArray from p) ?_
    exact pi_one (tk := s1.toks) I1 _ (turn_tuple a _) ⟨_, Heap.get?_push_size _ rfl, rfl, rfl⟩ q
  · subst e
    obtain ⟨tk, rfl⟩ := r1
    cases ha : t.cps.all (· < 128)
    · exact wpAny_pyIter_wide ha (pi_one (tk := s1.toks) I1 _ (turn_str _ t tk "str_iterator" (.inr rfl)) ⟨_, Heap.get?_push_size _ rfl, rfl, rfl⟩ q)
    · exact wpAny_pyIter_ascii ha (pi_one (tk := s1.toks) I1 _ (turn_str _ t tk "str_ascii_iterator" (.inl rfl)) ⟨_, Heap.get?_push_size _ rfl, rfl, rfl⟩ q)
  · subst ex
    obtain rfl : v = Value.ref d := r1
    obtain ⟨hs, hgd, hx, es, ep, vs, hdt, hsz, kv, hm⟩ := I1.frzK hd
    refine iter_keys hs hgd hx hdt (pi_one (tk := s1.toks) I1 _ (turn_keys _ hdt) ⟨_, Heap.get?_push_size _ rfl, rfl, ?_⟩ q)
    rw [hsz] <;> rfl
theorem PI.imp {tg e : Expr} {t t' : TI} (h : PI X tg e t) (f : ∀ σ H R, t' σ H R → t σ H R) : PI X tg e t' := ⟨fun pins s σ H R I q => h.run pins s σ H R I (f _ _ _ q)⟩
theorem i_ev (C : Cok D S sc rm gv X) {tg e : Expr} {m : ME} (h : PE X e (tev D En0 m)) : PI X tg e (tevI D En0 (.ev m)) := by
  refine PI.imp (pi_any h) fun σ H Q ⟨μ, s, L, k, rs, R, hk, p⟩ => ?_
  refine ⟨μ, s, L, _, rs, R, hk, fun x L1 μ1 H1 u e1 R1 r1 h1 => ?_⟩
  have h1 : (iterE L1 x fun J => k J L1).holds := h1
  cases r1 with
  | tup ha rx => exact .inr (.inl ⟨_, _, rfl, by rw [C.K]; exact ha.sq, by rw [C.K]; exact p _ _ L1 μ1 H1 e1 R1 (.tup ha (by simpa using rx) rfl) h1⟩)
  | str t => exact .inr (.inr (.inl ⟨_, rfl, p _ _ L1 μ1 H1 e1 R1 (.str (i := 0) rfl) h1⟩))
  | @vl xs us a od hf rx => exact .inl ⟨_, us, rfl, .inl (.inr ⟨_, hf⟩), by rw [C.K]; exact p _ _ L1 μ1 H1 e1 R1 (.vl hf (by simpa using rx) rfl) h1⟩
  | ref ha =>
    simp only [iterE] at h1
    obtain ⟨o, eo, ro⟩ := R1.ob _ _ ha
    rw [eo] at h1
    cases o with
    | lst xs =>
      obtain ⟨us, g2, rr⟩ := ro
      exact .inl ⟨_, us, rfl, by rw [C.K]; exact SqL.of g2, by rw [C.K]; exact p _ _ L1 μ1 H1 e1 R1 (.lst ha rfl) h1⟩
    | dct ps => exact h1.elim
    | dead => exact h1.elim
    | fdct ps =>
      obtain ⟨od, kvs, g2, rr⟩ := ro
      exact .inr (.inr (.inr ⟨_, od, kvs, rfl, g2, p _ _ L1 μ1 H1 e1 R1 (.keys (i := 0) g2 rr.keys rfl) h1⟩))
  | _ => exact h1.elim
theorem blt_of {n m : Nat} {k : Unit → T} (h : (match Nat.blt n m with | true => k () | false => T.fail).holds) : n < m ∧ (k ()).holds := by
  cases e : Nat.blt n m with
  | false => rw [e] at h; exact h.elim
  | true =>
    rw [e] at h
    exact ⟨by simpa [Nat.blt_eq] using e, h⟩
theorem rngI_of {i : Int} {L : LH} {k : IT → LH → T} (h : (rngI i L k).holds) : -(2 ^ 62) ≤ i ∧ i < 2 ^ 62 ∧ (k (.rng ((0 : Nat) : Int) i.toNat) L).holds := by
  cases i with
  | ofNat n =>
    obtain ⟨a, b⟩ := blt_of (k := fun _ => k (.rng (.ofNat 0) n) L) h
    exact ⟨by show -(2 ^ 62 : Int) ≤ (n : Int); omega, by show (n : Int) < 2 ^ 62; omega, b⟩
  | negSucc n =>
    obtain ⟨a, b⟩ := blt_of (k := fun _ => k (.rng (.ofNat 0) 0) L) h
    exact ⟨by omega, by omega, b⟩
theorem i_rng (C : Cok D S sc rm gv X) {tg e : Expr} {m : ME} {pp pos : Pos} (hg : Gl X "range") (h : PA X [e] (tevs D En0 (.cons m .nil))) (hs : notStar e = true) : PI X tg (.Call (.Name "range" pp) [e] [] pos) (tevI D En0 (.rng (.cons m .nil))) := by
  refine PI.imp (pi_range1 hg (C.free "range" (by simp)) h (starEach_cons hs)) fun σ H Q ⟨μ, s, L, k, rs, R, hk, p⟩ => ?_
  simp only [evI] at hk
  refine ⟨μ, s, L, _, rs, R, hk, fun xs L1 μ1 H1 us hn e1 R1 r1 h1 => ?_⟩
  unfold rngE at h1
  obtain ⟨x, ex, h1⟩ := one_of h1
  subst ex
  obtain ⟨i, ei, h1⟩ := intK_of h1
  subst ei
  cases r1 with
  | cons ra rb =>
    cases rb
    cases ra
    obtain ⟨b1, b2, b3⟩ := rngI_of h1
    exact ⟨i, rfl, b1, b2, p _ _ L1 μ1 H1 e1 R1 (.rng (i := 0) (n := i.toNat) (by simp) rfl) b3⟩
theorem i_zip (C : Cok D S sc rm gv X) {e e2 : Expr} {m m2 : ME} {pp pos tpos : Pos} {elts kk} (hg : Gl X "zip") (h : PE X e (tev D En0 m)) (h2 : PE X e2 (tev D En0 m2)) (hs : notStar e = true) (hs2 : notStar e2 = true) : PI X (.Tuple elts kk tpos) (.Call (.Name "zip" pp) [e, e2] [] pos) (tevI D En0 (.zip m m2)) := by
  refine PI.imp (RZ.pi_zipA hg (C.free "zip" (by simp)) (pa_cons h (pa_cons h2 pa_nil (starEach_cons hs2)) (starEach_cons hs)) (starEach_cons hs) (back_none (by simp [hs2]))) fun σ H Q ⟨μ, s, L, k, rs, R, hk, p⟩ => ?_
  refine ⟨μ, s, L, _, rs, R, hk, fun x L1 μ1 H1 u e1 R1 r1 h1 => ⟨μ1, s, L1, _, rs.mono e1, R1, h1, fun y L2 μ2 H2 w e2 R2 r2 h2 => ?_⟩⟩
  have h2 : (zipE x y L2 k).holds := h2
  have r1 := r1.mono e2
  rw [C.K]
  cases r1 with
  | tup ha rx =>
    cases r2 with
    | tup hb ry => exact ⟨_, _, _, _, rfl, .inr ⟨ha.sq, hb.sq, p _ _ L2 μ2 H2 (e1.trans e2) R2 (.zipT ha hb (by simpa using rx) (by simpa using ry) rfl) h2⟩⟩
    | _ => exact h2.elim
  | @vl xs us a od hf rx =>
    simp only [zipE] at h2
    obtain ⟨ys, rfl, h2⟩ := vl_of h2
    cases r2 with
    | @vl _ ws b od' hf' ry => exact ⟨_, _, us, ws, rfl, .inl ⟨.inl (.inr ⟨_, hf⟩), .inl (.inr ⟨_, hf'⟩), p _ _ L2 μ2 H2 (e1.trans e2) R2 (.zipV hf hf' (by simpa using rx) (by simpa using ry) rfl) h2⟩⟩
  | ref ha =>
    simp only [zipE, zipR] at h2
    obtain ⟨b, eb, h2⟩ := refK_of h2
    subst eb
    cases r2 with
    | ref hb =>
      obtain ⟨xs, us, g1, g2, rr, h2⟩ := lstK_tr R2 ha h2
      obtain ⟨ys, ws, f1, f2, qq, h2⟩ := lstK_tr R2 hb h2
      exact ⟨_, _, us, ws, rfl, .inl ⟨SqL.of g2, SqL.of f2, p _ _ L2 μ2 H2 (e1.trans e2) R2 (.zip ha hb rfl) h2⟩⟩
  | _ => exact h2.elim
theorem i_enm (C : Cok D S sc rm gv X) {e : Expr} {m : ME} {pp pos tpos : Pos} {elts kk} (hg : Gl X "enumerate") (h : PE X e (tev D En0 m)) (hs : notStar e = true) : PI X (.Tuple elts kk tpos) (.Call (.Name "enumerate" pp) [e] [] pos) (tevI D En0 (.enum m)) := by
  refine PI.imp (pi_enum hg (C.free "enumerate" (by simp)) (pa_cons h pa_nil (starEach_cons hs)) (starEach_cons hs)) fun σ H Q ⟨μ, s, L, k, rs, R, hk, p⟩ => ?_
  refine ⟨μ, s, L, _, rs, R, hk, fun x L1 μ1 H1 u e1 R1 r1 h1 => ?_⟩
  have h1 : (enmE x L1 k).holds := h1
  rw [C.K]
  cases r1 with
  | ref ha =>
    simp only [enmE] at h1
    obtain ⟨xs, us, g1, g2, rr, h1⟩ := lstK_tr R1 ha h1
    exact ⟨_, us, rfl, SqL.of g2, p _ _ L1 μ1 H1 e1 R1 (.enm ha rfl) h1⟩
  | @vl xs us a od hf rx => exact ⟨_, us, rfl, .inl (.inr ⟨_, hf⟩), p _ _ L1 μ1 H1 e1 R1 (.enmV hf (by simpa using rx) rfl) h1⟩
  | _ => exact h1.elim
end
end Ev

set_option Elab.async false
set_option linter.all false
set_option maxRecDepth 100000
set_option maxHeartbeats 4000000
/-! EvE6: targets, comprehensions, methods, chains, calls with names. -/
namespace Ev
open PySem PySem.Spec PyProof.Rows L2
section
variable {D : Gd} {S : Sx} {sc : Scope} {rm : Nat} {gv : Str → Option V} {X : Cx} {En0 : En}
/-! ### slots forgotten -/
theorem wipe_get {σ : L2.St} {i : Nat} : ∀ {vs : List Nat}, (wipe σ vs)[i]? = if i ∈ vs ∧ i < σ.length then some none else σ[i]?
  | [] => by simp [wipe]
  | v :: vs => by
    unfold wipe
    by_cases h : v = i
    · subst h
      by_cases hl : v < σ.length
      · rw [List.getElem?_set_self (by rw [wipe_length]; exact hl)]
        simp [hl]
      · rw [List.getElem?_eq_none (by rw [List.length_set, wipe_length]; omega), List.getElem?_eq_none (by omega)]
        simp [hl]
    · rw [List.getElem?_set_ne h, wipe_get (vs := vs)]
      simp only [List.mem_cons, Ne.symm h, false_or]
theorem wipe_wipe {σ : L2.St} {vs : List Nat} : wipe (wipe σ vs) vs = wipe σ vs := by
  apply List.ext_getElem?
  intro i
  by_cases h : i ∈ vs ∧ i < σ.length
  · rw [wipe_get, wipe_get, wipe_length, if_pos h, if_pos h]
  · rw [wipe_get, wipe_length, if_neg h]
theorem wipe_set {σ : L2.St} {vs : List Nat} {i : Nat} {v : Option V} (h : i ∈ vs) : wipe (σ.set i v) vs = wipe σ vs := by
  apply List.ext_getElem?
  intro j
  rw [wipe_get, wipe_get, List.length_set]
  by_cases hj : j ∈ vs ∧ j < σ.length
  · rw [if_pos hj, if_pos hj]
  · rw [if_neg hj, if_neg hj]
    by_cases e : i = j
    · subst e
      have hl : σ.length ≤ i := by
        by_cases z : i < σ.length
        · exact absurd ⟨h, z⟩ hj
        · exact Nat.le_of_not_lt z
      rw [List.getElem?_eq_none (by rw [List.length_set]; exact hl), List.getElem?_eq_none hl]
    · rw [List.getElem?_set_ne e]
theorem wipeS_get {s : SL} {i : Nat} {v : EV} : ∀ {vs : List Nat}, (wipeS s vs)[i]? = some (some v) → s[i]? = some (some v) ∧ i ∉ vs
  | [], h => ⟨h, by simp⟩
  | w :: vs, h => by
    unfold wipeS at h
    by_cases e : w = i
    · subst e
      by_cases hl : w < (wipeS s vs).length
      · rw [List.getElem?_set_self hl] at h; cases h
      · rw [List.getElem?_eq_none (by rw [List.length_set]; omega)] at h; cases h
    · rw [List.getElem?_set_ne e] at h
      obtain ⟨h1, h2⟩ := wipeS_get h
      exact ⟨h1, by simp only [List.mem_cons, not_or]; exact ⟨Ne.symm e, h2⟩⟩
theorem wipeS_length {s : SL} : ∀ {vs : List Nat}, (wipeS s vs).length = s.length
  | [] => rfl
  | w :: vs => by unfold wipeS; rw [List.length_set, wipeS_length]
theorem RS.wipe {μ : List Addr} {H : Hp} {s : SL} {σ : L2.St} (r : RS D μ H s σ) (vs : List Nat) : RS D μ H (wipeS s vs) (L2.wipe σ vs) := by
  refine ⟨by rw [wipeS_length, wipe_length]; exact r.1, fun i v h => ?_⟩
  obtain ⟨h1, h2⟩ := wipeS_get h
  obtain ⟨u, e, q⟩ := r.2 i v h1
  refine ⟨u, ?_, q⟩
  rw [wipe_get, if_neg (fun z => h2 z.1)]
  exact e
/-! ### targets -/
mutual
def slotsIn (vs : List Nat) : MT → Bool
  | .nm i => vs.contains i
  | .tup ts => slotsInS vs ts
  | .sub _ _ => true
  | .nope => true
def slotsInS (vs : List Nat) : MTs → Bool
  | .nil => true
  | .cons t r => slotsIn vs t && slotsInS vs r
end
/-- what is known behind a store -/
def PostG (D : Gd) (g : List Nat → Bool) (σ : L2.St) (μ : List Addr) (H : Hp) (k : KS) (Q : L2.St → Hp → Prop) : Prop :=
  ∀ s L' μ' H' σ', Ext D μ H μ' H' → Rep D μ' L' H' → RS D μ' H' s σ' → (∀ vs, g vs = true → wipe σ' vs = wipe σ vs) → (k s L').holds → Q σ' H'
def tevG (D : Gd) (E : En) (t : MT) : TG := fun u σ H Q => ∃ μ s L v k, RS D μ H s σ ∧ Rep D μ L H ∧ RV D μ H v u ∧ (evT t E v s L k).holds ∧ PostG D (slotsIn · t) σ μ H k Q
def tevGs (D : Gd) (E : En) (t : MTs) : TGs := fun us σ H Q => ∃ μ s L vs k, RS D μ H s σ ∧ Rep D μ L H ∧ RVs D μ H vs us ∧ (evTs t E vs s L k).holds ∧ PostG D (slotsInS · t) σ μ H k Q
theorem PG.imp {e : Expr} {t t' : TG} (h : PG X e t) (f : ∀ v σ H R, t' v σ H R → t v σ H R) : PG X e t' := ⟨fun pins s σ H v u R I r q => h.run pins s σ H v u R I r (f _ _ _ _ q)⟩
theorem PGs.imp {e : List Expr} {t t' : TGs} (h : PGs X e t) (f : ∀ v σ H R, t' v σ H R → t v σ H R) : PGs X e t' := ⟨fun pins s σ H v u R I r q => h.run pins s σ H v u R I r (f _ _ _ _ q)⟩
theorem g_nm {i : Nat} {x : Str} {pos} (hN : X.N.Nodup) (hi : X.N[i]? = some x) (hx : Loc X.env.scope x) (hf : X.fn x = true ∨ X.env.scope.names.lookup x = some .local) : PG X (.Name x pos) (tevG D En0 (.nm i)) := by
  refine PG.imp (pg_name hN hi hx hf) fun u σ H Q ⟨μ, s, L, v, k, rs, R, rv, hk, p⟩ => ?_
  simp only [evT, setS_eq] at hk
  exact p _ L μ H _ Ext.refl R (rs.set rv i) (fun vs h => wipe_set (by simpa [slotsIn] using h)) hk
theorem gs_nil : PGs X [] (tevGs D En0 .nil) := by
  refine PGs.imp pgs_nil fun u σ H Q ⟨μ, s, L, v, k, rs, R, rv, hk, p⟩ => ?_
  cases rv with
  | nil => exact ⟨rfl, p _ L μ H _ Ext.refl R rs (fun _ _ => rfl) hk⟩
  | cons _ _ => exact hk.elim
theorem assignEach_cons {e : Expr} {es : List Expr} {env : Env} (h : notStar e = true) : assignEach (e :: es) env = (false, assign e env) :: assignEach es env := by
  cases e <;> first | rfl | cases h
theorem assignEach_len {es : List Expr} {env : Env} : (assignEach es env).length = es.length := by
  induction es with
  | nil => rfl
  | cons e r ih => cases e <;> simp [assignEach, ih]
theorem assignEach_plain {es : List Expr} {env : Env} (h : es.all notStar = true) : (assignEach es env).findIdx? (·.1) = none := by
  induction es with
  | nil => rfl
  | cons e r ih =>
    simp only [List.all_cons, Bool.and_eq_true] at h
    rw [assignEach_cons h.1]
    simp [List.findIdx?_cons, ih h.2]
theorem gs_cons {t : MT} {r : MTs} {e : Expr} {es : List Expr} (ht : PG X e (tevG D En0 t)) (hr : PGs X es (tevGs D En0 r)) (hs : notStar e = true) : PGs X (e :: es) (tevGs D En0 (.cons t r)) := by
  refine PGs.imp (pgs_cons ht hr (by rw [assignEach_cons hs]; rfl)) fun u σ H Q ⟨μ, s, L, v, k, rs, R, rv, hk, p⟩ => ?_
  cases rv with
  | nil => exact hk.elim
  | cons ra rb =>
    refine ⟨_, _, rfl, μ, s, L, _, _, rs, R, ra, hk, fun s1 L1 μ1 H1 σ1 e1 R1 rs1 w1 h1 => ?_⟩
    exact ⟨μ1, s1, L1, _, _, rs1, R1, rb.mono e1, h1, fun s2 L2 μ2 H2 σ2 e2 R2 rs2 w2 h2 => p s2 L2 μ2 H2 σ2 (e1.trans e2) R2 rs2 (fun vs hv => by
      simp only [slotsInS, Bool.and_eq_true] at hv
      exact (w2 vs hv.2).trans (w1 vs hv.1)) h2⟩
def MTs.len : MTs → Nat
  | .nil => 0
  | .cons _ r => r.len + 1
theorem fitTs_len : ∀ {r : MTs} {xs : List EV}, fitTs r xs = true → xs.length = r.len
  | .nil, [], _ => rfl
  | .nil, _ :: _, h => by cases h
  | .cons _ r, [], h => by cases h
  | .cons _ r, _ :: xs, h => congrArg (· + 1) (fitTs_len (r := r) (xs := xs) h)
theorem PG.or {e : Expr} {t t' : TG} (h : PG X e t) (h' : PG X e t') : PG X e fun v σ H R => t v σ H R ∨ t' v σ H R := ⟨fun pins s σ H v u R I r q => q.elim (h.run pins s σ H v u R I r) (h'.run pins s σ H v u R I r)⟩
theorem g_tup (C : Cok D S sc rm gv X) {ts : MTs} {es : List Expr} {kk pos} (h : PGs X es (tevGs D En0 ts)) (hs : es.all notStar = true) (hl : ts.len = es.length) : PG X (.Tuple es kk pos) (tevG D En0 (.tup ts)) := by
  refine PG.imp (PG.or (pg_tup (n := es.length) C.calm h assignEach_len (assignEach_plain hs)) (pg_lst (n := es.length) C.calm h assignEach_len (assignEach_plain hs))) fun u σ H Q ⟨μ, s, L, v, k, rs, R, rv, hk, p⟩ => ?_
  simp only [evT] at hk
  rw [C.K]
  cases rv with
  | tup ha rx =>
    rcases ifB_of (a := fun _ => evTs ts En0 _ s L k) (b := fun _ => T.fail) hk with ⟨hf, hk⟩ | ⟨_, hk⟩
    · exact .inl ⟨_, _, rfl, ha.sq, by rw [← rx.length, fitTs_len hf]; exact hl, μ, s, L, _, _, rs, R, rx, hk, p⟩
    · exact hk.elim
  | vl ha rx =>
    rcases ifB_of (a := fun _ => evTs ts En0 _ s L k) (b := fun _ => T.fail) hk with ⟨hf, hk⟩ | ⟨_, hk⟩
    · exact .inr ⟨_, _, rfl, .inl (.inr ⟨_, ha⟩), by rw [← rx.length, fitTs_len hf]; exact hl, μ, s, L, _, _, rs, R, rx, hk, p⟩
    · exact hk.elim
  | @ref i a ha =>
    simp only [seqE] at hk
    obtain ⟨xs, us, g1, g2, rx, hk⟩ := lstK_tr R ha hk
    rcases ifB_of (a := fun _ => evTs ts En0 _ s L k) (b := fun _ => T.fail) hk with ⟨hf, hk⟩ | ⟨_, hk⟩
    · exact .inr ⟨_, _, rfl, SqL.of g2, by rw [← rx.length, fitTs_len hf]; exact hl, μ, s, L, _, _, rs, R, rx, hk, p⟩
    · exact hk.elim
  | _ => exact hk.elim
/-! ### stores by a key or a place -/
def rSet (D : Gd) : TSet := fun o i v H Q => ∃ μ L x y w k, Rep D μ L H ∧ RV D μ H x o ∧ RV D μ H y i ∧ RV D μ H w v ∧ (setE L x y w k).holds ∧ ∀ L' μ' H', Ext D μ H μ' H' → Rep D μ' L' H' → (k L').holds → Q H'
theorem set_ok (G : D.Ok) (hu : X.A.units + 65 < cLine) : PSet X (rSet D) := by
  intro pins s σ H o i v ov iv u Q I ro ri rv h
  obtain ⟨μ, L, x, y, w, k, R, rx, ry, rw', h, p⟩ := h
  unfold setE at h
  obtain ⟨a, ea, h1⟩ := ref_of h
  clear h
  rename _ => h
  subst ea
  obtain ⟨pa, eo, ha⟩ := rv_ref rx
  subst eo
  cases e : L.get a with
  | none => rw [e] at h; exact h.elim
  | some ob =>
    rw [e] at h
    cases ob with
    | fdct ps => exact h.elim
    | dead => exact h.elim
    | lst xs =>
      have h : (intK y fun n => setI a xs n w L k).holds := h
      obtain ⟨n, en, h1⟩ := int_of h
      clear h
      rename _ => h
      subst en
      have ei := rv_int ry
      subst ei
      obtain ⟨pb, ys, e1, e2, e3, e4⟩ := lst_at R rx e
      cases e1
      cases n with
      | negSucc n => exact h.elim
      | ofNat n =>
        obtain ⟨hlt, h⟩ := blt_of (k := fun _ => frcK (xs.set n w) fun zs => LH.putK L a (.lst zs) k) h
        rw [frcK_eq] at h
        obtain ⟨L', ext, R', _, _, hk⟩ := put_ok G R ha e e3 rfl k h (u := .lst (ys.set n v)) (fun ex => ⟨_, upd_same, RVs.set (rw'.mono ex) n (e4.mono ex)⟩)
        refine set_list pins s σ H _ _ v ov iv u Q I ro ri rv ⟨pa, ys, (n : Int), n, rfl, rfl, e3, ?_, p L' μ _ ext R' hk⟩
        unfold ixN
        have hl := e4.length
        rw [if_pos (by omega), if_pos (by omega)]
        simp
    | dct ps =>
      have h : (hasK (dGet y ps) fun b => belowB ps.length fun _ => ifB b (fun _ => frcK (dRep y w ps) fun qs => LH.putK L a (.dct qs) k) fun _ => frcK (ps ++ [(y, w)]) fun qs => LH.putK L a (.dct qs) k).holds := h
      simp only [frcK_eq] at h
      obtain ⟨ov', eg, h⟩ := hasK_of h
      obtain ⟨hb, h⟩ := below_of h
      obtain ⟨pb, kvs, e1, e2, e3, e4⟩ := dct_at R rx e
      cases e1
      obtain ⟨key, rk, ei⟩ := isKey_of ry (dGet_key eg)
      subst ei
      have hl := e4.length
      have hg := dGet_ok rk e4 eg
      refine set_dict (by omega) pins s σ H _ _ v ov iv u Q I ro ri rv ⟨pa, _, rfl, DPut.k e3 (by omega), ?_⟩
      have hany : (kvs.any fun kv => decide (kv.1 = key)) = ov'.isSome := by
        rcases hg with ⟨z, hv⟩ | ⟨v', u', z, hv, _⟩
        · subst z
          exact any_valV_none hv
        · subst z
          exact any_valV_some hv
      rcases ifB_of h with ⟨hs, h⟩ | ⟨hs, h⟩
      · obtain ⟨L', ext, R', _, _, hk⟩ := put_ok G R ha e e3 rfl k h (u := .dK (putK kvs key v)) (fun ex => ⟨_, upd_same, by
          have q := dRep_ok rk (rw'.mono ex) (RPs.mono ex e4)
          rw [show (kvs.map fun kv => if kv.1 = key then (kv.1, v) else kv) = putK kvs key v by unfold putK; rw [hany, hs, if_pos rfl]] at q
          exact q⟩)
        exact p L' μ _ ext R' hk
      · obtain ⟨L', ext, R', _, _, hk⟩ := put_ok G R ha e e3 rfl k h (u := .dK (putK kvs key v)) (fun ex => ⟨_, upd_same, by
          have q := RPs.snoc rk (rw'.mono ex) (RPs.mono ex e4)
          rw [show kvs ++ [(key, v)] = putK kvs key v by unfold putK; rw [hany, hs, if_neg Bool.false_ne_true]] at q
          exact q⟩)
        exact p L' μ _ ext R' hk
def notSlice : Expr → Bool
  | .Slice .. => false
  | _ => true
theorem plainIx_of {e : Expr} (h : notSlice e = true) : PlainIx e := by
  intro o i
  cases e <;> first | rfl | cases h
theorem assign_sub {o i : Expr} {pos : Pos} {env : Env} (h : notSlice i = true) (v : Value) : assign (.Subscript o i pos) env v = (do
      let ov ← holding [v] (eval o env)
      let iv ← holding [v, ov] (eval i env)
      standAt pos
      holding [v, ov, iv] (setItem ov iv v)
      release [v, ov, iv] []) := by
  cases i <;> first | rfl | cases h
theorem g_sub (C : Cok D S sc rm gv X) (hu : X.A.units + 65 < cLine) {o i : ME} {eo ei : Expr} {pos : Pos} (ho : PE X eo (tev D En0 o)) (hi : PE X ei (tev D En0 i)) (hp : notSlice ei = true) : PG X (.Subscript eo ei pos) (tevG D En0 (.sub o i)) := by
  refine PG.imp (pg_sub ho hi (set_ok C.ok hu) (assign_sub hp)) fun u σ H Q ⟨μ, s, L, v, k, rs, R, rv, hk, p⟩ => ?_
  refine ⟨μ, s, L, _, rs, R, hk, fun x L1 μ1 H1 w e1 R1 r1 h1 => ⟨μ1, s, L1, _, rs.mono e1, R1, h1, fun y L2 μ2 H2 w2 e2 R2 r2 h2 => ?_⟩⟩
  exact ⟨μ2, L2, x, y, v, _, R2, r1.mono e2, r2, rv.mono (e1.trans e2), h2, fun L3 μ3 H3 e3 R3 h3 => p s L3 μ3 H3 σ ((e1.trans e2).trans e3) R3 (rs.mono ((e1.trans e2).trans e3)) (fun _ _ => rfl) h3⟩
/-! ### comprehensions -/
def tevO (D : Gd) (E : En) (c : Mo) : TT := fun σ H Q => ∃ μ s L k, RS D μ H s σ ∧ Rep D μ L H ∧ (evO c E s L k).holds ∧ PostB D μ H k Q
theorem o_none : PTs X [] (tevO D En0 .none) := ⟨fun pins s σ H Q I ⟨μ, s', L, k, rs, R, hk, p⟩ => pts_nil.run pins s σ H Q I (p true L μ H Ext.refl R hk)⟩
theorem o_some {c : ME} {e : Expr} (h : PT X e (ttv D En0 c)) : PTs X [e] (tevO D En0 (.some c)) := ⟨fun pins s σ H Q I ⟨μ, s', L, k, rs, R, hk, p⟩ => (pts_one h).run pins s σ H Q I
  ⟨μ, s', L, _, rs, R, hk, fun b L1 μ1 H1 e1 R1 h1 => p b L1 μ1 H1 e1 R1 (by cases b <;> exact h1)⟩⟩
theorem ifb_imp {b : Bool} {A B A' B' : Prop} (h : if b = true then A else B) (f : A → A') (g : B → B') : if b = true then A' else B' := by cases b <;> first | exact f h | exact g h
theorem lc_imp (G : D.Ok) {it : MI} {t : MT} {c : Mo} {e : ME} {own : List Nat} (hsl : slotsIn own t = true) : ∀ σ H Q, tev D En0 (.lc it t own c e) σ H Q → tLc (tevI D En0 it) (tevG D En0 t) (tevO D En0 c) (tev D En0 e) own σ H Q := by
  intro σ H Q ⟨μ, s, L, k, rs, R, hk, p⟩
  simp only [ev, ifB, En.self_eq] at hk
  refine ⟨μ, s, L, _, rs, R, hk, fun J N L1 μ1 H1 e1 R1 r1 h1 dd hd => ?_⟩
  obtain ⟨L2, e2, R2, hn, _, h2⟩ := new_ok (u := .lst []) G R1 hd _ h1 fun _ => ⟨[], upd_same, .nil⟩
  generalize L1.n = d at hn h2
  refine ⟨fun i m H' => ∃ μ' L' N', Ext D (μ1 ++ [dd]) (upd H1 dd (.lst [])) μ' H' ∧ Rep D μ' L' H' ∧ ItR D μ' H' J i N' ∧ (lcE d (fun v L k => evT t En0 v (wipeS s own) L fun s L => evO c En0 s L fun b L => ifB b (fun _ => ev e En0 false s L fun y L => k (some y) L) fun _ => k none L) (fun L => k (.ref d) L) m N' L').holds, ⟨En0.W, _, L2, N, Ext.refl, R2, r1.mono e2, h2⟩, ?_⟩
  rintro i m H3 ⟨μ3, L3, N3, e3, R3, r3, h3⟩
  cases m with
  | zero => exact h3.elim
  | succ m =>
    simp only [lcE] at h3
    rcases next_ok G R3 r3 h3 with ⟨stop, h4⟩ | ⟨go, step⟩
    · exact .inl ⟨stop, p _ L3 μ3 H3 _ ((e1.trans e2).trans e3) R3 (.ref (e3.at hn)) h4⟩
    · refine .inr ⟨go, fun H' => ∃ μ' L' N', Ext D (μ1 ++ [dd]) (upd H1 dd (.lst [])) μ' H' ∧ Rep D μ' L' H' ∧ ItR D μ' H' J (i + 1) N' ∧ (lcE d (fun v L k => evT t En0 v (wipeS s own) L fun s L => evO c En0 s L fun b L => ifB b (fun _ => ev e En0 false s L fun y L => k (some y) L) fun _ => k none L) (fun L => k (.ref d) L) m N' L').holds, fun H' hh => ⟨m, Nat.lt_succ_self m, hh⟩, fun x H4 hy => ?_⟩
      obtain ⟨v, N4, e4, R4, rv, r4, h4⟩ := step x H4 hy
      have eA := (e1.trans e2).trans (e3.trans e4)
      refine ⟨μ3, _, L3, v, _, (rs.mono eA).wipe own, R4, rv, h4, fun s5 L5 μ5 H5 σ5 e5 R5 rs5 w5 h5 => ⟨(w5 own hsl).trans wipe_wipe, μ5, s5, L5, _, rs5, R5, h5, fun b L6 μ6 H6 e6 R6 h6 => ?_⟩⟩
      cases b with
      | false =>
        rw [if_neg Bool.false_ne_true]
        exact ⟨μ6, L6, N4, (e3.trans e4).trans (e5.trans e6), R6, r4.mono (e5.trans e6), h6⟩
      | true =>
        rw [if_pos rfl]
        refine ⟨μ6, s5, L6, _, rs5.mono e6, R6, h6, fun y L7 μ7 H7 u e7 R7 r7 h7 => ?_⟩
        have hd7 : μ7[d]? = some dd := ((e3.trans e4).trans ((e5.trans e6).trans e7)).at hn
        simp only [lcPut] at h7
        obtain ⟨xs, us, g1, g2, g3, h8⟩ := lstK_tr R7 hd7 h7
        obtain ⟨hb, h9⟩ := below_of h8
        rw [frcK_eq] at h9
        refine ⟨us, g2, by rw [← g3.length]; exact hb, ?_⟩
        obtain ⟨L8, e8, R8, _, _, h10⟩ := put_ok (u := .lst (us ++ [u])) G R7 hd7 g1 g2 rfl _ h9 fun ex => ⟨_, upd_same, (g3.mono ex).append (.cons (r7.mono ex) .nil)⟩
        exact ⟨μ7, L8, N4, (e3.trans e4).trans ((e5.trans e6).trans (e7.trans e8)), R8, r4.mono ((e5.trans e6).trans (e7.trans e8)), h10⟩
/-- what is laid, not tracked, may be written: nothing of ours says it -/
theorem upd_free {μ : List Addr} {H : Hp} {L : LH} (G : D.Ok) {dd : Addr} {ys : List V} {o : HO} (R : Rep D μ L H) (hd : H dd = some (.lst ys)) (hm : dd ∉ μ) (hr : dd ∉ D.rsv) :
    Rep D μ L (upd H dd o) ∧ (∀ b xs, H b = some (.tup xs) → upd H dd o b = some (.tup xs)) ∧ (∀ b od u, H b = some (.frz od u) → upd H dd o b = some (.frz od u)) := by
  have tup : ∀ b xs, H b = some (.tup xs) → upd H dd o b = some (.tup xs) := fun b xs h => by rw [upd_ne (fun z => by subst z; rw [hd] at h; cases h)]; exact h
  have frz : ∀ b od u, H b = some (.frz od u) → upd H dd o b = some (.frz od u) := fun b od u h => by rw [upd_ne (fun z => by subst z; rw [hd] at h; cases h)]; exact h
  refine ⟨⟨R.len, R.nd, fun i a hi => ?_, R.top, R.rs, G.keep _ _ _ R.J fun b hb => upd_ne fun z => hr (z ▸ hb)⟩, tup, frz⟩
  obtain ⟨q, e, r⟩ := R.ob i a hi
  exact ⟨q, e, r.mono2 tup (fun b od xs => frz b od _) fun u hu => by rw [upd_ne (fun z => hm (by subst z; exact List.mem_of_getElem? hi))]; exact hu⟩
theorem ext_free {μ μ1 : List Addr} {H H1 : Hp} {dd : Addr} {o : HO} (e : Ext D μ H μ1 H1) (h0 : H dd = none) : Ext D μ H μ1 (upd H1 dd o) := by
  have ne : ∀ b u, H b = some u → b ≠ dd := fun b u hb z => by subst z; rw [h0] at hb; cases hb
  exact ⟨e.pre, fun b xs hb => by rw [upd_ne (ne b _ hb)]; exact e.tup b xs hb, fun b q hb hm hr => by rw [upd_ne (ne b _ hb)]; exact e.keep b q hb hm hr, fun b od u hb => by rw [upd_ne (ne b _ hb)]; exact e.frz b od u hb, e.new⟩
theorem vlc_imp (G : D.Ok) {it : MI} {t : MT} {c : Mo} {e : ME} {own : List Nat} (hsl : slotsIn own t = true) : ∀ σ H Q, tev D En0 (.vlc it t own c e) σ H Q → tLc (tevI D En0 it) (tevG D En0 t) (tevO D En0 c) (tev D En0 e) own σ H (fun v H1 => Fz (Q v) H1) := by
  intro σ H Q ⟨μ, s, L, k, rs, R, hk, p⟩
  simp only [ev, ifB, En.self_eq] at hk
  refine ⟨μ, s, L, _, rs, R, hk, fun J N L1 μ1 H1 e1 R1 r1 h1 dd hd => ?_⟩
  have nr : dd ∉ D.rsv := fun z => G.there _ H1 dd R1.J z hd
  have nm : dd ∉ μ1 := fun z => R1.trk z hd
  let turn : EV → LH → (Option EV → LH → T) → T := fun v L k => evT t En0 v (wipeS s own) L fun s L => evO c En0 s L fun b L => ifB b (fun _ => ev e En0 false s L fun y L => k (some y) L) fun _ => k none L
  let Iv : Nat → Nat → Hp → Prop := fun i m H' => ∃ μ' L' N' n acc ys, Ext D μ1 H1 μ' H' ∧ Rep D μ' L' H' ∧ dd ∉ μ' ∧ H' dd = some (.lst ys) ∧ RVs D μ' H' acc.reverse ys ∧ n = acc.length ∧ ItR D μ' H' J i N' ∧ (lcF turn (fun xs L => k (.vl xs) L) m N' n acc L').holds
  obtain ⟨e2, R2⟩ := ext_tup (u := .lst []) G R1 hd
  refine ⟨Iv, ⟨En0.W, μ1, L1, N, 0, [], [], e2, R2, nm, upd_same, .nil, rfl, r1.mono e2, h1⟩, ?_⟩
  rintro i m H3 ⟨μ3, L3, N3, n, acc, ys, e3, R3, m3, d3, a3, n3, r3, h3⟩
  cases m with
  | zero => exact h3.elim
  | succ m =>
    simp only [lcF] at h3
    rcases next_ok G R3 r3 h3 with ⟨stop, h4⟩ | ⟨go, step⟩
    · refine .inl ⟨stop, ?_⟩
      rw [revK_eq, List.append_nil] at h4
      refine .step (d := dd) (u := .lst ys) d3 trivial fun od => .done ?_
      obtain ⟨R4, tup, frz⟩ := upd_free (o := .frz od (.lst ys)) G R3 d3 m3 nr
      exact p _ L3 μ3 _ _ (e1.trans (ext_free e3 hd)) R4 (.vl upd_same (a3.mono2 tup fun b od xs => frz b od _)) h4
    · refine .inr ⟨go, Iv (i + 1) m, fun H' hh => ⟨m, Nat.lt_succ_self m, hh⟩, fun x H4 hy => ?_⟩
      obtain ⟨v, N4, e4, R4, rv, r4, h4⟩ := step x H4 hy
      have eA := e1.trans (e3.trans e4)
      refine ⟨μ3, _, L3, v, _, (rs.mono eA).wipe own, R4, rv, h4, fun s5 L5 μ5 H5 σ5 e5 R5 rs5 w5 h5 => ⟨(w5 own hsl).trans wipe_wipe, μ5, s5, L5, _, rs5, R5, h5, fun b L6 μ6 H6 e6 R6 h6 => ?_⟩⟩
      have kp : ∀ {μ7 : List Addr} {H7 : Hp}, Ext D μ3 H3 μ7 H7 → dd ∉ μ7 ∧ H7 dd = some (.lst ys) := fun {μ7 H7} ex => ⟨fun z => by
        rcases ex.new dd z with y | y | y
        · exact m3 y
        · rw [d3] at y; cases y
        · exact nr y, ex.keep dd _ d3 m3 nr⟩
      cases b with
      | false =>
        show Iv (i + 1) m H6
        have eB := e4.trans (e5.trans e6)
        obtain ⟨k1, k2⟩ := kp eB
        exact ⟨μ6, L6, N4, n, acc, ys, e3.trans eB, R6, k1, k2, a3.mono eB, n3, r4.mono (e5.trans e6), h6⟩
      | true =>
        show tev D En0 e σ5 H6 fun y H4 => ∃ acc, H4 dd = some (.lst acc) ∧ acc.length < sizeLine ∧ Iv (i + 1) m (upd H4 dd (.lst (acc ++ [y])))
        refine ⟨μ6, s5, L6, _, rs5.mono e6, R6, h6, fun y L7 μ7 H7 u e7 R7 r7 h7 => ?_⟩
        have eB := e4.trans (e5.trans (e6.trans e7))
        obtain ⟨k1, k2⟩ := kp eB
        simp only [accK] at h7
        obtain ⟨hb, h8⟩ := below_of h7
        rw [frN_eq] at h8
        have hlen : ys.length = n := by rw [← a3.length, List.length_reverse, n3]
        refine ⟨ys, k2, by rw [hlen]; exact hb, ?_⟩
        obtain ⟨R8, tup, frz⟩ := upd_free (o := .lst (ys ++ [u])) G R7 k2 k1 nr
        refine ⟨μ7, L7, N4, Nat.succ n, y :: acc, ys ++ [u], ext_free (e3.trans eB) hd, R8, k1, upd_same, ?_, by rw [n3]; rfl, (r4.mono (e5.trans (e6.trans e7))).mono2 tup frz, h8⟩
        rw [List.reverse_cons]
        exact ((a3.mono eB).append (.cons r7 .nil)).mono2 tup fun b od xs => frz b od _
theorem e_vlc (C : Cok D S sc rm gv X) {elt tg iter : Expr} {ifs : List Expr} {scope : Scope} {own : List (Str × Nat)} {pos : Pos} {it : MI} {t : MT} {c : Mo} {e : ME} (hi : PI X tg iter (tevI D En0 it)) (ok : BlkOk X.N X.env.scope scope own) (hsl : slotsIn (own.map (·.2)) t = true)
    (hg : ∀ (s : Shared) (H : Hp) (C : Addr) (cl : List (Str × Addr)) (fp : List Addr), PG (X.blk s H scope (compEnvC scope cl C X.env) fp) tg (tevG D En0 t)) (ht : ∀ (s : Shared) (H : Hp) (C : Addr) (cl : List (Str × Addr)) (fp : List Addr), PTs (X.blk s H scope (compEnvC scope cl C X.env) fp) ifs (tevO D En0 c))
    (he : ∀ (s : Shared) (H : Hp) (C : Addr) (cl : List (Str × Addr)) (fp : List Addr), PE (X.blk s H scope (compEnvC scope cl C X.env) fp) elt (tev D En0 e)) (hs : ∀ x, foldedSetIterable iter X.env x = pure x) :
    PE X (.ListComp elt [⟨tg, iter, ifs, 0⟩] scope pos) (tev D En0 (.vlc it t (own.map (·.2)) c e)) := PE.imp (pe_fz (pe_lc C.calm C.nd hi ok hg ht he hs)) (vlc_imp C.ok hsl)
theorem e_lc (C : Cok D S sc rm gv X) {elt tg iter : Expr} {ifs : List Expr} {scope : Scope} {own : List (Str × Nat)} {pos : Pos} {it : MI} {t : MT} {c : Mo} {e : ME} (hi : PI X tg iter (tevI D En0 it)) (ok : BlkOk X.N X.env.scope scope own) (hsl : slotsIn (own.map (·.2)) t = true)
    (hg : ∀ (s : Shared) (H : Hp) (C : Addr) (cl : List (Str × Addr)) (fp : List Addr), PG (X.blk s H scope (compEnvC scope cl C X.env) fp) tg (tevG D En0 t)) (ht : ∀ (s : Shared) (H : Hp) (C : Addr) (cl : List (Str × Addr)) (fp : List Addr), PTs (X.blk s H scope (compEnvC scope cl C X.env) fp) ifs (tevO D En0 c))
    (he : ∀ (s : Shared) (H : Hp) (C : Addr) (cl : List (Str × Addr)) (fp : List Addr), PE (X.blk s H scope (compEnvC scope cl C X.env) fp) elt (tev D En0 e)) (hs : ∀ x, foldedSetIterable iter X.env x = pure x) :
    PE X (.ListComp elt [⟨tg, iter, ifs, 0⟩] scope pos) (tev D En0 (.lc it t (own.map (·.2)) c e)) := PE.imp (pe_lc C.calm C.nd hi ok hg ht he hs) (lc_imp C.ok hsl)
/-! ### methods, chains, calls with names -/
def idM : BM → String
  | .append => "list.append" | .extend => "list.extend" | .index => "str.index" | .pop => "list.pop"
def nameM : BM → Str
  | .append => "append" | .extend => "extend" | .index => "index" | .pop => "pop"
def tyM : BM → String
  | .append => "list" | .extend => "list" | .index => "str" | .pop => "list"
theorem ixS_of {x v : EV} {k : Int → T} (h : (ixS x v k).holds) : ∃ (a b : List Nat) (i : Nat), x = .str a ∧ v = .str b ∧ Txt.index0 (toS a) (toS b) = some i ∧ (k i).holds := by
  unfold ixS at h
  cases x with
  | str a =>
    cases e : beqNs a [72, 84, 80, 70] with
    | false => simp only [e] at h; exact h.elim
    | true =>
      simp only [e] at h
      have ea := (beqNs_iff _ _).mp e
      subst ea
      cases v with
      | str b =>
        cases e1 : beqNs b [72] with
        | true =>
          simp only [e1] at h
          have eb := (beqNs_iff _ _).mp e1
          subst eb
          exact ⟨_, _, 0, rfl, rfl, by decide +kernel, h⟩
        | false =>
          cases e2 : beqNs b [84] with
          | true =>
            simp only [e1, e2] at h
            have eb := (beqNs_iff _ _).mp e2
            subst eb
            exact ⟨_, _, 1, rfl, rfl, by decide +kernel, h⟩
          | false =>
            cases e3 : beqNs b [80] with
            | true =>
              simp only [e1, e2, e3] at h
              have eb := (beqNs_iff _ _).mp e3
              subst eb
              exact ⟨_, _, 2, rfl, rfl, by decide +kernel, h⟩
            | false =>
              cases e4 : beqNs b [70] with
              | true =>
                simp only [e1, e2, e3, e4] at h
                have eb := (beqNs_iff _ _).mp e4
                subst eb
                exact ⟨_, _, 3, rfl, rfl, by decide +kernel, h⟩
              | false => simp only [e1, e2, e3, e4] at h; exact h.elim
      | _ => exact h.elim
  | _ => exact h.elim
def rMt (D : Gd) (m : BM) : V → List V → Hp → VK → Prop := fun x vs H Q => ∃ μ L w ws k, Rep D μ L H ∧ RV D μ H w x ∧ RVs D μ H ws vs ∧ (mtE m L w ws k).holds ∧ PostV D μ H k Q
theorem RVs.erase {μ : List Addr} {H : Hp} : ∀ {vs : List EV} {us : List V} (i : Nat), RVs D μ H vs us → RVs D μ H (vs.eraseIdx i) (us.eraseIdx i)
  | _, _, _, .nil => .nil
  | _, _, 0, .cons _ r => r
  | _, _, i + 1, .cons q r => .cons q (RVs.erase i r)
theorem mt_ok (G : D.Ok) (hc : X.calm = true) (m : BM) : MtR X (idM m) (rMt D m) := by
  intro pins s σ H x xs v us Q I rx rv h
  obtain ⟨μ, L, w, ws, k, R, rw', rws, h, p⟩ := h
  cases m with
  | append =>
    simp only [mtE] at h
    obtain ⟨y, ey, h1⟩ := one_of h
    clear h
    subst ey
    obtain ⟨a, ea, h2⟩ := refK_of h1
    clear h1
    subst ea
    obtain ⟨pa, eo, ha⟩ := rv_ref rw'
    subst eo
    obtain ⟨zs, zu, g1, g2, g3, h3⟩ := lstK_tr R ha h2
    obtain ⟨hb, h4⟩ := below_of h3
    rw [frcK_eq] at h4
    obtain ⟨u1, eu, ru⟩ := rvs1 rws
    subst eu
    obtain ⟨L8, e8, R8, _, _, h10⟩ := put_ok (u := .lst (zu ++ [u1])) G R ha g1 g2 rfl _ h4 fun ex => ⟨_, upd_same, (g3.mono ex).append (.cons (ru.mono ex) .nil)⟩
    exact mt_append pins s σ H _ _ v us Q I rx rv ⟨pa, zu, u1, rfl, rfl, g2, by rw [← g3.length]; exact hb, p _ L8 μ _ _ e8 R8 .non h10⟩
  | extend =>
    simp only [mtE] at h
    obtain ⟨y, ey, h1⟩ := one_of h
    clear h
    subst ey
    obtain ⟨a, ea, h2⟩ := refK_of h1
    clear h1
    subst ea
    obtain ⟨pa, eo, ha⟩ := rv_ref rw'
    subst eo
    obtain ⟨u1, eu, ru⟩ := rvs1 rws
    subst eu
    obtain ⟨zs, zu, g1, g2, g3, h3⟩ := lstK_tr R ha h2
    obtain ⟨pb, ys, yu, eu, f2, f3, h3⟩ := row_of R ru h3
    subst eu
    obtain ⟨hl, h4⟩ := line_of h3
    rw [frcK_eq] at h4
    obtain ⟨L8, e8, R8, _, _, h10⟩ := put_ok (u := .lst (zu ++ yu)) G R ha g1 g2 rfl _ h4 fun ex => ⟨_, upd_same, (g3.mono ex).append (f3.mono ex)⟩
    exact mt_extR pins s σ H _ _ v us Q I rx rv ⟨pa, pb, zu, yu, rfl, rfl, g2, f2, by rw [← g3.length, ← f3.length]; exact hl, p _ L8 μ _ _ e8 R8 .non h10⟩
  | index =>
    simp only [mtE] at h
    obtain ⟨y, ey, h1⟩ := one_of h
    clear h
    subst ey
    obtain ⟨a, b, i, e1, e2, e3, h2⟩ := ixS_of h1
    subst e1 e2
    obtain ⟨u1, eu, ru⟩ := rvs1 rws
    subst eu
    cases rw'
    cases ru
    refine mt_indexX (W := fun _ _ _ _ => False) hc (fun u s' ⟨a, B, sI, pins, σ, H, cls, d, e, I, nb, up, sky, na, os, ag, w⟩ => w.elim) pins s σ H _ _ v us Q I rx rv ⟨_, _, rfl, rfl, fun k hk => ?_, fun hn => ?_⟩
    · rw [e3] at hk
      cases hk
      exact p _ L μ H _ Ext.refl R (.int _) h2
    · rw [e3] at hn
      cases hn
  | pop =>
    simp only [mtE] at h
    obtain ⟨y, ey, h1⟩ := one_of h
    clear h
    subst ey
    obtain ⟨a, ea, h2⟩ := refK_of h1
    clear h1
    subst ea
    obtain ⟨i, ei, h2'⟩ := intK_of h2
    clear h2
    subst ei
    obtain ⟨pa, eo, ha⟩ := rv_ref rw'
    subst eo
    obtain ⟨zs, zu, g1, g2, g3, h3⟩ := lstK_tr R ha h2'
    obtain ⟨u1, eu, ru⟩ := rvs1 rws
    subst eu
    have ei := rv_int ru
    subst ei
    cases i with
    | negSucc n => exact h3.elim
    | ofNat n =>
      obtain ⟨hb, h4⟩ := blt_of (k := fun _ => match zs[n]? with | some v => frcK (zs.eraseIdx n) fun zs => LH.putK L a (.lst zs) fun L => k v L | none => T.fail) h3
      simp only [frcK_eq] at h4
      cases e : zs[n]? with
      | none => rw [e] at h4; exact h4.elim
      | some y =>
        rw [e] at h4
        obtain ⟨w', hw, rw2⟩ := g3.get e
        have hlt := (List.getElem?_eq_some_iff.mp hw).1
        obtain ⟨L8, e8, R8, _, _, h10⟩ := put_ok (u := .lst (zu.eraseIdx n)) G R ha g1 g2 rfl _ h4 fun ex => ⟨_, upd_same, RVs.erase n (g3.mono ex)⟩
        refine mt_popAt pins s σ H _ _ v us Q I rx rv ⟨pa, zu, (n : Int), n, w', rfl, rfl, g2, by omega, by omega, ?_, hw, p _ L8 μ _ _ e8 R8 (rw2.mono e8) h10⟩
        show seqIndex? ((n : Nat) : Int) zu.length = some n
        unfold seqIndex?
        simp only [show ¬ (((n : Nat) : Int) < 0) by omega, if_false, show decide (0 ≤ ((n : Nat) : Int)) = true by simp, show decide (((n : Nat) : Int) < (zu.length : Int)) = true by simp; omega, Bool.and_self, if_true, Int.toNat_natCast]
def notCall : Expr → Bool
  | .Call .. => false
  | _ => true
theorem base_of {o : Expr} {n : Str} {env : Env} {w : Sem Value} (h : notCall o = true) : attributeBase o n env w = w := by
  cases o <;> first | rfl | cases h
theorem star_one {e : Expr} {env : Env} (h : notStar e = true) : starEach [e] env = [(false, eval e env)] := starEach_cons h
theorem rcv_of {K : PySem.W.Frag} {μ : List Addr} {H : Hp} {L : LH} (R : Rep D μ L H) {m : BM} {x : EV} {u : V} (r : RV D μ H x u) {k : Unit → T} (h : (rcv m x L k).holds) : tyV K (tyM m) u H ∧ (k ()).holds := by
  have lst : (isLst x L k).holds → tyV K "list" u H ∧ (k ()).holds := fun h1 => by
    unfold isLst at h1
    obtain ⟨b, eb, h2⟩ := refK_of h1
    subst eb
    obtain ⟨pb, eo, hb⟩ := rv_ref r
    subst eo
    obtain ⟨zs, zu, g1, g2, g3, h3⟩ := lstK_tr R hb h2
    exact ⟨.inl ⟨rfl, zu, SqL.of g2⟩, h3⟩
  cases m with
  | append => exact lst h
  | extend => exact lst h
  | pop => exact lst h
  | index =>
    cases r with
    | str t => exact ⟨rfl, h⟩
    | _ => exact h.elim
theorem e_mt (C : Cok D S sc rm gv X) {m : BM} {o : ME} {a : ME} {eo ea : Expr} {apos cpos : Pos} (ho : PE X eo (tev D En0 o)) (ha : PE X ea (tev D En0 a)) (hs : notStar ea = true) (hn : notCall eo = true) (hl : (apos.endLine == cpos.line) = true) :
    PE X (.Call (.Attribute eo (nameM m) apos) [ea] [] cpos) (tev D En0 (.mt m o (.cons a .nil))) := by
  have key : PE X (.Call (.Attribute eo (nameM m) apos) [ea] [] cpos) (tBM X.K (tyM m) (rMt D m) (tev D En0 o) (tevs D En0 (.cons a .nil))) := by
    cases m with
    | append => exact pe_bm PySem.F.plainAttrs_list PySem.F.slot_list_append PySem.F.type_list_append (mt_ok C.ok C.calm .append) ho (a_cons ha a_nil hs) (base_of hn) (by rw [star_one hs]; rfl) hl (star_one hs) (by rfl)
    | extend => exact pe_bm PySem.F.plainAttrs_list PySem.F.slot_list_extend PySem.F.type_list_extend (mt_ok C.ok C.calm .extend) ho (a_cons ha a_nil hs) (base_of hn) (by rw [star_one hs]; rfl) hl (star_one hs) (by rfl)
    | pop => exact pe_bm PySem.F.plainAttrs_list PySem.F.slot_list_pop PySem.F.type_list_pop (mt_ok C.ok C.calm .pop) ho (a_cons ha a_nil hs) (base_of hn) (by rw [star_one hs]; rfl) hl (star_one hs) (by rfl)
    | index => exact pe_bm PySem.F.plainAttrs_str PySem.F.slot_str_index PySem.F.type_str_index (mt_ok C.ok C.calm .index) ho (a_cons ha a_nil hs) (base_of hn) (by rw [star_one hs]; rfl) hl (star_one hs) (by rfl)
  refine PE.imp key fun σ H Q ⟨μ, s, L, k, rs, R, hk, p⟩ => ?_
  refine ⟨μ, s, L, _, rs, R, hk, fun x L1 μ1 H1 u e1 R1 r1 h1 => ?_⟩
  obtain ⟨ht, h3⟩ := rcv_of R1 r1 (K := X.K) h1
  refine ⟨ht, μ1, s, L1, _, rs.mono e1, R1, h3, fun xs L2 μ2 H2 us hn e2 R2 r2 h4 => ?_⟩
  exact ⟨μ2, L2, _, xs, _, R2, r1.mono e2, r2, h4, p.mono (e1.trans e2)⟩
theorem e_chain (C : Cok D S sc rm gv X) (hu : X.A.units + 65 < cLine) {o1 o2 : CO} {a b c : ME} {ea eb ec : Expr} {pos} (ha : PE X ea (tev D En0 a)) (hb : PE X eb (tev D En0 b)) (hc : PE X ec (tev D En0 c)) (hm : lastMarks [opC o1, opC o2] [eb, ec] = false) :
    PE X (.Compare ea [opC o1, opC o2] [eb, ec] pos) (tev D En0 (.chain o1 o2 a b c)) := by
  refine PE.imp (pe_chain (cmp_ok C.K C.kg hu o1) (cmp_ok C.K C.kg hu o2) ha hb hc hm) fun σ H Q ⟨μ, s, L, k, rs, R, hk, p⟩ => ?_
  refine ⟨μ, s, L, _, rs, R, hk, fun x L1 μ1 H1 u e1 R1 r1 h1 => ⟨μ1, s, L1, _, rs.mono e1, R1, h1, fun y L2 μ2 H2 w e2 R2 r2 h2 => ?_⟩⟩
  refine ⟨μ2, L2, x, y, _, R2, r1.mono e2, r2, h2, fun b hb => ⟨b, rfl, ?_⟩⟩
  cases b with
  | false =>
    rw [if_neg Bool.false_ne_true]
    exact (p.mono e1).mono e2 _ L2 μ2 H2 _ Ext.refl R2 (.bl false) hb
  | true =>
    rw [if_pos rfl]
    refine ⟨μ2, s, L2, _, (rs.mono e1).mono e2, R2, hb, fun z L3 μ3 H3 w3 e3 R3 r3 h3 => ?_⟩
    exact ⟨μ3, L3, y, z, _, R3, r2.mono e3, r3, h3, fun b hb => ((p.mono e1).mono e2).mono e3 _ L3 μ3 H3 _ Ext.refl R3 (.bl b) (by cases b <;> exact hb)⟩
theorem t_chain (C : Cok D S sc rm gv X) (hu : X.A.units + 65 < cLine) {o1 o2 : CO} {a b c : ME} {ea eb ec : Expr} {pos} (ha : PE X ea (tev D En0 a)) (hb : PE X eb (tev D En0 b)) (hc : PE X ec (tev D En0 c)) (hm : lastMarks [opC o1, opC o2] [eb, ec] = false) :
    PT X (.Compare ea [opC o1, opC o2] [eb, ec] pos) (ttv D En0 (.chain o1 o2 a b c)) := by
  refine PT.imp (pt_chain (cmp_ok C.K C.kg hu o1) (cmp_ok C.K C.kg hu o2) ha hb hc hm) fun σ H Q ⟨μ, s, L, k, rs, R, hk, p⟩ => ?_
  refine ⟨μ, s, L, _, rs, R, hk, fun x L1 μ1 H1 u e1 R1 r1 h1 => ⟨μ1, s, L1, _, rs.mono e1, R1, h1, fun y L2 μ2 H2 w e2 R2 r2 h2 => ?_⟩⟩
  refine ⟨μ2, L2, x, y, _, R2, r1.mono e2, r2, h2, fun b hb => ⟨b, rfl, ?_⟩⟩
  cases b with
  | false =>
    rw [if_neg Bool.false_ne_true]
    exact ⟨false, rfl, (p.mono e1).mono e2 _ L2 μ2 H2 Ext.refl R2 hb⟩
  | true =>
    rw [if_pos rfl]
    refine ⟨μ2, s, L2, _, (rs.mono e1).mono e2, R2, hb, fun z L3 μ3 H3 w3 e3 R3 r3 h3 => ?_⟩
    exact ⟨μ3, L3, y, z, _, R3, r2.mono e3, r3, h3, fun b hb => ⟨b, rfl, ((p.mono e1).mono e2).mono e3 b L3 μ3 H3 Ext.refl R3 (by cases b <;> exact hb)⟩⟩
end
end Ev

set_option Elab.async false
set_option linter.all false
set_option maxRecDepth 100000
set_option maxHeartbeats 4000000
/-! EvE7: calls with names; statements. -/
namespace Ev
open PySem PySem.Spec PyProof.Rows L2
section
variable {D : Gd} {S : Sx} {sc : Scope} {rm : Nat} {gv : Str → Option V} {X : Cx} {En0 : En}
/-! ### calls with names -/
def pickL {α : Type} (vs : List α) : List Nat → List α
  | [] => []
  | i :: r => match vs[i]? with
    | some v => v :: pickL vs r
    | none => pickL vs r
theorem pickE_eq (vs : List EV) : ∀ ix : List Nat, pickE vs ix = pickL vs ix
  | [] => rfl
  | i :: r => by
    simp only [pickE, pickL]
    cases vs[i]? with
    | none => exact pickE_eq vs r
    | some v => exact congrArg (v :: ·) (pickE_eq vs r)
theorem RVs.get_none {μ : List Addr} {H : Hp} {vs : List EV} {us : List V} {i : Nat} (r : RVs D μ H vs us) (h : vs[i]? = none) : us[i]? = none := by
  rw [List.getElem?_eq_none_iff] at h ⊢
  rw [← r.length]; exact h
theorem RVs.pick {μ : List Addr} {H : Hp} {vs : List EV} {us : List V} (r : RVs D μ H vs us) : ∀ ix : List Nat, RVs D μ H (pickL vs ix) (pickL us ix)
  | [] => .nil
  | i :: ix => by
    simp only [pickL]
    cases e : vs[i]? with
    | none => rw [r.get_none e]; exact r.pick ix
    | some v =>
      obtain ⟨u, hu, ru⟩ := r.get e
      rw [hu]
      exact .cons ru (r.pick ix)
theorem Vals_pick {vs : List V} {us : List Value} (r : Vals vs us) : ∀ ix : List Nat, Vals (pickL vs ix) (pickL us ix)
  | [] => .nil
  | i :: ix => by
    simp only [pickL]
    cases e : vs[i]? with
    | none =>
      rw [List.getElem?_eq_none_iff] at e
      have : us[i]? = none := by rw [List.getElem?_eq_none_iff, ← r.length]; exact e
      rw [this]
      exact Vals_pick r ix
    | some v =>
      obtain ⟨u, hu, ru⟩ := r.get e
      rw [hu]
      exact .cons ru (Vals_pick r ix)
/-- a def called with names: of the values in their order, those at ix are its parameters' -/
structure FnK (D : Gd) (E : En) (rm : Nat) (X : Cx) (i : Nat) (x : Str) (n : Nat) (ks : List Str) (ix : List Nat) : Prop where
  ex : ∃ (f : Addr) (fd : FuncData) (ps : List Str), ps.length = n ∧ FnOk X.prog X.w X.K X.mg X.base CX0 rm f fd ps (spC D E.C n i) ∧ X.mg x = some (.ref f) ∧ PySem.W.keepIn X.K (.ref f) = true ∧ KBn X.K fd ps (ix.length - ks.length) ks (fun us ws => pickL (us ++ ws) ix) (fun us ws => pickL (us ++ ws) ix)
theorem kw_all {kws : List Keyword} {env : Env} {pos : Pos} (h : kws.all (·.arg.isSome) = true) : (backToKw pos (keywordEach kws env)).all (·.1.isSome) = true ∧ (backToKw pos (keywordEach kws env)).any (·.1.isNone) = false ∧ (backToKw pos (keywordEach kws env)).filterMap (·.1) = kws.filterMap (·.arg) := by
  induction kws with
  | nil => exact ⟨rfl, rfl, rfl⟩
  | cons k r ih =>
    obtain ⟨nm, v, p⟩ := k
    simp only [List.all_cons, Bool.and_eq_true] at h
    obtain ⟨a, b, c⟩ := ih h.2
    cases nm with
    | none => cases h.1
    | some q =>
      refine ⟨?_, ?_, ?_⟩
      · simpa [keywordEach, backToKw] using a
      · simpa [keywordEach, backToKw] using b
      · simpa [keywordEach, backToKw] using c
def tevK (D : Gd) (E : En) (ms : Ms) : TA := tevs D E ms
theorem PK.imp {e : List Keyword} {t t' : TA} (h : PK X e t) (f : ∀ σ H Q, t' σ H Q → t σ H Q) : PK X e t' := ⟨fun pos pins s σ H Q I q => h.run pos pins s σ H Q I (f _ _ _ q)⟩
theorem k_nil : PK X [] (tevs D En0 .nil) := PK.imp pk_nil fun σ H Q ⟨μ, s, L, k, rs, R, hk, p⟩ => p _ L μ H _ rfl Ext.refl R .nil hk
theorem k_cons {a : ME} {r : Ms} {ea : Expr} {nm : Option Str} {kpos : Pos} {er : List Keyword} (ha : PE X ea (tev D En0 a)) (hr : PK X er (tevs D En0 r)) : PK X (⟨nm, ea, kpos⟩ :: er) (tevs D En0 (.cons a r)) := by
  refine PK.imp (pk_cons ha hr) fun σ H Q ⟨μ, s, L, k, rs, R, hk, p⟩ => ?_
  refine ⟨μ, s, L, _, rs, R, hk, fun x L1 μ1 H1 u e1 R1 r1 h1 => ⟨μ1, s, L1, _, rs.mono e1, R1, h1, fun xs L2 μ2 H2 us hl e2 R2 r2 h2 => ?_⟩⟩
  exact p _ L2 μ2 H2 _ (by show xs.length + 1 = r.len + 1; rw [hl]) (e1.trans e2) R2 (.cons (r1.mono e2) r2) h2
theorem pe_callK0 {CX : CXT} {k n : Nat} (hn0 : n = 0) {f : Addr} {fd : FuncData} {ps ks : List Str} {sp : Sp} {E : XK} {x : Str} {p pos : Pos} {kws : List Keyword} {tk : TA} {g : List Value → List Value → List Value} {gV : List V → List V → List V} (F : FnOk X.prog X.w X.K X.mg X.base CX k f fd ps sp) (hr : Room k X.A) (hg : Gl X x) (hm : X.mg x = some (.ref f)) (hk : PySem.W.keepIn X.K (.ref f) = true) (hb : KBn X.K fd ps n ks g gV) (hx : Passes CX X E)
    (hkw : PK X kws tk) (hall : (backToKw pos (keywordEach kws X.env)).all (·.1.isSome) = true) (hks : (backToKw pos (keywordEach kws X.env)).filterMap (·.1) = ks) (hdb : (x == ("__debug__" : Str)) = false)
    (hpl : ((backTo pos (starEach [] X.env)).any (·.1) || (backToKw pos (keywordEach kws X.env)).any (·.1.isNone)) = false) :
    PE X (.Call (.Name x p) [] kws pos) (tCallN n ks.length sp gV E tNil tk) := by
  refine ⟨fun pins s σ H Q I h => ?_⟩
  refine wpAny_Call_Name_kw (ld_glob I hg hm ?_ hdb)
  refine PySem.W.callWith_KW0 (h₀ := X.base) I.ok.mod.kin hk hall ?_ hpl
  have h : tk σ H fun zs H2 => (0 = n) ∧ zs.length = ks.length ∧ sp (gV [] zs) H2 Q E := h
  refine thn (hkw.run pos pins s σ H _ I h) fun ws s2 ⟨zs, H2, I2, rz, _, l2, q2⟩ => ⟨I2.kIn, ?_⟩
  rw [hks]
  exact run_fnN F hr hb hx I2 .nil rz hn0.symm l2 q2
theorem e_callk (C : Cok D S sc rm gv X) {i n : Nat} {x : Str} {es ks : Ms} {ees : List Expr} {kws : List Keyword} {ix : List Nat} {p pos} (F : FnK D En0 rm X i x n (kws.filterMap (·.arg)) ix) (hg : Gl X x) (hd : (x == ("__debug__" : Str)) = false) (ha : PA X ees (tevs D En0 es)) (hk : PK X kws (tevs D En0 ks))
    (hs : ees.all notStar = true) (hks : kws.all (·.arg.isSome) = true) (he : ees = [] → es = .nil) (hn : es.len = ix.length - (kws.filterMap (·.arg)).length) (hkn : ks.len = (kws.filterMap (·.arg)).length) (hl : ∀ vs ws : List EV, vs.length = es.len → ws.length = ks.len → (pickL (vs ++ ws) ix).length = n) : PE X (.Call (.Name x p) ees kws pos) (tev D En0 (.callk i es ks ix)) := by
  obtain ⟨f, fd, ps, _, hF, hm, hkp, hb⟩ := F.ex
  obtain ⟨k1, k2, k3⟩ := kw_all (env := X.env) (pos := pos) hks
  have key : PE X (.Call (.Name x p) ees kws pos) (tCallN (ix.length - (kws.filterMap (·.arg)).length) (kws.filterMap (·.arg)).length (spC D En0.C n i) (fun us ws => pickL (us ++ ws) ix) E0 (tevs D En0 es) (tevs D En0 ks)) := by
    cases ees with
    | nil =>
      have e1 := he rfl
      subst e1
      refine PE.imp (pe_callK0 hn.symm hF C.room hg hm hkp hb pass0 hk k1 k3 hd (by rw [k2]; rfl)) fun σ H Q ⟨μ, s, L, k, rs, R, hk2, q⟩ => ?_
      exact q [] L μ H [] rfl Ext.refl R .nil hk2
    | cons e1 er =>
      simp only [List.all_cons, Bool.and_eq_true] at hs
      exact pe_callN hF C.room hg hm hkp hb pass0 ha hk k1 k3 hd (starEach_cons hs.1) (by rw [back_none (by simp [hs.1, hs.2]), k2]; rfl)
  refine PE.imp key fun σ H Q ⟨μ, s, L, k, rs, R, hk2, q⟩ => ?_
  refine ⟨μ, s, L, _, rs, R, hk2, fun xs L1 μ1 H1 us hn1 e1 R1 r1 h1 => ⟨μ1, s, L1, _, rs.mono e1, R1, h1, fun ys L2 μ2 H2 ws hn2 e2 R2 r2 h2 => ?_⟩⟩
  have r12 := ((r1.mono e2).append r2).pick ix
  rw [pickE_eq] at h2
  exact ⟨by rw [← r1.length, hn1, hn], by rw [← r2.length, hn2, hkn], by rw [← r12.length]; exact hl _ _ hn1 hn2, μ2, L2, _, _, R2, r12, h2, q.mono (e1.trans e2)⟩
/-! ### statements -/
/-- what is behind a statement serves what is wanted there -/
structure PostE (D : Gd) (μ : List Addr) (H : Hp) (nx : KS) (B : Bh) (W : Ends) : Prop where
  nx : PostS D μ H nx W.nx
  rt : PostV D μ H B.rt W.rt
  bk : PostS D μ H B.bk W.bk
  ct : PostS D μ H B.ct W.ct
theorem PostE.mono {μ μ1 : List Addr} {H H1 : Hp} {nx : KS} {B : Bh} {W : Ends} (e : Ext D μ H μ1 H1) (p : PostE D μ H nx B W) : PostE D μ1 H1 nx B W := ⟨p.nx.mono e, p.rt.mono e, p.bk.mono e, p.ct.mono e⟩
def tx (D : Gd) (E : En) (m : MS) : TS := fun W σ H => ∃ μ s L nx B, RS D μ H s σ ∧ Rep D μ L H ∧ (x m E s L nx B).holds ∧ PostE D μ H nx B W
def txs (D : Gd) (E : En) (m : MSs) : TS := fun W σ H => ∃ μ s L nx B, RS D μ H s σ ∧ Rep D μ L H ∧ (xs m E s L nx B).holds ∧ PostE D μ H nx B W
theorem PS.imp {e : Stmt} {t t' : TS} (h : PS X e t) (f : ∀ W σ H, t' W σ H → t W σ H) : PS X e t' := ⟨fun pins s σ H W I q => h.run pins s σ H W I (f _ _ _ q)⟩
theorem PSs.imp {e : List Stmt} {t t' : TS} (h : PSs X e t) (f : ∀ W σ H, t' W σ H → t W σ H) : PSs X e t' := ⟨fun pins s σ H W I q => h.run pins s σ H W I (f _ _ _ q)⟩
theorem ss_nil : PSs X [] (txs D En0 .nil) := PSs.imp pss_nil fun W σ H ⟨μ, s, L, nx, B, rs, R, hk, p⟩ => p.nx s L μ H σ Ext.refl R rs hk
theorem ss_cons {m : MS} {r : MSs} {st : Stmt} {rest : List Stmt} (h1 : PS X st (tx D En0 m)) (h2 : PSs X rest (txs D En0 r)) : PSs X (st :: rest) (txs D En0 (.cons m r)) := by
  refine PSs.imp (pss_cons h1 h2) fun W σ H ⟨μ, s, L, nx, B, rs, R, hk, p⟩ => ?_
  refine ⟨μ, s, L, _, B, rs, R, hk, ?_, p.rt, p.bk, p.ct⟩
  exact fun s1 L1 μ1 H1 σ1 e1 R1 rs1 h1 => ⟨μ1, s1, L1, nx, B, rs1, R1, h1, p.mono e1⟩
theorem s_pass {pos : Pos} : PS X (.Pass pos) (tx D En0 .pass) := PS.imp ps_pass fun W σ H ⟨μ, s, L, nx, B, rs, R, hk, p⟩ => p.nx s L μ H σ Ext.refl R rs hk
theorem s_doc {x j pos pos'} : PS X (.Expr (.Constant (.str x) j pos) pos') (tx D En0 .pass) := PS.imp ps_doc fun W σ H ⟨μ, s, L, nx, B, rs, R, hk, p⟩ => p.nx s L μ H σ Ext.refl R rs hk
theorem s_brk {pos : Pos} : PS X (.Break pos) (tx D En0 .brk) := PS.imp ps_break fun W σ H ⟨μ, s, L, nx, B, rs, R, hk, p⟩ => p.bk s L μ H σ Ext.refl R rs hk
theorem s_cont {pos : Pos} : PS X (.Continue pos) (tx D En0 .cont) := PS.imp ps_continue fun W σ H ⟨μ, s, L, nx, B, rs, R, hk, p⟩ => p.ct s L μ H σ Ext.refl R rs hk
theorem s_ret {e : ME} {ee : Expr} {pos : Pos} (he : PE X ee (tev D En0 e)) : PS X (.Return (some ee) pos) (tx D En0 (.ret e)) := PS.imp (ps_ret he) fun W σ H ⟨μ, s, L, nx, B, rs, R, hk, p⟩ => ⟨μ, s, L, _, rs, R, hk, p.rt⟩
theorem s_retN {pos : Pos} : PS X (.Return none pos) (tx D En0 .retN) := PS.imp ps_retN fun W σ H ⟨μ, s, L, nx, B, rs, R, hk, p⟩ => p.rt _ L μ H _ Ext.refl R .non hk
def notComp : Expr → Bool
  | .ListComp .. => false
  | .SetComp .. => false
  | .DictComp .. => false
  | _ => true
theorem swaps_no {e : Expr} {t : Option Expr} {l : Nat} {env : Env} (h : notComp e = true) : swapsWith e t l env = pure false := by
  cases e <;> first | rfl | cases h
theorem s_ex {e : ME} {ee : Expr} {pos : Pos} (he : PE X ee (tev D En0 e)) (hn : notComp ee = true) : PS X (.Expr ee pos) (tx D En0 (.ex e)) := by
  refine PS.imp (ps_expr he (swaps_no hn)) fun W σ H ⟨μ, s, L, nx, B, rs, R, hk, p⟩ => ?_
  exact ⟨μ, s, L, _, rs, R, hk, fun v L1 μ1 H1 u e1 R1 r1 h1 => p.nx s L1 μ1 H1 σ e1 R1 (rs.mono e1) h1⟩
theorem s_if {c : ME} {a b : MSs} {ec : Expr} {ea eb : List Stmt} {pos : Pos} (hc : PT X ec (ttv D En0 c)) (ha : PSs X ea (txs D En0 a)) (hb : PSs X eb (txs D En0 b)) : PS X (.If ec ea eb pos) (tx D En0 (.iff c a b)) := by
  refine PS.imp (ps_if hc ha hb) fun W σ H ⟨μ, s, L, nx, B, rs, R, hk, p⟩ => ?_
  refine ⟨μ, s, L, _, rs, R, hk, fun b L1 μ1 H1 e1 R1 h1 => ?_⟩
  cases b with
  | true =>
    rw [if_pos rfl]
    exact ⟨μ1, s, L1, nx, B, rs.mono e1, R1, h1, p.mono e1⟩
  | false =>
    rw [if_neg Bool.false_ne_true]
    exact ⟨μ1, s, L1, nx, B, rs.mono e1, R1, h1, p.mono e1⟩
theorem tAsg_imp {e : ME} {t : MT} : ∀ W σ H, tx D En0 (.asg t e) W σ H → tAsg (tev D En0 e) (tevG D En0 t) W σ H := fun W σ H ⟨μ, s, L, nx, B, rs, R, hk, p⟩ =>
  ⟨μ, s, L, _, rs, R, hk, fun v L1 μ1 H1 u e1 R1 r1 h1 => ⟨μ1, s, L1, v, nx, rs.mono e1, R1, r1, h1, fun s2 L2 μ2 H2 σ2 e2 R2 rs2 _ h2 => p.nx s2 L2 μ2 H2 σ2 (e1.trans e2) R2 rs2 h2⟩⟩
theorem s_asg {e : ME} {t : MT} {et ee : Expr} {pos : Pos} (he : PE X ee (tev D En0 e)) (hg : PG X et (tevG D En0 t)) (hs : swapsWithSole [et] ee pos.line X.env = pure false) (hw : swappedStores [et] ee X.env = pure none) (hn : notStar et = true) : PS X (.Assign [et] ee pos) (tx D En0 (.asg t e)) :=
  PS.imp (ps_asg he hg hs hw (by rw [assignEach_cons hn]; rfl)) tAsg_imp
theorem s_setLc (C : Cok D S sc rm gv X) {i : Nat} {y : Str} {py : Pos} {elt tg iter : Expr} {ifs : List Expr} {scope : Scope} {own : List (Str × Nat)} {pos spos : Pos} {it : MI} {t : MT} {c : Mo} {e : ME} (hy : X.N[i]? = some y) (hyl : X.env.scope.names.lookup y = some .local)
    (hsw : swapsWith (.ListComp elt [⟨tg, iter, ifs, 0⟩] scope pos) (some (.Name y py)) spos.line X.env = pure true) (hi : PI X tg iter (tevI D En0 it)) (ok : BlkOk X.N X.env.scope scope own) (hsl : slotsIn (own.map (·.2)) t = true)
    (hg : ∀ (s : Shared) (H : Hp) (C : Addr) (cl : List (Str × Addr)) (fp : List Addr), PG (X.blk s H scope (compEnvC scope cl C X.env) fp) tg (tevG D En0 t)) (ht : ∀ (s : Shared) (H : Hp) (C : Addr) (cl : List (Str × Addr)) (fp : List Addr), PTs (X.blk s H scope (compEnvC scope cl C X.env) fp) ifs (tevO D En0 c))
    (he : ∀ (s : Shared) (H : Hp) (C : Addr) (cl : List (Str × Addr)) (fp : List Addr), PE (X.blk s H scope (compEnvC scope cl C X.env) fp) elt (tev D En0 e)) (hs : ∀ x, foldedSetIterable iter X.env x = pure x) :
    PS X (.Assign [.Name y py] (.ListComp elt [⟨tg, iter, ifs, 0⟩] scope pos) spos) (tx D En0 (.asg (.nm i) (.lc it t (own.map (·.2)) c e))) := by
  refine PS.imp (ps_setLc C.calm C.nd hy hyl hsw hi ok hg ht he hs) fun W σ H h => ?_
  obtain ⟨μ, s, L, nx, B, rs, R, hk, p⟩ := h
  rw [x] at hk
  refine lc_imp C.ok hsl σ H _ ⟨μ, s, L, _, rs, R, hk, fun v L1 μ1 H1 u e1 R1 r1 h1 => ?_⟩
  simp only [evT, setS_eq] at h1
  exact p.nx _ L1 μ1 H1 _ e1 R1 ((rs.mono e1).set r1 i) h1
theorem ps_fzE {st : Stmt} {t : TS} (h : PS X st t) : PS X st fun W σ H => t { W with nx := fun σ' H' => Fz (W.nx σ') H' } σ H := ⟨fun pins s σ H W I q => thn (h.run pins s σ H _ I q) fun f s1 g => by
  cases f with
  | next =>
    obtain ⟨σ', H', I', z⟩ := g
    obtain ⟨H2, I2, z2⟩ := fz_inv I' z
    exact ⟨σ', H2, I2, z2⟩
  | brk => exact g
  | cont => exact g
  | ret v => exact g⟩
theorem s_setVlc (C : Cok D S sc rm gv X) {i : Nat} {y : Str} {py : Pos} {elt tg iter : Expr} {ifs : List Expr} {scope : Scope} {own : List (Str × Nat)} {pos spos : Pos} {it : MI} {t : MT} {c : Mo} {e : ME} (hy : X.N[i]? = some y) (hyl : X.env.scope.names.lookup y = some .local)
    (hsw : swapsWith (.ListComp elt [⟨tg, iter, ifs, 0⟩] scope pos) (some (.Name y py)) spos.line X.env = pure true) (hi : PI X tg iter (tevI D En0 it)) (ok : BlkOk X.N X.env.scope scope own) (hsl : slotsIn (own.map (·.2)) t = true)
    (hg : ∀ (s : Shared) (H : Hp) (C : Addr) (cl : List (Str × Addr)) (fp : List Addr), PG (X.blk s H scope (compEnvC scope cl C X.env) fp) tg (tevG D En0 t)) (ht : ∀ (s : Shared) (H : Hp) (C : Addr) (cl : List (Str × Addr)) (fp : List Addr), PTs (X.blk s H scope (compEnvC scope cl C X.env) fp) ifs (tevO D En0 c))
    (he : ∀ (s : Shared) (H : Hp) (C : Addr) (cl : List (Str × Addr)) (fp : List Addr), PE (X.blk s H scope (compEnvC scope cl C X.env) fp) elt (tev D En0 e)) (hs : ∀ x, foldedSetIterable iter X.env x = pure x) :
    PS X (.Assign [.Name y py] (.ListComp elt [⟨tg, iter, ifs, 0⟩] scope pos) spos) (tx D En0 (.asg (.nm i) (.vlc it t (own.map (·.2)) c e))) := by
  refine PS.imp (ps_fzE (ps_setLc C.calm C.nd hy hyl hsw hi ok hg ht he hs)) fun W σ H h => ?_
  obtain ⟨μ, s, L, nx, B, rs, R, hk, p⟩ := h
  rw [x] at hk
  refine vlc_imp C.ok hsl σ H (fun u H' => W.nx (σ.set i (some u)) H') ⟨μ, s, L, _, rs, R, hk, fun v L1 μ1 H1 u e1 R1 r1 h1 => ?_⟩
  simp only [evT, setS_eq] at h1
  exact p.nx _ L1 μ1 H1 _ e1 R1 ((rs.mono e1).set r1 i) h1
theorem s_frz (C : Cok D S sc rm gv X) {v : Nat} {m : MS} {st : Stmt} (hs : PS X st (tx D En0 m)) : PS X st (tx D En0 (.frz v m)) := by
  refine PS.imp (ps_fz hs) fun W σ H ⟨μ, s, L, nx, B, rs, R, hk, p⟩ => ?_
  have hk : (slotE s v fun x' => frzK x' L fun y L => setS s v y fun s => x m En0 s L nx B).holds := hk
  obtain ⟨y, ey, h1⟩ := slot_of hk
  obtain ⟨u, eu, ru⟩ := rs.2 v y ey
  have hset : σ.set v (some u) = σ := by
    apply List.ext_getElem?
    intro i
    by_cases hi : v = i
    · subst hi
      rw [List.getElem?_set_self (List.getElem?_eq_some_iff.mp eu).1, eu]
    · rw [List.getElem?_set_ne hi]
  have go : ∀ {y' : EV} {L' : LH} {μ' : List Addr} {H' : Hp}, Ext D μ H μ' H' → Rep D μ' L' H' → RV D μ' H' y' u → (setS s v y' fun s => x m En0 s L' nx B).holds → tx D En0 m W σ H' := fun {y' L' μ' H'} ex R' r' hh => by
    rw [setS_eq] at hh
    refine ⟨μ', _, L', nx, B, ?_, R', hh, p.mono ex⟩
    have := (rs.mono ex).set r' v
    rw [hset] at this
    exact this
  cases ru with
  | @ref i a ha =>
    simp only [frzK] at h1
    obtain ⟨xs, us, g1, g2, g3, h2⟩ := lstK_tr R ha h1
    refine .step (d := a) (u := .lst us) g2 trivial fun od => .done ?_
    obtain ⟨L8, e8, R8, _, _, h10⟩ := put_ok (u := .frz od (.lst us)) C.ok R ha g1 g2 rfl _ h2 fun ex => ⟨od, _, upd_same⟩
    exact go e8 R8 (.vl upd_same (g3.mono e8)) h10
  | non => exact .done (go Ext.refl R .non h1)
  | bl b => exact .done (go Ext.refl R (.bl b) h1)
  | int b => exact .done (go Ext.refl R (.int b) h1)
  | str b => exact .done (go Ext.refl R (.str b) h1)
  | tup a b => exact .done (go Ext.refl R (.tup a b) h1)
  | fn b => exact .done (go Ext.refl R (.fn b) h1)
  | ty b => exact .done (go Ext.refl R (.ty b) h1)
  | opq => exact .done (go Ext.refl R .opq h1)
  | kd b => exact .done (go Ext.refl R (.kd b) h1)
  | vl a b => exact .done (go Ext.refl R (.vl a b) h1)
theorem whileE_s {test : SL → LH → (Bool → LH → T) → T} {body : SL → LH → KS → T} {fin : KS} {f : Nat} {s : SL} {L : LH} : whileE test body fin (f + 1) s L = test s L fun b L => ifB b (fun _ => body s L fun s L => whileE test body fin f s L) fun _ => fin s L := rfl
theorem s_while (C : Cok D S sc rm gv X) {c : ME} {b : MSs} {ec : Expr} {eb : List Stmt} {pos : Pos} (hp : PassesOwn (model X.prog X.w) X.A X.env X.xe) (hc : PT X ec (ttv D En0 c)) (hb : PSs X eb (txs D En0 b)) : PS X (.While ec eb [] pos) (tx D En0 (.whl c b)) := by
  refine PS.imp (ps_while hp hc hb) fun W σ H ⟨μ, s, L, nx, B, rs, R, hk, p⟩ => ?_
  simp only [x] at hk
  refine ⟨fun m σ' H' => ∃ μ' s' L', Ext D μ H μ' H' ∧ RS D μ' H' s' σ' ∧ Rep D μ' L' H' ∧ (whileE (fun s L k => ev c En0 true s L fun v L => isBl v (fun _ => k true L) fun _ => k false L) (fun s L k => xs b En0 s L k ⟨B.rt, nx, k⟩) nx m s' L').holds, ⟨En0.W, μ, s, L, Ext.refl, rs, R, hk⟩, ?_⟩
  rintro m σ1 H1 ⟨μ1, s1, L1, e1, rs1, R1, h1⟩
  cases m with
  | zero => exact h1.elim
  | succ m =>
    rw [whileE_s] at h1
    refine ⟨μ1, s1, L1, _, rs1, R1, h1, fun d L2 μ2 H2 e2 R2 h2 => ?_⟩
    cases d with
    | false =>
      rw [if_neg Bool.false_ne_true]
      exact p.nx s1 L2 μ2 H2 σ1 (e1.trans e2) R2 (rs1.mono e2) h2
    | true =>
      rw [if_pos rfl]
      refine ⟨fun σ' H' => ∃ μ' s' L', Ext D μ H μ' H' ∧ RS D μ' H' s' σ' ∧ Rep D μ' L' H' ∧ (whileE (fun s L k => ev c En0 true s L fun v L => isBl v (fun _ => k true L) fun _ => k false L) (fun s L k => xs b En0 s L k ⟨B.rt, nx, k⟩) nx m s' L').holds, fun σ' H' hh => ⟨m, Nat.lt_succ_self m, hh⟩, ?_⟩
      have e12 := e1.trans e2
      refine ⟨μ2, s1, L2, _, ⟨B.rt, nx, _⟩, rs1.mono e2, R2, h2, ?_, p.rt.mono e12, p.nx.mono e12, ?_⟩
      · exact fun s3 L3 μ3 H3 σ3 e3 R3 rs3 h3 => ⟨μ3, s3, L3, e12.trans e3, rs3, R3, h3⟩
      · exact fun s3 L3 μ3 H3 σ3 e3 R3 rs3 h3 => ⟨μ3, s3, L3, e12.trans e3, rs3, R3, h3⟩
theorem s_for (C : Cok D S sc rm gv X) {t : MT} {it : MI} {b : MSs} {et ei : Expr} {eb : List Stmt} {pos : Pos} (hp : PassesOwn (model X.prog X.w) X.A X.env X.xe) (hi : PI X et ei (tevI D En0 it)) (hg : PG X et (tevG D En0 t)) (hb : PSs X eb (txs D En0 b)) (hs : ∀ x, foldedSetIterable ei X.env x = pure x) : PS X (.For et ei eb [] pos) (tx D En0 (.for t it b)) := by
  refine PS.imp (ps_for hp C.calm hi hg hb hs) fun W σ H ⟨μ, s, L, nx, B, rs, R, hk, p⟩ => ?_
  simp only [x] at hk
  refine ⟨μ, s, L, _, rs, R, hk, fun J N L1 μ1 H1 e1 R1 r1 h1 => ?_⟩
  refine ⟨fun i m σ' H' => ∃ μ' s' L' N', Ext D μ H μ' H' ∧ RS D μ' H' s' σ' ∧ Rep D μ' L' H' ∧ ItR D μ' H' J i N' ∧ (loopE (fun v s L k => evT t En0 v s L fun s L => xs b En0 s L k ⟨B.rt, nx, k⟩) nx m N' s' L').holds, ⟨En0.W, μ1, s, L1, N, e1, rs.mono e1, R1, r1, h1⟩, ?_⟩
  rintro i m σ2 H2 ⟨μ2, s2, L2, N2, e2, rs2, R2, r2, h2⟩
  cases m with
  | zero => exact h2.elim
  | succ m =>
    simp only [loopE] at h2
    rcases next_ok C.ok R2 r2 h2 with ⟨stop, h3⟩ | ⟨go, step⟩
    · exact .inl ⟨stop, p.nx s2 L2 μ2 H2 σ2 e2 R2 rs2 h3⟩
    · refine .inr ⟨go, fun σ' H' => ∃ μ' s' L' N', Ext D μ H μ' H' ∧ RS D μ' H' s' σ' ∧ Rep D μ' L' H' ∧ ItR D μ' H' J (i + 1) N' ∧ (loopE (fun v s L k => evT t En0 v s L fun s L => xs b En0 s L k ⟨B.rt, nx, k⟩) nx m N' s' L').holds, fun σ' H' hh => ⟨m, Nat.lt_succ_self m, hh⟩, fun y H3 hy => ?_⟩
      obtain ⟨v, N3, e3, R3, rv, r3, h3⟩ := step y H3 hy
      refine ⟨μ2, s2, L2, v, _, rs2.mono e3, R3, rv, h3, fun s4 L4 μ4 H4 σ4 e4 R4 rs4 _ h4 => ?_⟩
      have eA := e2.trans (e3.trans e4)
      refine ⟨μ4, s4, L4, _, ⟨B.rt, nx, _⟩, rs4, R4, h4, ?_, p.rt.mono eA, p.nx.mono eA, ?_⟩
      · exact fun s5 L5 μ5 H5 σ5 e5 R5 rs5 h5 => ⟨μ5, s5, L5, N3, eA.trans e5, rs5, R5, r3.mono (e4.trans e5), h5⟩
      · exact fun s5 L5 μ5 H5 σ5 e5 R5 rs5 h5 => ⟨μ5, s5, L5, N3, eA.trans e5, rs5, R5, r3.mono (e4.trans e5), h5⟩
end
end Ev

set_option Elab.async false
set_option linter.all false
set_option maxRecDepth 100000
set_option maxHeartbeats 4000000
/-! EvE6D: dicts: displays, rows of what they hold, locks. -/
namespace Ev
open PySem PySem.Spec PyProof.Rows L2
section
variable {D : Gd} {S : Sx} {sc : Scope} {rm : Nat} {gv : Str → Option V} {X : Cx} {En0 : En}
/-! ### list(d.values()) -/
def tListVals (te : TE) : TE := fun σ H Q => te σ H fun x H1 => ∃ (d : Addr) (kvs : List (Key × V)), x = .ref d ∧ H1 d = some (.dK kvs) ∧ ∀ p, H1 p = none → Q (.ref p) (upd H1 p (.lst (kvs.map (·.2))))
theorem vals_at : ∀ {kvs : List (Key × V)} {vs : List (Key × Value)} {us : List Value}, L2.KV kvs vs → us.length = vs.length → (∀ (j : Nat) (v : Value), us[j]? = some v → ∃ k, vs[j]? = some (k, v)) → Vals (kvs.map (·.2)) us
  | [], _, us, r, hl, _ => by
    cases r
    cases us with
    | nil => exact .nil
    | cons _ _ => cases hl
  | p :: kvs, _, us, r, hl, h => by
    cases r with
    | @cons a b as bs h1 t =>
      cases us with
      | nil => cases hl
      | cons u us =>
        obtain ⟨k, e⟩ := h 0 u rfl
        cases e
        exact .cons h1.2 (vals_at t (Nat.succ.inj hl) fun j v e => h (j + 1) v e)
theorem pe_listVals {e : Expr} {te : TE} {p apos cpos pos : Pos} (hc : X.calm = true) (he : PE X e te) (hg : Gl X "list") (hm : X.mg "list" = none) (hv : bootBuiltins "list" = some (.type "list")) (hbase : attributeBase e "values" X.env (eval e X.env) = eval e X.env) (hline : (apos.endLine == cpos.line) = true)
    (hs : starEach [.Call (.Attribute e "values" apos) [] [] cpos] X.env = (false, eval (.Call (.Attribute e "values" apos) [] [] cpos) X.env) :: starEach [] X.env := by rfl) :
    PE X (.Call (.Name "list" p) [.Call (.Attribute e "values" apos) [] [] cpos] [] pos) (tListVals te) := by
  refine ⟨fun pins s σ H Q I hq => ?_⟩
  refine wpAny_Call_Name_kw (ld_blt I hg hm hv ?_)
  refine PyProof.Rows.callWith_type1 ?_ hs rfl
  rw [hs]
  show wpAny _ _ (spliced ((false, eval (.Call (.Attribute e "values" apos) [] [] cpos) X.env) :: backTo pos (starEach [] X.env))) _ _ s
  refine Calls.spliced_cons ?_
  refine wpAny_Call_method (T := "dict") (id := "dict.values") hbase rfl hline F.plainAttrs_dict F.slot_dict_values F.type_dict_values (thn (he.run pins s σ H _ I hq) fun u s1 ⟨x, H1, I1, rx, d, kvs, ex, hd, q⟩ => ?_)
  subst ex
  obtain rfl : u = Value.ref d := rx
  obtain ⟨hz, hs0, vs, kv, hdo⟩ := I1.hok d _ hd
  obtain ⟨ep, hat⟩ := hdo.dictAt
  have lk : kvs.length = vs.length := Paired.length kv
  have I2 : Inv X pins σ H1 { s1 with heap := s1.heap.push { cls := .type "dict_values", data := .fields #[.ref d] } } := I1.kept (t' := s1.toks) fun b ob q => Heap.get?_push_of_some _ q
  refine ⟨hdo.typeIs, hdo.mapOf.noDict, ?_⟩
  show wpAny _ _ (callWith cpos (.builtin "dict.values") [.ref d] [] []) _ X.xe s1
  refine method_meetsIn F.slot_dict_values F.entry_dict_values rfl (PySem.evalArgs_none ⟨rfl, hdo.typeIs, F.args_dict_values_1 _, _, meets_dict_values (mixKind X.prog X.w) d hs0, ⟨vs, hdo⟩, ?_⟩)
  refine Calls.spliced_nil ?_
  refine PySem.W.kdl_call (PySem.W.kdl_values (knd := mixKind X.prog X.w) (kvs := vs) (ep := ep) (r := s1.heap.objs.size) (d := d)) (I1.ok.hd hc) ⟨⟨_, Heap.get?_push_size _ rfl, rfl, rfl⟩, hat.push _⟩ (by rw [← lk]; exact hz) fun h' tk acc c hk hD hacc => ?_
  have hv : Vals (kvs.map (·.2)) acc.toList := vals_at kv (by rw [Array.length_toList]; exact hacc.1) fun j v e => hacc.2 j v (by rw [← Array.getElem?_toList]; exact e)
  exact ⟨.ref _, _, I2.laid (t' := tk) hk (Nat.le_refl _) (show ObjOk X.prog X.w _ _ _ (.lst (kvs.map (·.2))) from ⟨by rw [List.length_map]; exact hz, acc.toList, c, hv, by rw [Array.toArray_toList]; exact hD⟩), rfl, q _ (I2.hok.fresh (Nat.le_refl _))⟩
theorem dctK_of {μ : List Addr} {H : Hp} {L : LH} (R : Rep D μ L H) {a : Nat} {p : Addr} (ha : μ[a]? = some p) {k : List (EV × EV) → T} (h : (dctK (L.get a) k).holds) : ∃ ps kvs, L.get a = some (.dct ps) ∧ H p = some (.dK kvs) ∧ RPs D μ H ps kvs ∧ (k ps).holds := by
  obtain ⟨o, e, r⟩ := R.ob a p ha
  rw [e] at h
  cases o with
  | lst xs => exact h.elim
  | dead => exact h.elim
  | dct ps =>
    obtain ⟨us, h1, h2⟩ := r
    exact ⟨ps, us, e, h1, h2, h⟩
  | fdct ps => exact h.elim
theorem fdctK_of {μ : List Addr} {H : Hp} {L : LH} (R : Rep D μ L H) {a : Nat} {p : Addr} (ha : μ[a]? = some p) {k : List (EV × EV) → T} (h : (fdctK (L.get a) k).holds) : ∃ ps od kvs, L.get a = some (.fdct ps) ∧ H p = some (.frz od (.dK kvs)) ∧ RPs D μ H ps kvs ∧ (k ps).holds := by
  obtain ⟨o, e, r⟩ := R.ob a p ha
  rw [e] at h
  cases o with
  | lst xs => exact h.elim
  | dct ps => exact h.elim
  | dead => exact h.elim
  | fdct ps =>
    obtain ⟨od, us, h1, h2⟩ := r
    exact ⟨ps, od, us, e, h1, h2, h⟩
theorem e_vll (C : Cok D S sc rm gv X) {m : ME} {e : Expr} {p apos cpos pos : Pos} (he : PE X e (tev D En0 m)) (hg : Gl X "list") (hn : notCall e = true) (hl : (apos.endLine == cpos.line) = true) : PE X (.Call (.Name "list" p) [.Call (.Attribute e "values" apos) [] [] cpos] [] pos) (tev D En0 (.vll m)) := by
  refine PE.imp (pe_fz (pe_listVals C.calm he hg (C.free "list" (by simp)) (boot_B .list).1 (base_of hn) hl)) fun σ H Q ⟨μ, s, L, k, rs, R, hk, p⟩ => ?_
  refine ⟨μ, s, L, _, rs, R, hk, fun x L1 μ1 H1 u e1 R1 r1 h1 => ?_⟩
  obtain ⟨a, ea, h2⟩ := refK_of h1
  subst ea
  obtain ⟨pa, eo, ha⟩ := rv_ref r1
  subst eo
  obtain ⟨ps, kvs, g1, g2, g3, h3⟩ := dctK_of R1 ha h2
  rw [appK_eq, List.append_nil] at h3
  refine ⟨pa, kvs, rfl, g2, fun pp hp => fz_new fun od => ?_⟩
  obtain ⟨e2, R2, r2⟩ := new_vl C.ok R1 hp g3.vals od
  exact p _ L1 μ1 _ _ (e1.trans e2) R2 r2 h3
/-! ### list(d.items()) -/
/-- new things that are no objects of ours -/
theorem ext_up (G : D.Ok) {μ : List Addr} {H H' : Hp} {L : LH} (R : Rep D μ L H) (up : ∀ b u, H b = some u → H' b = some u) : Ext D μ H μ H' ∧ Rep D μ L H' := by
  have ext : Ext D μ H μ H' := ⟨⟨[], by simp⟩, fun b xs r => up b _ r, fun b q hb _ _ => up b q hb, fun b o v hb => up b _ hb, fun b hb => .inl hb⟩
  refine ⟨ext, R.len, R.nd, fun i a hi => ?_, R.top, R.rs, G.keep _ _ _ R.J fun b hb => ?_⟩
  · obtain ⟨q, e1, r1⟩ := R.ob i a hi
    exact ⟨q, e1, r1.mono ext fun v hv => up a v hv⟩
  · cases q : H b with
    | none => exact absurd q (G.there _ H b R.J hb)
    | some u => exact up b u q
theorem items_RVs {μ : List Addr} {H : Hp} : ∀ {ps : List (EV × EV)} {kvs : List (Key × V)} {ts : List Addr}, RPs D μ H ps kvs → Paired (fun (t : Addr) (q : Key × V) => H t = some (.tup [kV q.1, q.2])) ts kvs → RVs D μ H (itemsE ps) (ts.map V.ref)
  | [], [], _, _, r => by cases r; exact .nil
  | [], _ :: _, _, r, _ => r.elim
  | _ :: _, [], _, r, _ => r.elim
  | p :: ps, q :: qs, _, ⟨r1, r2, r3⟩, r => by
    cases r with
    | cons h t => exact .cons (.tup (.inl h) (.cons r1.rv (.cons r2 .nil))) (items_RVs r3 t)
theorem e_itl (C : Cok D S sc rm gv X) {m : ME} {e : Expr} {p apos cpos pos : Pos} (he : PE X e (tev D En0 m)) (hg : Gl X "list") (hn : notCall e = true) (hl : (apos.endLine == cpos.line) = true) : PE X (.Call (.Name "list" p) [.Call (.Attribute e "items" apos) [] [] cpos] [] pos) (tev D En0 (.itl m)) := by
  refine PE.imp (pe_fz (LiI.pe_listItems C.calm he hg (C.free "list" (by simp)) (boot_B .list).1 (base_of hn) hl)) fun σ H Q ⟨μ, s, L, k, rs, R, hk, p⟩ => ?_
  refine ⟨μ, s, L, _, rs, R, hk, fun x L1 μ1 H1 u e1 R1 r1 h1 => ?_⟩
  obtain ⟨a, ea, h2⟩ := refK_of h1
  subst ea
  obtain ⟨pa, eo, ha⟩ := rv_ref r1
  subst eo
  obtain ⟨ps, kvs, g1, g2, g3, h3⟩ := dctK_of R1 ha h2
  refine ⟨pa, kvs, rfl, g2, fun H' pp ts up hp _ _ hp' hts => ?_⟩
  rw [appK_eq, List.append_nil] at h3
  refine .step (d := pp) (u := .lst (ts.map V.ref)) hp' trivial fun od => .done ?_
  have ne : ∀ b u, H1 b = some u → b ≠ pp := fun b u hb z => by subst z; rw [hp] at hb; cases hb
  obtain ⟨ext, R'⟩ := ext_up (H' := upd H' pp (.frz od (.lst (ts.map V.ref)))) C.ok R1 fun b u hb => by rw [upd_ne (ne b u hb)]; exact up b u hb
  obtain ⟨ext0, _⟩ := ext_up (H' := H') C.ok R1 up
  have tup : ∀ b xs, H' b = some (.tup xs) → upd H' pp (.frz od (.lst (ts.map V.ref))) b = some (.tup xs) := fun b xs hb => by rw [upd_ne (fun z => by subst z; rw [hp'] at hb; cases hb)]; exact hb
  have frl : ∀ b od' xs, H' b = some (.frz od' (.lst xs)) → upd H' pp (.frz od (.lst (ts.map V.ref))) b = some (.frz od' (.lst xs)) := fun b od' xs hb => by rw [upd_ne (fun z => by subst z; rw [hp'] at hb; cases hb)]; exact hb
  exact p _ L1 μ1 _ _ (e1.trans ext) R' (.vl upd_same ((items_RVs (RPs.mono ext0 g3) hts).mono2 tup frl)) h3
/-! ### locks -/
theorem lock_ok (G : D.Ok) {μ : List Addr} {H : Hp} {L : LH} (R : Rep D μ L H) {v : EV} {u : V} (r : RV D μ H v u) {k : Nat → LH → T} (h : (lockK v L k).holds) :
    ∃ a p kvs, v = .ref a ∧ u = .ref p ∧ μ[a]? = some p ∧ H p = some (.dK kvs) ∧ ∀ od, ∃ L', Ext D μ H μ (upd H p (.frz od (.dK kvs))) ∧ Rep D μ L' (upd H p (.frz od (.dK kvs))) ∧ (k a L').holds := by
  unfold lockK at h
  obtain ⟨a, ea, h2⟩ := refK_of h
  subst ea
  obtain ⟨p, eo, ha⟩ := rv_ref r
  obtain ⟨ps, kvs, g1, g2, g3, h3⟩ := dctK_of R ha h2
  refine ⟨a, p, kvs, rfl, eo, ha, g2, fun od => ?_⟩
  obtain ⟨L', ext, R', _, _, hk⟩ := put_ok (u := .frz od (.dK kvs)) G R ha g1 g2 rfl _ h3 fun ex => ⟨od, kvs, upd_same, RPs.mono ex g3⟩
  exact ⟨L', ext, R', hk⟩
/-- behind the lock: from H, where p stood, to H' where it stands again -/
theorem unlock_ok (G : D.Ok) {μ μ' : List Addr} {H H' : Hp} {L' : LH} {a : Nat} {p : Addr} {od : Obj} {kvs : List (Key × V)} (hp : H p = some (.dK kvs)) (ha : μ[a]? = some p) (e : Ext D μ (upd H p (.frz od (.dK kvs))) μ' H') (R' : Rep D μ' L' H') {k : LH → T} (h : (unlkK a L' k).holds) :
    H' p = some (.frz od (.dK kvs)) ∧ ∃ L2, Ext D μ H μ' (upd H' p (.dK kvs)) ∧ Rep D μ' L2 (upd H' p (.dK kvs)) ∧ (∀ v u, RV D μ' H' v u → RV D μ' (upd H' p (.dK kvs)) v u) ∧ (k L2).holds := by
  have hf := e.frz p od _ upd_same
  refine ⟨hf, ?_⟩
  unfold unlkK at h
  have ha' := e.at ha
  obtain ⟨ps, od', kvs', g1, g2, g3, h3⟩ := fdctK_of R' ha' h
  rw [hf] at g2
  cases g2
  have hm' : p ∈ μ' := List.mem_of_getElem? ha'
  have nr : p ∉ D.rsv := R'.rs p hm'
  -- the step back is no Ext of its own: what was locked stands open again
  have tup : ∀ b xs, H' b = some (.tup xs) → upd H' p (.dK kvs) b = some (.tup xs) := fun b xs hb => by
    rw [upd_ne (fun z => by subst z; rw [hf] at hb; cases hb)]; exact hb
  have frl : ∀ b od' xs, H' b = some (.frz od' (.lst xs)) → upd H' p (.dK kvs) b = some (.frz od' (.lst xs)) := fun b od' xs hb => by
    rw [upd_ne (fun z => by subst z; rw [hf] at hb; cases hb)]; exact hb
  have mvs : ∀ v u, RV D μ' H' v u → RV D μ' (upd H' p (.dK kvs)) v u := fun v u r => RV.mono2 tup frl r
  unfold LH.putK at h3
  rw [HT.putK_eq] at h3
  have hg : (L'.t.put (.dct ps) a).get a = some (.dct ps) := HT.get_put_same _ L'.t a (by show (L'.get a).isSome = true; rw [g1]; rfl)
  have ho' : ∀ j, j ≠ a → (L'.t.put (.dct ps) a).get j = L'.t.get j := fun j hj => HT.put_ne _ L'.t a j (Ne.symm hj)
  refine ⟨⟨L'.n, L'.t.put (.dct ps) a, L'.c⟩, ⟨e.pre, fun b xs hb => ?_, fun b o hb hn hr => ?_, fun b o u hb => ?_, fun b hb => ?_⟩, ⟨R'.len, R'.nd, fun j b hj => ?_, fun j q hj => ?_, R'.rs, G.keep _ _ _ R'.J fun b hb => upd_ne fun z => nr (z ▸ hb)⟩, mvs, h3⟩
  · have hbp : b ≠ p := fun z => by subst z; rw [hp] at hb; cases hb
    exact tup b xs (e.tup b xs (by rw [upd_ne hbp]; exact hb))
  · have hbp : b ≠ p := fun z => hn (by subst z; exact List.mem_of_getElem? ha)
    rw [upd_ne hbp]
    exact e.keep b o (by rw [upd_ne hbp]; exact hb) hn hr
  · have hbp : b ≠ p := fun z => by subst z; rw [hp] at hb; cases hb
    rw [upd_ne hbp]
    exact e.frz b o u (by rw [upd_ne hbp]; exact hb)
  · rcases e.new b hb with z | z | z
    · exact .inl z
    · have hbp : b ≠ p := fun y => by subst y; rw [upd_same] at z; cases z
      rw [upd_ne hbp] at z
      exact .inr (.inl z)
    · exact .inr (.inr z)
  · by_cases hj' : j = a
    · subst hj'
      rw [ha'] at hj
      cases hj
      exact ⟨_, hg, kvs, upd_same, RPs.mono2 tup frl g3⟩
    · obtain ⟨q, e1, r1⟩ := R'.ob j b hj
      have hbp : b ≠ p := fun z => hj' (by subst z; exact nd_at R'.nd hj ha')
      exact ⟨q, (ho' j hj').trans e1, ObR.mono2 tup frl r1 (fun u hu => by rw [upd_ne hbp]; exact hu)⟩
  · by_cases hj' : j = a
    · subst hj'; exact R'.top j _ g1
    · exact R'.top j q ((ho' j hj').symm.trans hj)
theorem e_lk (G : D.Ok) {v : Nat} {m : ME} {e : Expr} (he : PE X e (tev D En0 m)) : PE X e (tev D En0 (.lk v m)) := by
  refine PE.imp (pe_lock he) fun σ H Q ⟨μ, s, L, k, rs, R, hk, p⟩ => ?_
  have hk : (slotE s v fun x => lockK x L fun a L => ev m En0 false s L fun y L => unlkK a L fun L => k y L).holds := hk
  obtain ⟨x, ex, h1⟩ := slot_of hk
  obtain ⟨u, e2, r⟩ := rs.2 v x ex
  obtain ⟨a, pa, kvs, e3, e4, ha, hp, hl⟩ := lock_ok G R r h1
  subst e3 e4
  refine ⟨pa, _, hp, True.intro, fun od => ?_⟩
  obtain ⟨L1, e1, R1, h2⟩ := hl od
  refine ⟨μ, s, L1, _, rs.mono e1, R1, h2, fun y L2 μ2 H2 w e5 R2 r2 h3 => ?_⟩
  obtain ⟨hf, L3, e6, R3, mv, h4⟩ := unlock_ok G hp ha e5 R2 h3
  exact ⟨hf, p y L3 μ2 _ w e6 R3 (mv _ _ r2) h4⟩
theorem RS.mv {μ : List Addr} {H H' : Hp} {s : SL} {σ : L2.St} (mv : ∀ v u, RV D μ H v u → RV D μ H' v u) (r : RS D μ H s σ) : RS D μ H' s σ := ⟨r.1, fun i v h => let ⟨u, a, b⟩ := r.2 i v h; ⟨u, a, mv _ _ b⟩⟩
theorem s_lk (G : D.Ok) {v : Nat} {m : MS} {st : Stmt} (hs : PS X st (tx D En0 m)) : PS X st (tx D En0 (.lk v m)) := by
  refine PS.imp (ps_lock hs) fun W σ H ⟨μ, s, L, nx, B, rs, R, hk, p⟩ => ?_
  have hk : (slotE s v fun x' => lockK x' L fun a L => x m En0 s L (fun s L => unlkK a L fun L => nx s L) ⟨fun v L => unlkK a L fun L => B.rt v L, fun s L => unlkK a L fun L => B.bk s L, fun s L => unlkK a L fun L => B.ct s L⟩).holds := hk
  obtain ⟨y, ex, h1⟩ := slot_of hk
  obtain ⟨u, e2, r⟩ := rs.2 v y ex
  obtain ⟨a, pa, kvs, e3, e4, ha, hp, hl⟩ := lock_ok G R r h1
  subst e3 e4
  refine ⟨pa, _, hp, True.intro, fun od => ?_⟩
  obtain ⟨L1, e1, R1, h2⟩ := hl od
  have sl : ∀ {k : KS} {Q : L2.St → Hp → Prop}, PostS D μ H k Q → PostS D μ (upd H pa (.frz od (.dK kvs))) (fun s L => unlkK a L fun L => k s L) (fun σ' H' => H' pa = some (.frz od (.dK kvs)) ∧ Q σ' (upd H' pa (.dK kvs))) := fun {k Q} p s2 L2 μ2 H2 σ2 e5 R2 rs2 h3 => by
    obtain ⟨hf, L3, e6, R3, mv, h4⟩ := unlock_ok G hp ha e5 R2 h3
    exact ⟨hf, p s2 L3 μ2 _ σ2 e6 R3 (rs2.mv mv) h4⟩
  refine ⟨μ, s, L1, _, _, rs.mono e1, R1, h2, sl p.nx, fun w L2 μ2 H2 u2 e5 R2 r2 h3 => ?_, sl p.bk, sl p.ct⟩
  obtain ⟨hf, L3, e6, R3, mv, h4⟩ := unlock_ok G hp ha e5 R2 h3
  exact ⟨hf, p.rt w L3 μ2 _ u2 e6 R3 (mv _ _ r2) h4⟩
/-! ### displays -/
/-- the pairs of a display in their order: a key, a value, a key, .. -/
inductive PPm (D : Gd) (E : En) (X : Cx) : Ms → List (Option Expr) → List Expr → Prop where
  | nil : PPm D E X .nil [] []
  | cons {a b : ME} {r : Ms} {ea eb : Expr} {ks : List (Option Expr)} {vs : List Expr} : PE X ea (tev D E a) → PE X eb (tev D E b) → PPm D E X r ks vs → PPm D E X (.cons a (.cons b r)) (some ea :: ks) (eb :: vs)
def trsOf (D : Gd) (E : En) : Ms → List (TE × TE)
  | .nil => []
  | .cons _ .nil => []
  | .cons a (.cons b r) => (tev D E a, tev D E b) :: trsOf D E r
theorem PPm.pps {pos : Pos} {r : Ms} {ks : List (Option Expr)} {vs : List Expr} (h : PPm D En0 X r ks vs) : PPs X pos ks vs (trsOf D En0 r) := by
  induction h with
  | nil => exact pps_nil
  | cons h1 h2 _ ih => exact pps_cons h1 h2 ih
theorem PPm.facts {r : Ms} {ks : List (Option Expr)} {vs : List Expr} (h : PPm D En0 X r ks vs) : ks.all (·.isSome) = true ∧ ks.length = vs.length ∧ r.len = 2 * ks.length := by
  induction h with
  | nil => exact ⟨rfl, rfl, rfl⟩
  | cons _ _ _ ih =>
    obtain ⟨a, b, c⟩ := ih
    refine ⟨by simpa using a, by simp [b], ?_⟩
    simp only [Ms.len, List.length_cons, c]
    omega
theorem mkR_ok {μ : List Addr} {H : Hp} : ∀ {n : Nat} {xs : List EV} {us : List V} {ps rs : List (EV × EV)} {qs : List (Key × V)}, xs.length ≤ n → RVs D μ H xs us → mkR xs ps = some rs → RPs D μ H ps qs →
    ∃ kvs : List (Key × V), us = (kvs.map fun kv => [kV kv.1, kv.2]).flatten ∧ RPs D μ H rs (mergeK qs kvs)
  | _, [], [], ps, rs, qs, _, .nil, h, r => by cases h; exact ⟨[], rfl, r⟩
  | _, [_], [_], ps, rs, qs, _, .cons rx .nil, h, r => by cases h
  | 0, _ :: _ :: _, _ :: _ :: _, _, _, _, hl, .cons _ (.cons _ _), _, _ => by cases hl
  | n + 1, x :: y :: xs, u :: w :: us, ps, rs, qs, hl, .cons rx (.cons ry rr), h, r => by
    simp only [mkR] at h
    cases e2 : putD x y ps with
    | none => simp only [e2] at h; cases h
    | some ps' =>
      simp only [e2] at h
      obtain ⟨k, rk, rfl⟩ := isKey_of rx (putD_key e2)
      obtain ⟨kvs, e3, hm⟩ := mkR_ok (n := n) (by simp at hl; omega) rr h (putD_ok rk ry r e2)
      subst e3
      exact ⟨(k, w) :: kvs, rfl, hm⟩
/-- a row of values, two by two -/
def pairUp : List V → List (V × V)
  | [] => []
  | [_] => []
  | a :: b :: r => (a, b) :: pairUp r
theorem pairUp_flat : ∀ kvs : List (Key × V), pairUp ((kvs.map fun kv => [kV kv.1, kv.2]).flatten) = kvs.map fun kv => (kV kv.1, kv.2)
  | [] => rfl
  | p :: kvs => by
    show (kV p.1, p.2) :: pairUp ((kvs.map fun kv => [kV kv.1, kv.2]).flatten) = _
    rw [pairUp_flat kvs]
    rfl
theorem tPairs_imp : ∀ {r : Ms} {n : Nat} {σ : L2.St} {H : Hp} {Q : List (V × V) → Hp → Prop}, r.len = 2 * n → (∃ μ s L k, RS D μ H s σ ∧ Rep D μ L H ∧ (evs r En0 s L k).holds ∧ PostA D r.len μ H k (fun us H' => Q (pairUp us) H')) → tPairs (trsOf D En0 r) σ H Q
  | .nil, n, σ, H, Q, _, ⟨μ, s, L, k, rs, R, hk, p⟩ => p [] L μ H [] rfl Ext.refl R .nil hk
  | .cons a .nil, n, σ, H, Q, hl, _ => by simp only [Ms.len] at hl; omega
  | .cons a (.cons b r), n, σ, H, Q, hl, ⟨μ, s, L, k, rs, R, hk, p⟩ => by
    simp only [Ms.len] at hl
    refine ⟨μ, s, L, _, rs, R, hk, fun x L1 μ1 H1 u e1 R1 r1 h1 => ⟨μ1, s, L1, _, rs.mono e1, R1, h1, fun y L2 μ2 H2 w e2 R2 r2 h2 => ?_⟩⟩
    refine tPairs_imp (r := r) (n := n - 1) (by omega) ⟨μ2, s, L2, _, (rs.mono e1).mono e2, R2, h2, fun xs L3 μ3 H3 us hn e3 R3 r3 h3 => ?_⟩
    exact p _ L3 μ3 H3 (u :: w :: us) (by simp only [List.length_cons, Ms.len, hn]) ((e1.trans e2).trans e3) R3 (.cons ((r1.mono e2).mono e3) (.cons (r2.mono e3) r3)) h3
theorem e_disp (C : Cok D S sc rm gv X) {r : Ms} {ks : List (Option Expr)} {vs : List Expr} {pos : Pos} (h : PPm D En0 X r ks vs) (h0 : ks ≠ []) (h15 : ks.length ≤ 15) : PE X (.Dict ks vs pos) (tev D En0 (.disp r)) := by
  obtain ⟨f1, f2, f3⟩ := h.facts
  refine PE.imp (pe_disp h.pps f1 f2 h0 h15) fun σ H Q ⟨μ, s, L, k, rs, R, hk, p⟩ => fun pp hp => ?_
  obtain ⟨L1, e1, R1, hn, g1, h1⟩ := new_ok (u := .dK []) C.ok R hp _ hk fun _ => ⟨[], upd_same, True.intro⟩
  refine tPairs_imp (r := r) (n := ks.length) f3 ⟨_, s, L1, _, rs.mono e1, R1, h1, fun xs L2 μ2 H2 us hl e2 R2 r2 h2 => ?_⟩
  obtain ⟨ps0, kvs0, g2, g3, g4, h3⟩ := dctK_of R2 (e2.at hn) h2
  have h4 := nilB_of h3
  cases ps0 with
  | cons _ _ => exact h4.elim
  | nil =>
    cases kvs0 with
    | cons _ _ => exact g4.elim
    | nil =>
      obtain ⟨qs, hm, h5⟩ := someK_of (show (someK (mkR xs []) _).holds from h4)
      rw [frcK_eq] at h5
      obtain ⟨kvs, e3, rp⟩ := mkR_ok (n := xs.length) (Nat.le_refl _) r2 hm (qs := []) True.intro
      have hlen : kvs.length ≤ 15 := by
        have q1 := r2.length
        rw [e3] at q1
        have q2 : ((kvs.map fun kv => [kV kv.1, kv.2]).flatten).length = 2 * kvs.length := by
          clear e3 rp q1
          induction kvs with
          | nil => rfl
          | cons p kvs ih => simp only [List.map_cons, List.flatten_cons, List.length_append, ih, List.length_cons, List.length_nil]; omega
        omega
      refine ⟨g3, kvs, by rw [e3]; exact pairUp_flat kvs, hlen, ?_⟩
      obtain ⟨L3, e5, R3, _, _, h6⟩ := put_ok (u := .dK (mergeK [] kvs)) C.ok R2 (e2.at hn) g2 g3 rfl _ h5 fun ex => ⟨_, upd_same, RPs.mono ex rp⟩
      exact p _ L3 _ _ _ ((e1.trans e2).trans e5) R3 (.ref ((e2.trans e5).at hn)) h6
end
end Ev

set_option Elab.async false
set_option linter.all false
set_option maxRecDepth 100000
set_option maxHeartbeats 4000000
/-! EvE8: whether a small term tells a text's term; what it says then. -/
namespace Ev
open PySem PySem.Spec PyProof.Rows L2
/-- what a text's terms ask of the module: its things, its defs, calls with names -/
structure Tb where
  gl : List Str
  fn : List (Str × Nat)
  kw : List (Nat × List Str × List Nat)
def nmB (N : List Str) (sc : Scope) (i : Nat) (x : Str) : Bool := decide (N[i]? = some x) && visB sc x && !(x == ("__debug__" : Str)) && !(x == ("__classdict__" : Str))
def locB (sc : Scope) (fc : Str → Bool) (x : Str) : Bool := match sc.names.lookup x with
  | some .local => true
  | some .cell => fc x
  | _ => false
def constB : EV → Const → Bool
  | .non, .none => true
  | .bl a, .bool b => a == b
  | .int i, .int j => decide (i = j)
  | .str t, .str x => decide (x = toS t)
  | _, _ => false
def tyB (n : Nat) (x : Str) : Bool := match tyName n with
  | some T => decide (x = Str.ofString T)
  | none => false
def notSet : Expr → Bool
  | .Set .. => false
  | _ => true
def isBO : Expr → Bool
  | .BoolOp .. => true
  | _ => false
def kwsB (T : Tb) (f : Nat) (ks : List Str) (ix : List Nat) : Bool := T.kw.any fun q => decide (q = (f, ks, ix))
def ownP (N : List Str) (own : List Nat) : List (Str × Nat) := own.filterMap fun i => N[i]?.map fun x => (x, i)
def fcC (scope : Scope) : Str → Bool := fun x => scope.names.lookup x == some .cell
mutual
def okE : ME → Tb → List Str → Scope → (Str → Bool) → Expr → Bool
  | .k v, _, _, _, _, e => match e with
    | .Constant c _ _ => constB v c
    | _ => false
  | .v i, _, N, sc, _, e => match e with
    | .Name x _ => nmB N sc i x
    | _ => false
  | .g i, T, _, sc, _, e => match e with
    | .Name x _ => decide (T.gl[i]? = some x) && gloB sc x
    | _ => false
  | .t n, _, _, sc, _, e => match e with
    | .Name x _ => tyB n x && gloB sc x
    | _ => false
  | .bin op a b, T, N, sc, fc, e => match e with
    | .BinOp ea o eb _ => decide (o = opB op) && okE a T N sc fc ea && okE b T N sc fc eb
    | _ => false
  | .neg a, T, N, sc, fc, e => match e with
    | .UnaryOp .USub ea _ => okE a T N sc fc ea
    | _ => false
  | .not a, T, N, sc, fc, e => match e with
    | .UnaryOp .Not ea _ => okE a T N sc fc ea
    | _ => false
  | .and a b, T, N, sc, fc, e => match e with
    | .BoolOp .And [ea, eb] _ => okE a T N sc fc ea && okE b T N sc fc eb
    | .BoolOp .And (ea :: eb :: ec :: er) pos => okE a T N sc fc ea && okE b T N sc fc (.BoolOp .And (eb :: ec :: er) pos)
    | _ => false
  | .or a b, T, N, sc, fc, e => match e with
    | .BoolOp .Or [ea, eb] _ => okE a T N sc fc ea && okE b T N sc fc eb
    | .BoolOp .Or (ea :: eb :: ec :: er) pos => okE a T N sc fc ea && okE b T N sc fc (.BoolOp .Or (eb :: ec :: er) pos)
    | _ => false
  | .cmp op a b, T, N, sc, fc, e => match e with
    | .Compare ea [o] [eb] _ => decide (o = opC op) && okE a T N sc fc ea && okE b T N sc fc eb && notSet eb
    | _ => false
  | .chain o1 o2 a b c, T, N, sc, fc, e => match e with
    | .Compare ea [p1, p2] [eb, ec] _ => decide (p1 = opC o1) && decide (p2 = opC o2) && okE a T N sc fc ea && okE b T N sc fc eb && okE c T N sc fc ec && notSet ec
    | _ => false
  | .ite c a b, T, N, sc, fc, e => match e with
    | .IfExp ec ea eb _ => okE c T N sc fc ec && okE a T N sc fc ea && okE b T N sc fc eb
    | _ => false
  | .tup es, T, N, sc, fc, e => match e with
    | .Tuple ees _ _ => okEs es T N sc fc ees && Nat.ble es.len 1000
    | _ => false
  | .lst es, T, N, sc, fc, e => match e with
    | .List ees _ => okEs es T N sc fc ees && Nat.ble es.len 1000
    | _ => false
  | .vls es, T, N, sc, fc, e => match e with
    | .List ees _ => okEs es T N sc fc ees && Nat.ble es.len 1000
    | _ => false
  | .idx a i, T, N, sc, fc, e => match e with
    | .Subscript ea ei _ => okE a T N sc fc ea && okE i T N sc fc ei && notSlice ei
    | _ => false
  | .call f es, T, N, sc, fc, e => match e with
    | .Call (.Name x _) ees [] _ => decide (T.fn[f]? = some (x, es.len)) && gloB sc x && okEs es T N sc fc ees
    | _ => false
  | .callk f es ks ix, T, N, sc, fc, e => match e with
    | .Call (.Name x _) ees kws _ => decide (T.fn[f]? = some (x, ix.length)) && gloB sc x && okEs es T N sc fc ees && okKs ks T N sc fc kws && kws.all (·.arg.isSome) && kwsB T f (kws.filterMap (·.arg)) ix && decide (es.len = ix.length - (kws.filterMap (·.arg)).length) && decide (ks.len = (kws.filterMap (·.arg)).length) && ix.all fun i => Nat.blt i (es.len + ks.len)
    | _ => false
  | .bi f es, T, N, sc, fc, e => match e with
    | .Call (.Name x _) ees [] _ => decide (x = Str.ofString (nameB f)) && gloB sc x && okEs es T N sc fc ees && Nat.blt 0 es.len
    | _ => false
  | .mt m o es, T, N, sc, fc, e => match e with
    | .Call (.Attribute eo nm apos) [ea] [] cpos => decide (nm = nameM m) && okE o T N sc fc eo && okEs es T N sc fc [ea] && notCall eo && (apos.endLine == cpos.line)
    | _ => false
  | .lc it tg own c e', T, N, sc, fc, e => match e with
    | .ListComp elt [⟨tg', iter, ifs, 0⟩] scope _ => okIt it T N sc fc iter && notSet iter && blkC N sc scope (ownP N own) && decide ((ownP N own).map (·.2) = own) && slotsIn own tg && okIT it tg' && okT tg T N (relS scope sc) (fcC scope) tg' && okO c T N (relS scope sc) (fcC scope) ifs && okE e' T N (relS scope sc) (fcC scope) elt
    | _ => false
  | .vlc it tg own c e', T, N, sc, fc, e => match e with
    | .ListComp elt [⟨tg', iter, ifs, 0⟩] scope _ => okIt it T N sc fc iter && notSet iter && blkC N sc scope (ownP N own) && decide ((ownP N own).map (·.2) = own) && slotsIn own tg && okIT it tg' && okT tg T N (relS scope sc) (fcC scope) tg' && okO c T N (relS scope sc) (fcC scope) ifs && okE e' T N (relS scope sc) (fcC scope) elt
    | _ => false
  | .disp ps, T, N, sc, fc, e => match e with
    | .Dict ks vs _ => okP ps T N sc fc ks vs && !ks.isEmpty && Nat.ble ks.length 15
    | _ => false
  | .itl a, T, N, sc, fc, e => match e with
    | .Call (.Name x _) [.Call (.Attribute ee nm apos) [] [] cpos] [] _ => decide (x = "list") && gloB sc x && decide (nm = "items") && okE a T N sc fc ee && notCall ee && (apos.endLine == cpos.line)
    | _ => false
  | .vll a, T, N, sc, fc, e => match e with
    | .Call (.Name x _) [.Call (.Attribute ee nm apos) [] [] cpos] [] _ => decide (x = "list") && gloB sc x && decide (nm = "values") && okE a T N sc fc ee && notCall ee && (apos.endLine == cpos.line)
    | _ => false
  | .lk _ a, T, N, sc, fc, e => okE a T N sc fc e && !isBO e
  | .nope, _, _, _, _, _ => true
def okEs : Ms → Tb → List Str → Scope → (Str → Bool) → List Expr → Bool
  | .nil, _, _, _, _, es => match es with
    | [] => true
    | _ :: _ => false
  | .cons a r, T, N, sc, fc, es => match es with
    | [] => false
    | e :: es => okE a T N sc fc e && notStar e && okEs r T N sc fc es
def okKs : Ms → Tb → List Str → Scope → (Str → Bool) → List Keyword → Bool
  | .nil, _, _, _, _, es => match es with
    | [] => true
    | _ :: _ => false
  | .cons a r, T, N, sc, fc, es => match es with
    | [] => false
    | k :: es => okE a T N sc fc k.value && okKs r T N sc fc es
def okP : Ms → Tb → List Str → Scope → (Str → Bool) → List (Option Expr) → List Expr → Bool
  | .nil, _, _, _, _, ks, vs => match ks with
    | [] => vs.isEmpty
    | _ :: _ => false
  | .cons a r, T, N, sc, fc, ks, vs => match ks with
    | some k :: ks => okE a T N sc fc k && okPv r T N sc fc ks vs
    | _ => false
def okPv : Ms → Tb → List Str → Scope → (Str → Bool) → List (Option Expr) → List Expr → Bool
  | .nil, _, _, _, _, _, _ => false
  | .cons b r, T, N, sc, fc, ks, vs => match vs with
    | v :: vs => okE b T N sc fc v && okP r T N sc fc ks vs
    | [] => false
def okO : Mo → Tb → List Str → Scope → (Str → Bool) → List Expr → Bool
  | .none, _, _, _, _, es => es.isEmpty
  | .some a, T, N, sc, fc, es => match es with
    | [e] => okE a T N sc fc e
    | _ => false
def okIt : MI → Tb → List Str → Scope → (Str → Bool) → Expr → Bool
  | .ev a, T, N, sc, fc, e => okE a T N sc fc e
  | .rng es, T, N, sc, fc, e => match e with
    | .Call (.Name x _) [ea] [] _ => decide (x = "range") && gloB sc x && okEs es T N sc fc [ea]
    | _ => false
  | .zip a b, T, N, sc, fc, e => match e with
    | .Call (.Name x _) [ea, eb] [] _ => decide (x = "zip") && gloB sc x && okE a T N sc fc ea && okE b T N sc fc eb && notStar ea && notStar eb
    | _ => false
  | .enum a, T, N, sc, fc, e => match e with
    | .Call (.Name x _) [ea] [] _ => decide (x = "enumerate") && gloB sc x && okE a T N sc fc ea && notStar ea
    | _ => false
/-- zip and enumerate hand pairs: the target is a tuple -/
def okIT : MI → Expr → Bool
  | .ev _, _ => true
  | .rng _, _ => true
  | .zip _ _, e => match e with
    | .Tuple .. => true
    | _ => false
  | .enum _, e => match e with
    | .Tuple .. => true
    | _ => false
def okT : MT → Tb → List Str → Scope → (Str → Bool) → Expr → Bool
  | .nm i, _, N, sc, fc, e => match e with
    | .Name x _ => decide (N[i]? = some x) && locB sc fc x
    | _ => false
  | .tup ts, T, N, sc, fc, e => match e with
    | .Tuple es _ _ => okTs ts T N sc fc es
    | _ => false
  | .sub o i, T, N, sc, fc, e => match e with
    | .Subscript eo ei _ => okE o T N sc fc eo && okE i T N sc fc ei && notSlice ei
    | _ => false
  | .nope, _, _, _, _, _ => false
def okTs : MTs → Tb → List Str → Scope → (Str → Bool) → List Expr → Bool
  | .nil, _, _, _, _, es => es.isEmpty
  | .cons t r, T, N, sc, fc, es => match es with
    | [] => false
    | e :: es => okT t T N sc fc e && notStar e && okTs r T N sc fc es
end
/-- the world of a def -/
structure Wd where
  P : Program
  w : World
  K : PySem.W.Frag
  mg : Str → Option Value
  base : Heap
/-- what is known of the module -/
structure WOk (D : Gd) (E : En) (rm : Nat) (W : Wd) (T : Tb) : Prop where
  K : W.K = D.K
  ok : D.Ok
  kg : ∀ X : Cx, X.prog = W.P → X.w = W.w → X.K = W.K → Room rm X.A → KdGet D X
  free : ∀ T, (T = "int" ∨ T = "bool" ∨ T = "str" ∨ T = "list" ∨ T = "tuple" ∨ T = "dict" ∨ T = "abs" ∨ T = "len" ∨ T = "isinstance" ∨ T = "all" ∨ T = "any" ∨ T = "max" ∨ T = "min" ∨ T = "range" ∨ T = "zip" ∨ T = "enumerate") → W.mg (Str.ofString T) = none
  glo : ∀ (i : Nat) x, T.gl[i]? = some x → ∃ u w' v, W.mg x = some w' ∧ L2.RelV u w' ∧ E.G[i]? = some v ∧ (∀ μ H, RV D μ H v u) ∧ (x == ("__debug__" : Str)) = false
  fn : ∀ (i : Nat) x n, T.fn[i]? = some (x, n) → (x == ("__debug__" : Str)) = false ∧ ∃ (f : Addr) (fd : FuncData) (ps : List Str), ps.length = n ∧ FnOk W.P W.w W.K W.mg W.base CX0 rm f fd ps (spC D E.C n i) ∧ W.mg x = some (.ref f) ∧ PySem.W.keepIn W.K (.ref f) = true ∧ Binds W.K fd ps [] ∧
    ∀ ks ix, (i, ks, ix) ∈ T.kw → KBn W.K fd ps (ix.length - ks.length) ks (fun us ws => pickL (us ++ ws) ix) (fun us ws => pickL (us ++ ws) ix)
structure CK (W : Wd) (rm : Nat) (N : List Str) (sc : Scope) (fc : Str → Bool) (X : Cx) : Prop where
  P : X.prog = W.P
  w : X.w = W.w
  K : X.K = W.K
  mg : X.mg = W.mg
  base : X.base = W.base
  sc : X.env.scope = sc
  eN : X.N = N
  nd : N.Nodup
  fn : X.fn = fc
  calm : X.calm = true
  room : Room rm X.A
section
variable {D : Gd} {E : En} {rm : Nat} {W : Wd} {T : Tb} {N : List Str} {sc : Scope} {fc : Str → Bool} {X : Cx}
theorem CK.cok (WO : WOk D E rm W T) (C : CK W rm N sc fc X) : Cok D ⟨N, [], []⟩ sc rm (fun _ => none) X := ⟨C.K.trans WO.K, C.sc, C.eN, C.eN.symm ▸ C.nd, C.calm, C.room, WO.ok, WO.kg X C.P C.w C.K C.room, fun T h => by rw [C.mg]; exact WO.free T h⟩
theorem CK.hu (C : CK W rm N sc fc X) : X.A.units + 65 < cLine := by have := C.room.un; omega
theorem CK.blk (C : CK W rm N sc fc X) (s : Shared) (H : Hp) (scope : Scope) (Ca : Addr) (cl : List (Str × Addr)) (fp : List Addr) : CK W rm N (relS scope sc) (fcC scope) (X.blk s H scope (compEnvC scope cl Ca X.env) fp) :=
  ⟨C.P, C.w, C.K, C.mg, C.base, by show relS scope X.env.scope = _; rw [C.sc], C.eN, C.nd, rfl, C.calm, C.room⟩
theorem CK.gl (C : CK W rm N sc fc X) {x : Str} (h : gloB sc x = true) : Gl X x := by
  unfold gloB at h
  simp only [Bool.and_eq_true, decide_eq_true_eq] at h
  show X.env.scope.names.lookup x = _
  rw [C.sc]
  exact h.1
theorem gloB_d {x : Str} (h : gloB sc x = true) : (x == ("__debug__" : Str)) = false := by
  unfold gloB at h
  simp only [Bool.and_eq_true, Bool.not_eq_true'] at h
  exact h.2
theorem CK.loc (C : CK W rm N sc fc X) {x : Str} (h : locB sc fc x = true) : Loc X.env.scope x ∧ (X.fn x = true ∨ X.env.scope.names.lookup x = some .local) := by
  unfold locB at h
  unfold L2.Loc
  rw [C.sc, C.fn]
  cases e : sc.names.lookup x with
  | none => rw [e] at h; cases h
  | some k =>
    rw [e] at h
    cases k with
    | «local» => exact ⟨.inl rfl, .inr rfl⟩
    | cell => exact ⟨.inr rfl, .inl h⟩
    | _ => cases h
/-- all that a term's text gives -/
structure GoodE (D : Gd) (E : En) (X : Cx) (e : Expr) (m : ME) : Prop where
  pe : PE X e (tev D E m)
  pt : PT X e (ttv D E m)
  pw : isBO e = true → PW X e (ttv D E m)
theorem GoodE.of_pe (C : Cok D ⟨N, [], []⟩ sc rm (fun _ => none) X) {e : Expr} {m : ME} (h : PE X e (tev D E m)) (he : ∀ whole, isTrue e X.env whole = (do let v ← whole; standAt e.pos; holding [v] (truthy v)))
    (hm : ∀ s L k, ev m E true s L k = ev m E false s L fun v L => truB v L k) (hb : isBO e = false) : GoodE D E X e m := ⟨h, pt_of C h he hm, fun z => by rw [hb] at z; cases z⟩
theorem GoodE.no_t {e : Expr} {m : ME} (h : PE X e (tev D E m)) (hm : ∀ s L k, ¬ (ev m E true s L k).holds) (hb : isBO e = false) : GoodE D E X e m := ⟨h, ⟨fun pins s σ H Q I ⟨μ, s', L, k, rs, R, hk, p⟩ => (hm _ _ _ hk).elim⟩, fun z => by rw [hb] at z; cases z⟩
theorem truT_eta {t : Bool} {k : KV} : truT t k = fun v L => truT t k v L := rfl
theorem fold_of {e : Expr} (h : notSet e = true) (env : Env) : ∀ x, foldedSetIterable e env x = pure x := by
  intro x
  cases e <;> first | rfl | cases h
theorem marks_of {e : Expr} (h : notSet e = true) (op : CmpOp) : behindInMarks op e = false := by
  cases e <;> first | rfl | cases h
theorem pick_len {α : Type} : ∀ {ix : List Nat} {vs : List α}, (∀ i ∈ ix, i < vs.length) → (pickL vs ix).length = ix.length
  | [], _, _ => rfl
  | i :: ix, vs, h => by
    have := h i (by simp)
    simp only [pickL, List.getElem?_eq_getElem this, List.length_cons]
    rw [pick_len fun j hj => h j (List.mem_cons_of_mem _ hj)]
end
end Ev

set_option Elab.async false
set_option linter.all false
set_option maxRecDepth 100000
set_option maxHeartbeats 8000000
/-! EvE9: what the small terms say. -/
namespace Ev
open PySem PySem.Spec PyProof.Rows L2
section
variable {D : Gd} {E : En} {rm : Nat} {W : Wd} {T : Tb} {N : List Str} {sc : Scope} {fc : Str → Bool} {X : Cx}
theorem and3 {a b c : Bool} (h : (a && b && c) = true) : a = true ∧ b = true ∧ c = true := by
  cases a <;> cases b <;> cases c <;> first | exact ⟨rfl, rfl, rfl⟩ | cases h
theorem glo_of (WO : WOk D E rm W T) (C : CK W rm N sc fc X) {i : Nat} {x : Str} {pos : Pos} (hi : T.gl[i]? = some x) (hg : gloB sc x = true) : GoodE D E X (.Name x pos) (.g i) := by
  obtain ⟨u, w', v, h1, h2, h3, h4, h5⟩ := WO.glo i x hi
  refine GoodE.of_pe (C.cok WO) (e_glo (C.gl hg) (by rw [C.mg]; exact h1) h2 h3 h4 h5) (fun _ => rfl) (fun s L k => ?_) rfl
  simp only [ev, h3, gloE, truT]
theorem fn_h (WO : WOk D E rm W T) (C : CK W rm N sc fc X) {i n : Nat} {x : Str} (h : T.fn[i]? = some (x, n)) : FnH D E rm X i x n := by
  obtain ⟨_, f, fd, ps, h1, h2, h3, h4, h5, _⟩ := WO.fn i x n h
  exact ⟨f, fd, ps, h1, by rw [C.P, C.w, C.K, C.mg, C.base]; exact h2, by rw [C.mg]; exact h3, by rw [C.K]; exact h4, by rw [C.K]; exact h5⟩
theorem fn_k (WO : WOk D E rm W T) (C : CK W rm N sc fc X) {i n : Nat} {x : Str} {ks : List Str} {ix : List Nat} (h : T.fn[i]? = some (x, n)) (hk : (i, ks, ix) ∈ T.kw) : FnK D E rm X i x n ks ix := by
  obtain ⟨_, f, fd, ps, h1, h2, h3, h4, _, h6⟩ := WO.fn i x n h
  exact ⟨f, fd, ps, h1, by rw [C.P, C.w, C.K, C.mg, C.base]; exact h2, by rw [C.mg]; exact h3, by rw [C.K]; exact h4, by rw [C.K]; exact h6 ks ix hk⟩
def GoodM (D : Gd) (E : En) (rm : Nat) (W : Wd) (T : Tb) (m : ME) : Prop := ∀ N sc fc X e, CK W rm N sc fc X → okE m T N sc fc e = true → GoodE D E X e m
def GoodMs (D : Gd) (E : En) (rm : Nat) (W : Wd) (T : Tb) (m : Ms) : Prop :=
  (∀ N sc fc X es, CK W rm N sc fc X → okEs m T N sc fc es = true → PA X es (tevs D E m) ∧ es.all notStar = true ∧ es.length = m.len) ∧
  (∀ N sc fc X ks, CK W rm N sc fc X → okKs m T N sc fc ks = true → PK X ks (tevs D E m)) ∧
  (∀ N sc fc X ks vs, CK W rm N sc fc X → okP m T N sc fc ks vs = true → PPm D E X m ks vs) ∧
  (∀ N sc fc X ks vs, CK W rm N sc fc X → okPv m T N sc fc ks vs = true → ∃ b r ev er, m = .cons b r ∧ vs = ev :: er ∧ PE X ev (tev D E b) ∧ PPm D E X r ks er)
def GoodO (D : Gd) (E : En) (rm : Nat) (W : Wd) (T : Tb) (m : Mo) : Prop := ∀ N sc fc X es, CK W rm N sc fc X → okO m T N sc fc es = true → PTs X es (tevO D E m)
def GoodI (D : Gd) (E : En) (rm : Nat) (W : Wd) (T : Tb) (m : MI) : Prop := ∀ N sc fc X tg e, CK W rm N sc fc X → okIt m T N sc fc e = true → okIT m tg = true → PI X tg e (tevI D E m)
def GoodT (D : Gd) (E : En) (rm : Nat) (W : Wd) (T : Tb) (m : MT) : Prop := ∀ N sc fc X e, CK W rm N sc fc X → okT m T N sc fc e = true → PG X e (tevG D E m)
def GoodTs (D : Gd) (E : En) (rm : Nat) (W : Wd) (T : Tb) (m : MTs) : Prop := ∀ N sc fc X es, CK W rm N sc fc X → okTs m T N sc fc es = true → PGs X es (tevGs D E m) ∧ es.all notStar = true ∧ m.len = es.length
mutual
theorem good_E (WO : WOk D E rm W T) : ∀ m : ME, GoodM D E rm W T m
  | .k v => fun N sc fc X e C h => by
    unfold okE at h
    split at h
    · rename_i c j pos
      have fin : PE X (.Constant c j pos) (tev D E (.k v)) → GoodE D E X (.Constant c j pos) (.k v) := fun hp => GoodE.of_pe (C.cok WO) hp (fun _ => rfl) (fun _ _ _ => rfl) rfl
      unfold constB at h
      split at h
      · exact fin e_non
      · rename_i a b
        have : a = b := by simpa using h
        subst this
        exact fin e_bl
      · simp only [decide_eq_true_eq] at h
        subst h
        exact fin e_int
      · simp only [decide_eq_true_eq] at h
        exact fin (e_str h)
      · cases h
    · cases h
  | .v i => fun N sc fc X e C h => by
    unfold okE at h
    split at h
    · rename_i x pos
      unfold nmB at h
      simp only [Bool.and_eq_true, decide_eq_true_eq, Bool.not_eq_true'] at h
      obtain ⟨⟨⟨h1, h2⟩, h3⟩, h4⟩ := h
      exact GoodE.of_pe (C.cok WO) (e_var (by rw [C.eN]; exact h1) (by rw [C.sc]; exact vis_of h2) h3 h4) (fun _ => rfl) (fun _ _ _ => rfl) rfl
    · cases h
  | .g i => fun N sc fc X e C h => by
    unfold okE at h
    split at h
    · simp only [Bool.and_eq_true, decide_eq_true_eq] at h
      exact glo_of WO C h.1 h.2
    · cases h
  | .t n => fun N sc fc X e C h => by
    unfold okE at h
    split at h
    · simp only [Bool.and_eq_true] at h
      obtain ⟨h1, h2⟩ := h
      unfold tyB at h1
      cases e2 : tyName n with
      | none => rw [e2] at h1; cases h1
      | some q =>
        rw [e2] at h1
        simp only [decide_eq_true_eq] at h1
        subst h1
        exact GoodE.no_t (e_ty e2 (C.gl h2) ((C.cok WO).free q (by
          match n, e2 with
          | 0, e2 => cases e2; simp
          | 1, e2 => cases e2; simp
          | 2, e2 => cases e2; simp
          | 3, e2 => cases e2; simp
          | 4, e2 => cases e2; simp
          | 5, e2 => cases e2; simp
          | _ + 6, e2 => cases e2))) (fun _ _ _ hk => hk) rfl
    · cases h
  | .bin op a b => fun N sc fc X e C h => by
    unfold okE at h
    split at h
    · obtain ⟨h1, h2, h3⟩ := and3 h
      simp only [decide_eq_true_eq] at h1
      subst h1
      exact GoodE.of_pe (C.cok WO) (e_bin (C.cok WO) (good_E WO a _ _ _ _ _ C h2).pe (good_E WO b _ _ _ _ _ C h3).pe) (fun _ => rfl) (fun _ _ _ => rfl) rfl
    · cases h
  | .neg a => fun N sc fc X e C h => by
    unfold okE at h
    split at h
    · exact GoodE.of_pe (C.cok WO) (e_neg (good_E WO a _ _ _ _ _ C h).pe) (fun _ => rfl) (fun _ _ _ => rfl) rfl
    · cases h
  | .not a => fun N sc fc X e C h => by
    unfold okE at h
    split at h
    · have q := good_E WO a _ _ _ _ _ C h
      exact ⟨e_not (C.cok WO) q.pe, t_not q.pt, fun z => by cases z⟩
    · cases h
  | .and a b => fun N sc fc X e C h => by
    unfold okE at h
    split at h
    · simp only [Bool.and_eq_true] at h
      have qa := good_E WO a _ _ _ _ _ C h.1
      have qb := good_E WO b _ _ _ _ _ C h.2
      rename_i pos
      have pw := t_and (pos := pos) qa.pt (pw_and1 qb.pt)
      exact ⟨e_and (C.cok WO) qa.pe (pe_one qb.pe), pw.pt, fun _ => pw⟩
    · simp only [Bool.and_eq_true] at h
      have qa := good_E WO a _ _ _ _ _ C h.1
      have qb := good_E WO b _ _ _ _ _ C h.2
      have pw := t_and qa.pt (qb.pw rfl)
      exact ⟨e_and (C.cok WO) qa.pe qb.pe, pw.pt, fun _ => pw⟩
    · cases h
  | .or a b => fun N sc fc X e C h => by
    unfold okE at h
    split at h
    · simp only [Bool.and_eq_true] at h
      have qa := good_E WO a _ _ _ _ _ C h.1
      have qb := good_E WO b _ _ _ _ _ C h.2
      rename_i pos
      have pw := t_or (pos := pos) qa.pt (pw_or1 qb.pt)
      exact ⟨e_or (C.cok WO) qa.pe (pe_one qb.pe), pw.pt, fun _ => pw⟩
    · simp only [Bool.and_eq_true] at h
      have qa := good_E WO a _ _ _ _ _ C h.1
      have qb := good_E WO b _ _ _ _ _ C h.2
      have pw := t_or qa.pt (qb.pw rfl)
      exact ⟨e_or (C.cok WO) qa.pe qb.pe, pw.pt, fun _ => pw⟩
    · cases h
  | .cmp op a b => fun N sc fc X e C h => by
    unfold okE at h
    split at h
    · simp only [Bool.and_eq_true, decide_eq_true_eq] at h
      obtain ⟨⟨⟨h1, h2⟩, h3⟩, h4⟩ := h
      subst h1
      have qa := good_E WO a _ _ _ _ _ C h2
      have qb := good_E WO b _ _ _ _ _ C h3
      exact ⟨e_cmp (C.cok WO) C.hu qa.pe qb.pe (marks_of h4 _), t_cmp (C.cok WO) C.hu qa.pe qb.pe (marks_of h4 _), fun z => by cases z⟩
    · cases h
  | .chain o1 o2 a b c => fun N sc fc X e C h => by
    unfold okE at h
    split at h
    · simp only [Bool.and_eq_true, decide_eq_true_eq] at h
      obtain ⟨⟨⟨⟨⟨h1, h2⟩, h3⟩, h4⟩, h5⟩, h6⟩ := h
      subst h1 h2
      have qa := good_E WO a _ _ _ _ _ C h3
      have qb := good_E WO b _ _ _ _ _ C h4
      have qc := good_E WO c _ _ _ _ _ C h5
      exact ⟨e_chain (C.cok WO) C.hu qa.pe qb.pe qc.pe (marks_of h6 _), t_chain (C.cok WO) C.hu qa.pe qb.pe qc.pe (marks_of h6 _), fun z => by cases z⟩
    · cases h
  | .ite c a b => fun N sc fc X e C h => by
    unfold okE at h
    split at h
    · obtain ⟨h1, h2, h3⟩ := and3 h
      exact GoodE.no_t (e_ite (good_E WO c _ _ _ _ _ C h1).pt (good_E WO a _ _ _ _ _ C h2).pe (good_E WO b _ _ _ _ _ C h3).pe) (fun _ _ _ hk => hk) rfl
    · cases h
  | .tup es => fun N sc fc X e C h => by
    unfold okE at h
    split at h
    · simp only [Bool.and_eq_true] at h
      exact GoodE.of_pe (C.cok WO) (e_tup (C.cok WO) ((good_Es WO es).1 _ _ _ _ _ C h.1).1 (by simpa using h.2)) (fun _ => rfl) (fun _ _ _ => rfl) rfl
    · cases h
  | .lst es => fun N sc fc X e C h => by
    unfold okE at h
    split at h
    · simp only [Bool.and_eq_true] at h
      exact GoodE.of_pe (C.cok WO) (e_lst (C.cok WO) ((good_Es WO es).1 _ _ _ _ _ C h.1).1 (by simpa using h.2)) (fun _ => rfl) (fun _ _ _ => rfl) rfl
    · cases h
  | .vls es => fun N sc fc X e C h => by
    unfold okE at h
    split at h
    · simp only [Bool.and_eq_true] at h
      exact GoodE.of_pe (C.cok WO) (e_vls (C.cok WO) ((good_Es WO es).1 _ _ _ _ _ C h.1).1 (by simpa using h.2)) (fun _ => rfl) (fun _ _ _ => rfl) rfl
    · cases h
  | .idx a i => fun N sc fc X e C h => by
    unfold okE at h
    split at h
    · obtain ⟨h1, h2, h3⟩ := and3 h
      exact GoodE.of_pe (C.cok WO) (e_idx (C.cok WO) C.hu (good_E WO a _ _ _ _ _ C h1).pe (good_E WO i _ _ _ _ _ C h2).pe (plainIx_of h3)) (fun _ => rfl) (fun _ _ _ => rfl) rfl
    · cases h
  | .call f es => fun N sc fc X e C h => by
    unfold okE at h
    split at h
    · rename_i x p ees pos
      obtain ⟨h1, h2, h3⟩ := and3 h
      simp only [decide_eq_true_eq] at h1
      obtain ⟨pa, hs, hl⟩ := (good_Es WO es).1 _ _ _ _ _ C h3
      have F := fn_h WO C h1
      refine GoodE.of_pe (C.cok WO) ?_ (fun _ => rfl) (fun _ _ _ => rfl) rfl
      cases ees with
      | nil =>
        cases es with
        | nil => exact e_call0 (C.cok WO) F (C.gl h2) (gloB_d h2)
        | cons _ _ => cases hl
      | cons ea er => exact e_call (C.cok WO) F (C.gl h2) (gloB_d h2) pa hs rfl
    · cases h
  | .callk f es ks ix => fun N sc fc X e C h => by
    unfold okE at h
    split at h
    · rename_i x p ees kws pos
      simp only [Bool.and_eq_true, decide_eq_true_eq] at h
      obtain ⟨⟨⟨⟨⟨⟨⟨⟨h1, h2⟩, h3⟩, h4⟩, h5⟩, h6⟩, h8⟩, h9⟩, h7⟩ := h
      obtain ⟨pa, hs, hl⟩ := (good_Es WO es).1 _ _ _ _ _ C h3
      have pk := (good_Es WO ks).2.1 _ _ _ _ _ C h4
      unfold kwsB at h6
      obtain ⟨q, hq1, hq2⟩ := List.any_eq_true.mp h6
      simp only [decide_eq_true_eq] at hq2
      subst hq2
      have F := fn_k WO C h1 hq1
      refine GoodE.of_pe (C.cok WO) (e_callk (C.cok WO) F (C.gl h2) (gloB_d h2) pa pk hs h5 (fun z => ?_) h8 h9 (fun vs ws hv hw => ?_)) (fun _ => rfl) (fun _ _ _ => rfl) rfl
      · subst z
        cases es with
        | nil => rfl
        | cons _ _ => cases hl
      · refine pick_len fun i hi => ?_
        have := List.all_eq_true.mp h7 i hi
        rw [List.length_append, hv, hw]
        simpa [Nat.blt_eq] using this
    · cases h
  | .bi f es => fun N sc fc X e C h => by
    unfold okE at h
    split at h
    · rename_i x p ees pos
      simp only [Bool.and_eq_true, decide_eq_true_eq] at h
      obtain ⟨⟨⟨h1, h2⟩, h3⟩, h4⟩ := h
      obtain ⟨pa, hs, hl⟩ := (good_Es WO es).1 _ _ _ _ _ C h3
      subst h1
      refine GoodE.of_pe (C.cok WO) ?_ (fun _ => rfl) (fun _ _ _ => rfl) rfl
      cases ees with
      | nil =>
        rw [← hl] at h4
        cases h4
      | cons ea er => exact e_bi (C.cok WO) (C.gl h2) pa hs
    · cases h
  | .mt m o es => fun N sc fc X e C h => by
    unfold okE at h
    split at h
    · rename_i eo nm apos ea cpos
      simp only [Bool.and_eq_true, decide_eq_true_eq] at h
      obtain ⟨⟨⟨⟨h1, h2⟩, h3⟩, h4⟩, h5⟩ := h
      subst h1
      cases es with
      | nil => simp only [okEs] at h3; cases h3
      | cons a r =>
        cases r with
        | cons _ _ => simp only [okEs, Bool.and_eq_true] at h3; cases h3.2
        | nil =>
          simp only [okEs, Bool.and_eq_true] at h3
          exact GoodE.of_pe (C.cok WO) (e_mt (C.cok WO) (good_E WO o _ _ _ _ _ C h2).pe (good_E WO a _ _ _ _ _ C h3.1.1).pe h3.1.2 h4 h5) (fun _ => rfl) (fun _ _ _ => rfl) rfl
    · cases h
  | .lc it tg own c e' => fun N sc fc X e C h => by
    unfold okE at h
    split at h
    · rename_i elt tg' iter ifs scope pos
      simp only [Bool.and_eq_true, decide_eq_true_eq] at h
      obtain ⟨⟨⟨⟨⟨⟨⟨⟨h1, h2⟩, h3⟩, h4⟩, h5⟩, h6⟩, h7⟩, h8⟩, h9⟩ := h
      have CB := fun s H Ca cl fp => C.blk s H scope Ca cl fp
      have key := e_lc (pos := pos) (C.cok WO) (good_I WO it _ _ _ _ tg' _ C h1 h6) (by rw [C.eN, C.sc]; exact blkOk_by h3) (by rw [h4]; exact h5) (fun s H Ca cl fp => good_T WO tg _ _ _ _ _ (CB s H Ca cl fp) h7) (fun s H Ca cl fp => good_O WO c _ _ _ _ _ (CB s H Ca cl fp) h8) (fun s H Ca cl fp => (good_E WO e' _ _ _ _ _ (CB s H Ca cl fp) h9).pe) (fold_of h2 _)
      rw [h4] at key
      exact GoodE.no_t key (fun _ _ _ hk => hk) rfl
    · cases h
  | .vlc it tg own c e' => fun N sc fc X e C h => by
    unfold okE at h
    split at h
    · rename_i elt tg' iter ifs scope pos
      simp only [Bool.and_eq_true, decide_eq_true_eq] at h
      obtain ⟨⟨⟨⟨⟨⟨⟨⟨h1, h2⟩, h3⟩, h4⟩, h5⟩, h6⟩, h7⟩, h8⟩, h9⟩ := h
      have CB := fun s H Ca cl fp => C.blk s H scope Ca cl fp
      have key := e_vlc (pos := pos) (C.cok WO) (good_I WO it _ _ _ _ tg' _ C h1 h6) (by rw [C.eN, C.sc]; exact blkOk_by h3) (by rw [h4]; exact h5) (fun s H Ca cl fp => good_T WO tg _ _ _ _ _ (CB s H Ca cl fp) h7) (fun s H Ca cl fp => good_O WO c _ _ _ _ _ (CB s H Ca cl fp) h8) (fun s H Ca cl fp => (good_E WO e' _ _ _ _ _ (CB s H Ca cl fp) h9).pe) (fold_of h2 _)
      rw [h4] at key
      exact GoodE.no_t key (fun _ _ _ hk => hk) rfl
    · cases h
  | .disp ps => fun N sc fc X e C h => by
    unfold okE at h
    split at h
    · obtain ⟨h1, h2, h3⟩ := and3 h
      exact GoodE.no_t (e_disp (C.cok WO) ((good_Es WO ps).2.2.1 _ _ _ _ _ _ C h1) (fun z => by subst z; cases h2) (by simpa using h3)) (fun _ _ _ hk => hk) rfl
    · cases h
  | .itl a => fun N sc fc X e C h => by
    unfold okE at h
    split at h
    · simp only [Bool.and_eq_true, decide_eq_true_eq] at h
      obtain ⟨⟨⟨⟨⟨h1, h2⟩, h3⟩, h4⟩, h5⟩, h6⟩ := h
      subst h1 h3
      exact GoodE.no_t (e_itl (C.cok WO) (good_E WO a _ _ _ _ _ C h4).pe (C.gl h2) h5 h6) (fun _ _ _ hk => hk) rfl
    · cases h
  | .vll a => fun N sc fc X e C h => by
    unfold okE at h
    split at h
    · simp only [Bool.and_eq_true, decide_eq_true_eq] at h
      obtain ⟨⟨⟨⟨⟨h1, h2⟩, h3⟩, h4⟩, h5⟩, h6⟩ := h
      subst h1 h3
      exact GoodE.no_t (e_vll (C.cok WO) (good_E WO a _ _ _ _ _ C h4).pe (C.gl h2) h5 h6) (fun _ _ _ hk => hk) rfl
    · cases h
  | .lk v a => fun N sc fc X e C h => by
    unfold okE at h
    simp only [Bool.and_eq_true, Bool.not_eq_true'] at h
    exact GoodE.no_t (e_lk WO.ok (good_E WO a _ _ _ _ _ C h.1).pe) (fun _ _ _ hk => hk) h.2
  | .nope => fun N sc fc X e C h => ⟨⟨fun _ _ _ _ _ _ ⟨_, _, _, _, _, _, hk, _⟩ => hk.elim⟩, ⟨fun _ _ _ _ _ _ ⟨_, _, _, _, _, _, hk, _⟩ => hk.elim⟩, fun _ => ⟨fun _ _ _ _ _ _ _ ⟨_, _, _, _, _, _, hk, _⟩ => hk.elim⟩⟩
theorem good_Es (WO : WOk D E rm W T) : ∀ m : Ms, GoodMs D E rm W T m
  | .nil => by
    refine ⟨fun N sc fc X es C h => ?_, fun N sc fc X es C h => ?_, fun N sc fc X ks vs C h => ?_, fun N sc fc X ks vs C h => ?_⟩
    · unfold okEs at h
      split at h
      · exact ⟨a_nil, rfl, rfl⟩
      · cases h
    · unfold okKs at h
      split at h
      · exact k_nil
      · cases h
    · unfold okP at h
      split at h
      · cases vs with
        | nil => exact .nil
        | cons _ _ => cases h
      · cases h
    · unfold okPv at h
      cases h
  | .cons a r => by
    refine ⟨fun N sc fc X es C h => ?_, fun N sc fc X es C h => ?_, fun N sc fc X ks vs C h => ?_, fun N sc fc X ks vs C h => ?_⟩
    · unfold okEs at h
      split at h
      · cases h
      · obtain ⟨h1, h2, h3⟩ := and3 h
        obtain ⟨pa, hs, hl⟩ := (good_Es WO r).1 _ _ _ _ _ C h3
        exact ⟨a_cons (good_E WO a _ _ _ _ _ C h1).pe pa h2, by simp [h2, hs], by simp [Ms.len, hl]⟩
    · unfold okKs at h
      split at h
      · cases h
      · rename_i k es2
        obtain ⟨nm, ve, kp⟩ := k
        simp only [Bool.and_eq_true] at h
        exact k_cons (good_E WO a _ _ _ _ _ C h.1).pe ((good_Es WO r).2.1 _ _ _ _ _ C h.2)
    · unfold okP at h
      split at h
      · simp only [Bool.and_eq_true] at h
        obtain ⟨b, r2, ve, er, e1, e2, p1, p2⟩ := (good_Es WO r).2.2.2 _ _ _ _ _ _ C h.2
        subst e1 e2
        exact .cons (good_E WO a _ _ _ _ _ C h.1).pe p1 p2
      · cases h
    · unfold okPv at h
      split at h
      · simp only [Bool.and_eq_true] at h
        exact ⟨a, r, _, _, rfl, rfl, (good_E WO a _ _ _ _ _ C h.1).pe, (good_Es WO r).2.2.1 _ _ _ _ _ _ C h.2⟩
      · cases h
theorem good_O (WO : WOk D E rm W T) : ∀ m : Mo, GoodO D E rm W T m
  | .none => fun N sc fc X es C h => by
    unfold okO at h
    cases es with
    | nil => exact o_none
    | cons _ _ => cases h
  | .some a => fun N sc fc X es C h => by
    unfold okO at h
    split at h
    · exact o_some (good_E WO a _ _ _ _ _ C h).pt
    · cases h
theorem good_I (WO : WOk D E rm W T) : ∀ m : MI, GoodI D E rm W T m
  | .ev a => fun N sc fc X tg e C h _ => by
    unfold okIt at h
    exact i_ev (C.cok WO) (good_E WO a _ _ _ _ _ C h).pe
  | .rng es => fun N sc fc X tg e C h _ => by
    unfold okIt at h
    split at h
    · obtain ⟨h1, h2, h3⟩ := and3 h
      simp only [decide_eq_true_eq] at h1
      subst h1
      cases es with
      | nil => simp only [okEs] at h3; cases h3
      | cons a r =>
        cases r with
        | cons _ _ => simp only [okEs, Bool.and_eq_true] at h3; cases h3.2
        | nil =>
          obtain ⟨pa, hs, hl⟩ := (good_Es WO (.cons a .nil)).1 _ _ _ _ _ C h3
          exact i_rng (C.cok WO) (C.gl h2) pa (by simpa using hs)
    · cases h
  | .zip a b => fun N sc fc X tg e C h ht => by
    unfold okIt at h
    split at h
    · simp only [Bool.and_eq_true, decide_eq_true_eq] at h
      obtain ⟨⟨⟨⟨⟨h1, h2⟩, h3⟩, h4⟩, h5⟩, h6⟩ := h
      subst h1
      cases tg <;> first
        | exact i_zip (C.cok WO) (C.gl h2) (good_E WO a _ _ _ _ _ C h3).pe (good_E WO b _ _ _ _ _ C h4).pe h5 h6
        | cases ht
    · cases h
  | .enum a => fun N sc fc X tg e C h ht => by
    unfold okIt at h
    split at h
    · simp only [Bool.and_eq_true, decide_eq_true_eq] at h
      obtain ⟨⟨⟨h1, h2⟩, h3⟩, h4⟩ := h
      subst h1
      cases tg <;> first
        | exact i_enm (C.cok WO) (C.gl h2) (good_E WO a _ _ _ _ _ C h3).pe h4
        | cases ht
    · cases h
theorem good_T (WO : WOk D E rm W T) : ∀ m : MT, GoodT D E rm W T m
  | .nm i => fun N sc fc X e C h => by
    unfold okT at h
    split at h
    · simp only [Bool.and_eq_true, decide_eq_true_eq] at h
      obtain ⟨l1, l2⟩ := C.loc h.2
      exact g_nm (by rw [C.eN]; exact C.nd) (by rw [C.eN]; exact h.1) l1 l2
    · cases h
  | .tup ts => fun N sc fc X e C h => by
    unfold okT at h
    split at h
    · obtain ⟨pg, hs, hl⟩ := good_Ts WO ts _ _ _ _ _ C h
      exact g_tup (C.cok WO) pg hs hl
    · cases h
  | .sub o i => fun N sc fc X e C h => by
    unfold okT at h
    split at h
    · obtain ⟨h1, h2, h3⟩ := and3 h
      exact g_sub (C.cok WO) C.hu (good_E WO o _ _ _ _ _ C h1).pe (good_E WO i _ _ _ _ _ C h2).pe h3
    · cases h
  | .nope => fun N sc fc X e C h => by unfold okT at h; cases h
theorem good_Ts (WO : WOk D E rm W T) : ∀ m : MTs, GoodTs D E rm W T m
  | .nil => fun N sc fc X es C h => by
    unfold okTs at h
    cases es with
    | nil => exact ⟨gs_nil, rfl, rfl⟩
    | cons _ _ => cases h
  | .cons t r => fun N sc fc X es C h => by
    unfold okTs at h
    split at h
    · cases h
    · obtain ⟨h1, h2, h3⟩ := and3 h
      obtain ⟨pg, hs, hl⟩ := good_Ts WO r _ _ _ _ _ C h3
      exact ⟨gs_cons (good_T WO t _ _ _ _ _ C h1) pg h2, by simp [h2, hs], by simp [MTs.len, hl]⟩
end
end
end Ev

set_option Elab.async false
set_option linter.all false
set_option maxRecDepth 100000
set_option maxHeartbeats 8000000
/-! EvE10: statements: whether a small one tells a text's; what it says then. -/
namespace Ev
open PySem PySem.Spec PyProof.Rows L2
def isStar : Expr → Bool
  | .Starred .. => true
  | _ => false
def nameAt (sc : Scope) (l : Nat) : Expr → Option Str
  | .Name x p => if (sc.names.lookup x == some .local && p.line == l) = true then some x else none
  | _ => none
def lineOf (ts : List Expr) : Nat := (ts.head?.map (·.pos.line)).getD 0
def swK (sc : Scope) (ts vs : List Expr) : Option (Option (List Str)) :=
  if (!(ts.length == 2 || ts.length == 3) || vs.length != ts.length || sc.kind != .function) = true then some none
  else if vs.any isStar = true then some none
  else if ((ts.filterMap (nameAt sc (lineOf ts))).length != ts.length || (ts.filterMap (nameAt sc (lineOf ts))).eraseDups.length != (ts.filterMap (nameAt sc (lineOf ts))).length) = true then some none
  else if vs.all (foldedForSure 8) = true then some none
  else if vs.all (constantsAlone 8) = true then none
  else some (some (ts.filterMap (nameAt sc (lineOf ts))))
theorem swK_ok {ts vs : List Expr} {k k2 : Nat} {p p2 : Pos} {env : Env} {r : Option (List Str)} (hf : env.scope.kind = .function) (h : swK env.scope ts vs = some r) : swappedStores [.Tuple ts k p] (.Tuple vs k2 p2) env = pure r := by
  have hb : env.blockKind = .function := by unfold Env.blockKind; rw [hf]; rfl
  have hs : (vs.any fun e => match e with | .Starred .. => true | _ => false) = vs.any isStar := rfl
  unfold swappedStores
  simp only [hb]
  unfold swK at h
  rw [hf] at h
  have key : ∀ (c1 c2 c3 c4 c5 : Bool) (ns : List Str) (un : Sem (Option (List Str))), (if c1 = true then some none else if c2 = true then some none else if c3 = true then some none else if c4 = true then some none else if c5 = true then none else some (some ns)) = some r →
      (if c1 = true then (pure none : Sem (Option (List Str))) else if c2 = true then pure none else if c3 = true then pure none else if c4 = true then pure none else if c5 = true then un else pure (some ns)) = pure r := by
    intro c1 c2 c3 c4 c5 ns un h
    cases c1 <;> cases c2 <;> cases c3 <;> cases c4 <;> cases c5 <;> simp at h ⊢ <;> first | (subst h; rfl) | rfl
  exact key _ _ _ _ _ _ _ h

theorem swNone {tg v : Expr} {env : Env} (h : (match tg, v with | .Tuple .., .Tuple .. => false | .List .., .Tuple .. => false | _, _ => true) = true) : swappedStores [tg] v env = pure none := by
  cases v <;> first
    | rfl
    | (cases tg <;> first | rfl | cases h)
theorem swLC {tg elt : Expr} {gs : List Comprehension} {scope : Scope} {p : Pos} {env : Env} : swappedStores [tg] (.ListComp elt gs scope p) env = pure none := by
  cases tg <;> rfl
def cond2 (t : MT) (e : ME) (sc : Scope) (ts vs : List Expr) : Bool := match t with
  | .tup (.cons (.nm i) (.cons (.nm j) .nil)) => match e with
    | .tup (.cons _ (.cons _ .nil)) => match ts with
      | [.Name x _, .Name y _] => decide (swK sc ts vs = some (some [x, y])) && decide (sc.names.lookup x = some .local) && decide (sc.names.lookup y = some .local) && !Nat.beq i j
      | _ => false
    | _ => false
  | _ => false
def cond3 (t : MT) (e : ME) (sc : Scope) (ts vs : List Expr) : Bool := match t with
  | .tup (.cons (.nm i) (.cons (.nm j) (.cons (.nm l) .nil))) => match e with
    | .tup (.cons _ (.cons _ (.cons _ .nil))) => match ts with
      | [.Name x _, .Name y _, .Name z _] => decide (swK sc ts vs = some (some [x, y, z])) && decide (sc.names.lookup x = some .local) && decide (sc.names.lookup y = some .local) && decide (sc.names.lookup z = some .local) && !Nat.beq i j && !Nat.beq i l && !Nat.beq j l
      | _ => false
    | _ => false
  | _ => false
def isFn (sc : Scope) : Bool := match sc.kind with
  | .function => true
  | _ => false
theorem isFn_of {sc : Scope} (h : isFn sc = true) : sc.kind = .function := by
  unfold isFn at h
  split at h
  · assumption
  · cases h
/-- how a comprehension is stored under a name -/
def lcB (e : ME) (sc : Scope) (tg v : Expr) (pos : Pos) : Bool := match tg with
  | .Name y py => match sc.names.lookup y with
    | some .local => match v with
      | .ListComp _ _ scope cpos => (py.line == cpos.line) && !(scope.names.any fun (n, k) => n == y && (k == .local || k == .cell)) && (match e with
        | .lc .. => true
        | .vlc .. => true
        | _ => false)
      | _ => false
    | _ => true
  | _ => true
def asgB (t : MT) (e : ME) (sc : Scope) (tg v : Expr) (pos : Pos) : Bool := match v with
  | .ListComp .. => lcB e sc tg v pos && isFn sc
  | .Tuple vs _ _ => match tg with
    | .Tuple ts _ _ => isFn sc && (decide (swK sc ts vs = some none) || cond2 t e sc ts vs || cond3 t e sc ts vs)
    | .List .. => false
    | _ => true
  | _ => notComp v
mutual
def okSt : MS → Tb → List Str → Scope → (Str → Bool) → Stmt → Bool
  | .asg t e, T, N, sc, fc, st => match st with
    | .Assign [tg] v pos => okT t T N sc fc tg && okE e T N sc fc v && notStar tg && asgB t e sc tg v pos
    | _ => false
  | .ex e, T, N, sc, fc, st => match st with
    | .Expr v _ => okE e T N sc fc v && notComp v
    | _ => false
  | .iff c a b, T, N, sc, fc, st => match st with
    | .If ec ea eb _ => okE c T N sc fc ec && okSts a T N sc fc ea && okSts b T N sc fc eb
    | _ => false
  | .whl c b, T, N, sc, fc, st => match st with
    | .While ec eb [] _ => okE c T N sc fc ec && okSts b T N sc fc eb
    | _ => false
  | .for t it b, T, N, sc, fc, st => match st with
    | .For tg ei eb [] _ => okT t T N sc fc tg && okIt it T N sc fc ei && okIT it tg && notSet ei && okSts b T N sc fc eb
    | _ => false
  | .ret e, T, N, sc, fc, st => match st with
    | .Return (some v) _ => okE e T N sc fc v
    | _ => false
  | .retN, _, _, _, _, st => match st with
    | .Return none _ => true
    | _ => false
  | .brk, _, _, _, _, st => match st with
    | .Break _ => true
    | _ => false
  | .cont, _, _, _, _, st => match st with
    | .Continue _ => true
    | _ => false
  | .pass, _, _, _, _, st => match st with
    | .Pass _ => true
    | .Expr (.Constant (.str _) _ _) _ => true
    | _ => false
  | .lk _ s, T, N, sc, fc, st => okSt s T N sc fc st
  | .frz _ s, T, N, sc, fc, st => okSt s T N sc fc st
  | .nope, _, _, _, _, _ => true
def okSts : MSs → Tb → List Str → Scope → (Str → Bool) → List Stmt → Bool
  | .nil, _, _, _, _, sts => sts.isEmpty
  | .cons s r, T, N, sc, fc, sts => match sts with
    | [] => false
    | st :: sts => okSt s T N sc fc st && okSts r T N sc fc sts
end
section
variable {D : Gd} {E : En} {rm : Nat} {W : Wd} {T : Tb} {N : List Str} {sc : Scope} {fc : Str → Bool} {X : Cx}
theorem s_par2 {i j : Nat} {x y : Str} {a b : ME} {ea eb : Expr} {px py pt pos : Pos} {kt k2 pt2} (hc : X.calm = true) (hN : X.N.Nodup) (hi : X.N[i]? = some x) (hj : X.N[j]? = some y) (hij : i ≠ j)
    (hx : X.env.scope.names.lookup x = some .local) (hy : X.env.scope.names.lookup y = some .local) (ha : PA X [ea, eb] (tevs D E (.cons a (.cons b .nil))))
    (hw : swappedStores [.Tuple [.Name x px, .Name y py] kt pt] (.Tuple [ea, eb] k2 pt2) X.env = pure (some [x, y])) :
    PS X (.Assign [.Tuple [.Name x px, .Name y py] kt pt] (.Tuple [ea, eb] k2 pt2) pos) (tx D E (.asg (.tup (.cons (.nm i) (.cons (.nm j) .nil))) (.tup (.cons a (.cons b .nil))))) := by
  refine PS.imp (ps_par hc hN hi hj hij hx hy ha hw) fun Wn σ H ⟨μ, s, L, nx, B, rs, R, hk, p⟩ => ?_
  rw [Ev.x] at hk
  simp only [ev] at hk
  refine ⟨μ, s, L, _, rs, R, hk, fun vs L1 μ1 H1 us hn e1 R1 r1 h1 => ?_⟩
  cases r1 with
  | nil => cases hn
  | cons ra r1 =>
    cases r1 with
    | nil => cases hn
    | cons rb r1 =>
      cases r1 with
      | cons _ _ => cases hn
      | nil =>
        refine ⟨_, _, rfl, ?_⟩
        simp only [truT, evT, seqE, fitTs, ifB, evTs, setS_eq] at h1
        exact p.nx _ L1 μ1 H1 _ e1 R1 (((rs.mono e1).set ra i).set rb j) h1
theorem s_par3 {i j l : Nat} {x y z : Str} {a b c : ME} {ea eb ec : Expr} {px py pz pt pos : Pos} {kt k2 pt2} (hc : X.calm = true) (hN : X.N.Nodup) (hi : X.N[i]? = some x) (hj : X.N[j]? = some y) (hl : X.N[l]? = some z) (hij : i ≠ j) (hil : i ≠ l) (hjl : j ≠ l)
    (hx : X.env.scope.names.lookup x = some .local) (hy : X.env.scope.names.lookup y = some .local) (hz : X.env.scope.names.lookup z = some .local) (ha : PA X [ea, eb, ec] (tevs D E (.cons a (.cons b (.cons c .nil)))))
    (hw : swappedStores [.Tuple [.Name x px, .Name y py, .Name z pz] kt pt] (.Tuple [ea, eb, ec] k2 pt2) X.env = pure (some [x, y, z])) :
    PS X (.Assign [.Tuple [.Name x px, .Name y py, .Name z pz] kt pt] (.Tuple [ea, eb, ec] k2 pt2) pos) (tx D E (.asg (.tup (.cons (.nm i) (.cons (.nm j) (.cons (.nm l) .nil)))) (.tup (.cons a (.cons b (.cons c .nil)))))) := by
  refine PS.imp (ps_par3 hc hN hi hj hl hij hil hjl hx hy hz ha hw) fun Wn σ H ⟨μ, s, L, nx, B, rs, R, hk, p⟩ => ?_
  rw [Ev.x] at hk
  simp only [ev] at hk
  refine ⟨μ, s, L, _, rs, R, hk, fun vs L1 μ1 H1 us hn e1 R1 r1 h1 => ?_⟩
  cases r1 with
  | nil => cases hn
  | cons ra r1 =>
    cases r1 with
    | nil => cases hn
    | cons rb r1 =>
      cases r1 with
      | nil => cases hn
      | cons rc r1 =>
        cases r1 with
        | cons _ _ => cases hn
        | nil =>
          refine ⟨_, _, _, rfl, ?_⟩
          simp only [truT, evT, seqE, fitTs, ifB, evTs, setS_eq] at h1
          exact p.nx _ L1 μ1 H1 _ e1 R1 ((((rs.mono e1).set ra i).set rb j).set rc l) h1
theorem sw_false {elt : Expr} {gs : List Comprehension} {scope : Scope} {cpos : Pos} {tg : Expr} {l : Nat} {env : Env} (hf : env.scope.kind = .function) (h : ∀ y py, tg = .Name y py → env.scope.names.lookup y ≠ some .local) : swapsWith (.ListComp elt gs scope cpos) (some tg) l env = pure false := by
  cases tg with
  | Name y py =>
    have := h y py rfl
    have hk : (env.kindOf y == some .local) = false := by
      have : env.kindOf y ≠ some .local := this
      simpa using this
    unfold swapsWith
    simp only [hk, Bool.and_false, Bool.false_and]
  | _ => rfl
def GoodS (D : Gd) (E : En) (rm : Nat) (W : Wd) (T : Tb) (m : MS) : Prop := ∀ N sc fc X st, CK W rm N sc fc X → X.xe = (fun _ _ => False) → okSt m T N sc fc st = true → PS X st (tx D E m)
def GoodSs (D : Gd) (E : En) (rm : Nat) (W : Wd) (T : Tb) (m : MSs) : Prop := ∀ N sc fc X st, CK W rm N sc fc X → X.xe = (fun _ _ => False) → okSts m T N sc fc st = true → PSs X st (txs D E m)
theorem never_of (h : X.xe = (fun _ _ => False)) : PassesOwn (model X.prog X.w) X.A X.env X.xe := by rw [h]; exact PassesOwn.never
theorem beq_ne {i j : Nat} (h : (!Nat.beq i j) = true) : i ≠ j := by
  intro z
  subst z
  simp at h
theorem good_asg (WO : WOk D E rm W T) (C : CK W rm N sc fc X) {t : MT} {e : ME} {tg v : Expr} {pos : Pos} (h1 : okT t T N sc fc tg = true) (h2 : okE e T N sc fc v = true) (h3 : notStar tg = true) (h4 : asgB t e sc tg v pos = true) : PS X (.Assign [tg] v pos) (tx D E (.asg t e)) := by
  have gt := good_T WO t _ _ _ _ _ C h1
  have ge := good_E WO e _ _ _ _ _ C h2
  have plain : notComp v = true → swappedStores [tg] v X.env = pure none → PS X (.Assign [tg] v pos) (tx D E (.asg t e)) := fun hn hw => s_asg ge.pe gt (swaps_no hn) hw h3
  unfold asgB at h4
  split at h4
  · -- a comprehension
    rename_i elt gs scope cpos
    simp only [Bool.and_eq_true] at h4
    obtain ⟨h4, hf⟩ := h4
    have hfn := isFn_of hf
    rw [← C.sc] at hfn
    unfold lcB at h4
    split at h4
    · rename_i y py
      split at h4
      · rename_i hy
        simp only [Bool.and_eq_true, Bool.not_eq_true'] at h4
        obtain ⟨⟨h5, h6⟩, h7⟩ := h4
        split at h7
        · rename_i it tg2 own c e2
          unfold okE at h2
          split at h2
          · rename_i elt2 tg' iter ifs scope2 pos2 heq
            cases heq
            simp only [Bool.and_eq_true, decide_eq_true_eq] at h2
            obtain ⟨⟨⟨⟨⟨⟨⟨⟨g1, g2⟩, g3⟩, g4⟩, g5⟩, g6⟩, g7⟩, g8⟩, g9⟩ := h2
            have CB := fun s H Ca cl fp => C.blk s H scope Ca cl fp
            cases t with
            | nm i =>
              unfold okT at h1
              simp only [Bool.and_eq_true, decide_eq_true_eq] at h1
              have key := s_setLc (i := i) (spos := pos) (C.cok WO) (by rw [C.eN]; exact h1.1) (by rw [C.sc]; exact hy) (sw_true hfn (by rw [C.sc]; exact hy) h5 h6) (good_I WO it _ _ _ _ tg' _ C g1 g6) (by rw [C.eN, C.sc]; exact blkOk_by g3) (by rw [g4]; exact g5) (fun s H Ca cl fp => good_T WO tg2 _ _ _ _ _ (CB s H Ca cl fp) g7) (fun s H Ca cl fp => good_O WO c _ _ _ _ _ (CB s H Ca cl fp) g8) (fun s H Ca cl fp => (good_E WO e2 _ _ _ _ _ (CB s H Ca cl fp) g9).pe) (fold_of g2 _)
              rw [g4] at key
              exact key
            | tup ts => unfold okT at h1; cases h1
            | sub o i => unfold okT at h1; cases h1
            | nope => unfold okT at h1; cases h1
          · cases h2
        · rename_i it tg2 own c e2
          unfold okE at h2
          split at h2
          · rename_i elt2 tg' iter ifs scope2 pos2 heq
            cases heq
            simp only [Bool.and_eq_true, decide_eq_true_eq] at h2
            obtain ⟨⟨⟨⟨⟨⟨⟨⟨g1, g2⟩, g3⟩, g4⟩, g5⟩, g6⟩, g7⟩, g8⟩, g9⟩ := h2
            have CB := fun s H Ca cl fp => C.blk s H scope Ca cl fp
            cases t with
            | nm i =>
              unfold okT at h1
              simp only [Bool.and_eq_true, decide_eq_true_eq] at h1
              have key := s_setVlc (i := i) (spos := pos) (C.cok WO) (by rw [C.eN]; exact h1.1) (by rw [C.sc]; exact hy) (sw_true hfn (by rw [C.sc]; exact hy) h5 h6) (good_I WO it _ _ _ _ tg' _ C g1 g6) (by rw [C.eN, C.sc]; exact blkOk_by g3) (by rw [g4]; exact g5) (fun s H Ca cl fp => good_T WO tg2 _ _ _ _ _ (CB s H Ca cl fp) g7) (fun s H Ca cl fp => good_O WO c _ _ _ _ _ (CB s H Ca cl fp) g8) (fun s H Ca cl fp => (good_E WO e2 _ _ _ _ _ (CB s H Ca cl fp) g9).pe) (fold_of g2 _)
              rw [g4] at key
              exact key
            | tup ts => unfold okT at h1; cases h1
            | sub o i => unfold okT at h1; cases h1
            | nope => unfold okT at h1; cases h1
          · cases h2
        · cases h7
      · rename_i hy
        exact s_asg ge.pe gt (show swapsWith (.ListComp elt gs scope cpos) (some (.Name y py)) pos.line X.env = pure false from sw_false hfn (fun y' py' z => by injection z with z1 z2; rw [C.sc, ← z1]; exact hy)) swLC h3
    · rename_i hy
      exact s_asg ge.pe gt (show swapsWith (.ListComp elt gs scope cpos) (some _) pos.line X.env = pure false from sw_false hfn (fun y' py' z => (hy y' py' z).elim)) swLC h3
  · -- a tuple
    rename_i vs k2 p2
    split at h4
    · rename_i ts kt pt
      simp only [Bool.and_eq_true, Bool.or_eq_true, decide_eq_true_eq] at h4
      obtain ⟨hf, h4⟩ := h4
      have hfn := isFn_of hf
      rw [← C.sc] at hfn
      rcases h4 with (h4 | h4) | h4
      · exact plain rfl (swK_ok hfn (by rw [C.sc]; exact h4))
      · unfold cond2 at h4
        split at h4
        · rename_i i j
          split at h4
          · rename_i a b
            split at h4
            · rename_i x px y py
              simp only [Bool.and_eq_true, decide_eq_true_eq] at h4
              obtain ⟨⟨⟨g1, g2⟩, g3⟩, g4⟩ := h4
              simp only [okT, okTs, Bool.and_eq_true, decide_eq_true_eq] at h1
              simp only [okE, Bool.and_eq_true] at h2
              cases vs with
              | nil => simp only [okEs] at h2; cases h2.1
              | cons ea vs =>
                cases vs with
                | nil => simp only [okEs, Bool.and_eq_true] at h2; cases h2.1.2
                | cons eb vs =>
                  cases vs with
                  | cons _ _ => simp only [okEs, Bool.and_eq_true] at h2; cases h2.1.2.2
                  | nil =>
                    have pa := ((good_Es WO _).1 _ _ _ _ _ C h2.1).1
                    exact s_par2 C.calm (by rw [C.eN]; exact C.nd) (by rw [C.eN]; exact h1.1.1.1) (by rw [C.eN]; exact h1.2.1.1.1) (beq_ne g4) (by rw [C.sc]; exact g2) (by rw [C.sc]; exact g3) pa (swK_ok hfn (by rw [C.sc]; exact g1))
            · cases h4
          · cases h4
        · cases h4
      · unfold cond3 at h4
        split at h4
        · rename_i i j l
          split at h4
          · rename_i a b c
            split at h4
            · rename_i x px y py z pz
              simp only [Bool.and_eq_true, decide_eq_true_eq] at h4
              obtain ⟨⟨⟨⟨⟨⟨g1, g2⟩, g3⟩, g4⟩, g5⟩, g6⟩, g7⟩ := h4
              simp only [okT, okTs, Bool.and_eq_true, decide_eq_true_eq] at h1
              simp only [okE, Bool.and_eq_true] at h2
              cases vs with
              | nil => simp only [okEs] at h2; cases h2.1
              | cons ea vs =>
                cases vs with
                | nil => simp only [okEs, Bool.and_eq_true] at h2; cases h2.1.2
                | cons eb vs =>
                  cases vs with
                  | nil => simp only [okEs, Bool.and_eq_true] at h2; cases h2.1.2.2
                  | cons ec vs =>
                    cases vs with
                    | cons _ _ => simp only [okEs, Bool.and_eq_true] at h2; cases h2.1.2.2.2
                    | nil =>
                      have pa := ((good_Es WO _).1 _ _ _ _ _ C h2.1).1
                      exact s_par3 C.calm (by rw [C.eN]; exact C.nd) (by rw [C.eN]; exact h1.1.1.1) (by rw [C.eN]; exact h1.2.1.1.1) (by rw [C.eN]; exact h1.2.2.1.1.1) (beq_ne g5) (beq_ne g6) (beq_ne g7) (by rw [C.sc]; exact g2) (by rw [C.sc]; exact g3) (by rw [C.sc]; exact g4) pa (swK_ok hfn (by rw [C.sc]; exact g1))
            · cases h4
          · cases h4
        · cases h4
    · cases h4
    · rename_i n1 n2
      refine plain rfl (swNone ?_)
      cases tg <;> first | rfl | exact (n1 _ _ _ rfl).elim | exact (n2 _ _ rfl).elim
  · rename_i n1 n2
    refine plain h4 (swNone ?_)
    cases v <;> first
      | (cases tg <;> rfl)
      | exact (n2 _ _ _ rfl).elim
      | exact (n1 _ _ _ _ rfl).elim
mutual
theorem good_S (WO : WOk D E rm W T) : ∀ m : MS, GoodS D E rm W T m
  | .asg t e => fun N sc fc X st C hx h => by
    unfold okSt at h
    split at h
    · simp only [Bool.and_eq_true] at h
      obtain ⟨⟨⟨h1, h2⟩, h3⟩, h4⟩ := h
      exact good_asg WO C h1 h2 h3 h4
    · cases h
  | .ex e => fun N sc fc X st C hx h => by
    unfold okSt at h
    split at h
    · simp only [Bool.and_eq_true] at h
      exact s_ex (good_E WO e _ _ _ _ _ C h.1).pe h.2
    · cases h
  | .iff c a b => fun N sc fc X st C hx h => by
    unfold okSt at h
    split at h
    · obtain ⟨h1, h2, h3⟩ := and3 h
      exact s_if (good_E WO c _ _ _ _ _ C h1).pt (good_Ss WO a _ _ _ _ _ C hx h2) (good_Ss WO b _ _ _ _ _ C hx h3)
    · cases h
  | .whl c b => fun N sc fc X st C hx h => by
    unfold okSt at h
    split at h
    · simp only [Bool.and_eq_true] at h
      exact s_while (C.cok WO) (never_of hx) (good_E WO c _ _ _ _ _ C h.1).pt (good_Ss WO b _ _ _ _ _ C hx h.2)
    · cases h
  | .for t it b => fun N sc fc X st C hx h => by
    unfold okSt at h
    split at h
    · simp only [Bool.and_eq_true] at h
      obtain ⟨⟨⟨⟨h1, h2⟩, h3⟩, h4⟩, h5⟩ := h
      exact s_for (C.cok WO) (never_of hx) (good_I WO it _ _ _ _ _ _ C h2 h3) (good_T WO t _ _ _ _ _ C h1) (good_Ss WO b _ _ _ _ _ C hx h5) (fold_of h4 _)
    · cases h
  | .ret e => fun N sc fc X st C hx h => by
    unfold okSt at h
    split at h
    · exact s_ret (good_E WO e _ _ _ _ _ C h).pe
    · cases h
  | .retN => fun N sc fc X st C hx h => by
    unfold okSt at h
    split at h
    · exact s_retN
    · cases h
  | .brk => fun N sc fc X st C hx h => by
    unfold okSt at h
    split at h
    · exact s_brk
    · cases h
  | .cont => fun N sc fc X st C hx h => by
    unfold okSt at h
    split at h
    · exact s_cont
    · cases h
  | .pass => fun N sc fc X st C hx h => by
    unfold okSt at h
    split at h
    · exact s_pass
    · exact s_doc
    · cases h
  | .lk v s => fun N sc fc X st C hx h => by
    unfold okSt at h
    exact s_lk WO.ok (good_S WO s _ _ _ _ _ C hx h)
  | .frz v s => fun N sc fc X st C hx h => by
    unfold okSt at h
    exact s_frz (C.cok WO) (good_S WO s _ _ _ _ _ C hx h)
  | .nope => fun N sc fc X st C hx h => ⟨fun _ _ _ _ _ _ ⟨_, _, _, _, _, _, _, hk, _⟩ => hk.elim⟩
theorem good_Ss (WO : WOk D E rm W T) : ∀ m : MSs, GoodSs D E rm W T m
  | .nil => fun N sc fc X st C hx h => by
    unfold okSts at h
    cases st with
    | nil => exact ss_nil
    | cons _ _ => cases h
  | .cons s r => fun N sc fc X st C hx h => by
    unfold okSts at h
    split at h
    · cases h
    · simp only [Bool.and_eq_true] at h
      exact ss_cons (good_S WO s _ _ _ _ _ C hx h.1) (good_Ss WO r _ _ _ _ _ C hx h.2)
end
end
end Ev

set_option Elab.async false
set_option linter.all false
set_option maxRecDepth 100000
set_option maxHeartbeats 8000000
/-! EvE11: the defs of a text, by the depth of their calls. -/
namespace Ev
open PySem PySem.Spec PyProof.Rows L2
section
variable {D : Gd} {μ μ1 : List Addr} {H : Hp}
mutual
theorem RV.nor : ∀ {v : EV} {u : V}, noRef v = true → RV D μ H v u → RV D μ1 H v u
  | _, _, _, .non => .non
  | _, _, _, .bl b => .bl b
  | _, _, _, .int i => .int i
  | _, _, _, .str s => .str s
  | _, _, h, .tup a r => .tup a (RVs.nor (by simpa only [noRef] using h) r)
  | _, _, h, .vl a r => .vl a (RVs.nor (by simpa only [noRef] using h) r)
  | _, _, h, .ref _ => by cases h
  | _, _, _, .fn i => .fn i
  | _, _, _, .ty h => .ty h
  | _, _, _, .opq => .opq
  | _, _, _, .kd h => .kd h
theorem RVs.nor : ∀ {vs : List EV} {us : List V}, noRefs vs = true → RVs D μ H vs us → RVs D μ1 H vs us
  | _, _, _, .nil => .nil
  | v :: vs, _, h, .cons a r => by
    unfold noRefs at h
    cases e : noRef v with
    | false => rw [e] at h; cases h
    | true => rw [e] at h; exact .cons (a.nor e) (r.nor h)
end
theorem outK_of {L : LH} (G : D.Ok) (R : Rep D μ1 L H) {v : EV} {u : V} (r : RV D μ1 H v u) {k : EV → T} (h : (outK v L k).holds) : Fz (fun H' => (∀ b, b ∉ μ1 → H' b = H b) ∧ (∀ b o w, H b = some (.frz o w) → H' b = some (.frz o w)) ∧ (∀ b xs, H b = some (.tup xs) → H' b = some (.tup xs)) ∧ ∃ v', RV D μ H' v' u ∧ (k v').holds) H := by
  have plain : noRef v = true → (k v).holds → Fz (fun H' => (∀ b, b ∉ μ1 → H' b = H b) ∧ (∀ b o w, H b = some (.frz o w) → H' b = some (.frz o w)) ∧ (∀ b xs, H b = some (.tup xs) → H' b = some (.tup xs)) ∧ ∃ v', RV D μ H' v' u ∧ (k v').holds) H := fun e h => .done ⟨fun _ _ => rfl, fun _ _ _ z => z, fun _ _ z => z, v, r.nor e, h⟩
  unfold outK at h
  cases v with
  | ref i =>
    simp only at h
    obtain ⟨xs, e1, h2⟩ := lst_of h
    obtain ⟨a, us, rfl, ha, g2, g3⟩ := lst_at R r e1
    cases e : noRefs xs with
    | false => rw [e] at h2; exact h2.elim
    | true =>
      rw [e] at h2
      have hm : a ∈ μ1 := List.mem_of_getElem? ha
      refine .step (d := a) (u := .lst us) g2 trivial fun od => .done ?_
      have tup : ∀ b xs, H b = some (.tup xs) → upd H a (.frz od (.lst us)) b = some (.tup xs) := fun b xs hb => by rw [upd_ne (fun z => by subst z; rw [g2] at hb; cases hb)]; exact hb
      have frz : ∀ b o w, H b = some (.frz o w) → upd H a (.frz od (.lst us)) b = some (.frz o w) := fun b o w hb => by rw [upd_ne (fun z => by subst z; rw [g2] at hb; cases hb)]; exact hb
      exact ⟨fun b hb => upd_ne fun z => hb (z ▸ hm), frz, tup, .vl xs, .vl upd_same ((g3.nor e).mono2 tup fun b od xs => frz b od _), h2⟩
  | _ =>
    simp only at h
    first
      | (split at h
         · rename_i e; exact plain e h
         · exact h.elim)
      | exact plain rfl h
theorem Fz.imp {R R' : Hp → Prop} (f : ∀ H, R H → R' H) {H : Hp} (h : Fz R H) : Fz R' H := by
  induction h with
  | done r => exact .done (f _ r)
  | step a b _ ih => exact .step a b ih
/-- behind a call with a heap of its own -/
theorem ext_call {L L1 : LH} {H1 H2 : Hp} (G : D.Ok) (R : Rep D μ L H) (e : Ext D [] H μ1 H1) (R1 : Rep D μ1 L1 H1) (h1 : ∀ b, b ∉ μ1 → H2 b = H1 b) (h2 : ∀ b o w, H1 b = some (.frz o w) → H2 b = some (.frz o w)) (h3 : ∀ b xs, H1 b = some (.tup xs) → H2 b = some (.tup xs)) :
    Ext D μ H μ H2 ∧ Rep D μ ⟨L.n, L.t, L1.c⟩ H2 := by
  have kp : ∀ b o, H b = some o → b ∉ D.rsv → H2 b = some o := fun b o hb hr => by
    rw [h1 b fun z => ?_]
    · exact e.keep b o hb (by simp) hr
    · rcases e.new b z with y | y | y
      · simp at y
      · rw [hb] at y; cases y
      · exact hr y
  have ext : Ext D μ H μ H2 := ⟨⟨[], by simp⟩, fun b xs hb => h3 _ _ (e.tup b xs hb), fun b o hb _ hr => kp b o hb hr, fun b o w hb => h2 _ _ _ (e.frz b o w hb), fun b hb => .inl hb⟩
  refine ⟨ext, R.len, R.nd, fun i a hi => ?_, R.top, R.rs, G.keep _ H1 H2 R1.J fun b hb => h1 b fun z => R1.rs b z hb⟩
  obtain ⟨o, o1, o2⟩ := R.ob i a hi
  exact ⟨o, o1, o2.mono ext fun u hu => kp a u hu (R.rs a (List.mem_of_getElem? hi))⟩
theorem pss_fzR {X : Cx} {st : List Stmt} {t : TS} (h : PSs X st t) : PSs X st fun W σ H => t { W with rt := fun v H' => Fz (W.rt v) H' } σ H := ⟨fun pins s σ H W I q => thn (h.run pins s σ H _ I q) fun f s1 g => by
  cases f with
  | next => exact g
  | brk => exact g
  | cont => exact g
  | ret v =>
    obtain ⟨x, σ', H', I', r, z⟩ := g
    obtain ⟨H2, I2, z2⟩ := fz_inv I' z
    exact ⟨x, σ', H2, I2, r, z2⟩⟩
end
section
variable {D : Gd} {W : Wd} {T : Tb} {Wn : Nat} {G : List EV} {F : List FD}
theorem slots_RS {μ : List Addr} {H : Hp} {m : Nat} : ∀ {vs : List EV} {us : List V}, RVs D μ H vs us → RS D μ H (slotsOf vs m) (us.map some ++ List.replicate m none)
  | _, _, .nil => by
    refine ⟨by simp [slotsOf], fun i v h => ?_⟩
    simp only [slotsOf] at h
    rw [List.getElem?_replicate] at h
    split at h
    · cases h
    · cases h
  | _, _, .cons (x := x) (y := y) r rr => by
    obtain ⟨l, q⟩ := slots_RS (m := m) rr
    refine ⟨by simp only [slotsOf, List.map_cons, List.cons_append, List.length_cons, l], fun i v h => ?_⟩
    cases i with
    | zero =>
      simp only [slotsOf, List.getElem?_cons_zero] at h
      cases h
      exact ⟨_, rfl, r⟩
    | succ i =>
      simp only [slotsOf, List.getElem?_cons_succ] at h
      obtain ⟨u, e, ru⟩ := q i v h
      exact ⟨u, by simpa using e, ru⟩
def spDraw (D : Gd) : Sp := fun us H Q _ => us.length = 2 ∧ ∃ μ L vs k, Rep D μ L H ∧ RVs D μ H vs us ∧ (drawE vs L k).holds ∧ PostV D μ H k Q
def spPrim (D : Gd) (n : Nat) (p : List EV → LH → KV → Ev.T) : Sp := fun us H Q _ => us.length = n ∧ ∃ μ L vs k, Rep D μ L H ∧ RVs D μ H vs us ∧ (p vs L k).holds ∧ PostV D μ H k Q
/-- what is known of a def -/
structure Fact (D : Gd) (W : Wd) (T : Tb) (F : List FD) (i : Nat) (x : Str) (n : Nat) (f : Addr) (fd : FuncData) (ps : List Str) : Prop where
  len : ps.length = n
  mg : W.mg x = some (.ref f)
  keep : PySem.W.keepIn W.K (.ref f) = true
  binds : Binds W.K fd ps []
  kb : ∀ ks ix, (i, ks, ix) ∈ T.kw → KBn W.K fd ps (ix.length - ks.length) ks (fun us ws => pickL (us ++ ws) ix) (fun us ws => pickL (us ++ ws) ix)
  code : (∃ (b : MSs) (N : List Str) (nm qual : Str) (params : Arguments) (body : List Stmt) (scope : Scope), (F[i]? = some (.df n N.length b) ∨ F[i]? = some (.dp n N.length b)) ∧ FunD W.K nm qual params body scope [] [] f fd ∧ FnScope N ps scope ∧ okSts b T N scope (fun _ => true) body = true) ∨
    (∃ dm p, F[i]? = some (.prim dm p) ∧ ∀ d, dm ≤ d → FnOk W.P W.w W.K W.mg W.base CX0 (d + 1) f fd ps (spPrim D n p)) ∨ (F[i]? = some .draw ∧ n = 2 ∧ ∀ d, FnOk W.P W.w W.K W.mg W.base CX0 (d + 1) f fd ps (spDraw D))
/-- what is known of the module, but the defs -/
structure Base (D : Gd) (W : Wd) (T : Tb) (G : List EV) : Prop where
  K : W.K = D.K
  ok : D.Ok
  kg : ∀ (rm : Nat) (X : Cx), X.prog = W.P → X.w = W.w → X.K = W.K → Room rm X.A → KdGet D X
  free : ∀ T, (T = "int" ∨ T = "bool" ∨ T = "str" ∨ T = "list" ∨ T = "tuple" ∨ T = "dict" ∨ T = "abs" ∨ T = "len" ∨ T = "isinstance" ∨ T = "all" ∨ T = "any" ∨ T = "max" ∨ T = "min" ∨ T = "range" ∨ T = "zip" ∨ T = "enumerate") → W.mg (Str.ofString T) = none
  glo : ∀ (i : Nat) x, T.gl[i]? = some x → ∃ u w' v, W.mg x = some w' ∧ L2.RelV u w' ∧ G[i]? = some v ∧ (∀ μ H, RV D μ H v u) ∧ (x == ("__debug__" : Str)) = false
  dbg : ∀ (i : Nat) x n, T.fn[i]? = some (x, n) → (x == ("__debug__" : Str)) = false
theorem fns_ok (B : Base D W T G) (hF : ∀ i x n, T.fn[i]? = some (x, n) → ∃ f fd ps, Fact D W T F i x n f fd ps) : ∀ (d i : Nat) (x : Str) (n : Nat) (f : Addr) (fd : FuncData) (ps : List Str), T.fn[i]? = some (x, n) → Fact D W T F i x n f fd ps →
    FnOk W.P W.w W.K W.mg W.base CX0 d f fd ps (spC D (callE Wn G F d) n i)
  | 0, i, x, n, f, fd, ps, hi, fc => ⟨fun vs H Q E h => h.1.trans fc.len.symm, fun A outer s H args us vs Q E _ _ _ _ h => by
      obtain ⟨_, μ, L, ws, k, _, _, hk, _⟩ := h
      exact hk.elim⟩
  | d + 1, i, x, n, f, fd, ps, hi, fc => by
    have WO : WOk D ⟨Wn, G, callE Wn G F d⟩ d W T := ⟨B.K, B.ok, B.kg d, B.free, B.glo, fun j y m hj => by
      obtain ⟨f', fd', ps', fc'⟩ := hF j y m hj
      exact ⟨B.dbg j y m hj, f', fd', ps', fc'.len, fns_ok B hF d j y m f' fd' ps' hj fc', fc'.mg, fc'.keep, fc'.binds, fc'.kb⟩⟩
    rcases fc.code with ⟨b, N, nm, qual, params, body, scope, e1 | e1, FD, FS, ok⟩ | ⟨dm, pp, e1, e3⟩ | ⟨e1, e2, e3⟩
    · refine FD.ok FS (fun vs H Q E h => h.1.trans fc.len.symm) fun cdv A outer s H vs Q E hr hsp => ?_
      obtain ⟨hl, μ, L, ws, k, R, rv, hk, p⟩ := hsp
      refine ⟨txs D ⟨Wn, G, callE Wn G F d⟩ b, PSs.nox (good_Ss WO b N scope (fun _ => true) _ body ⟨rfl, rfl, rfl, rfl, rfl, rfl, rfl, FS.nd, rfl, rfl, hr⟩ rfl ok), ?_⟩
      simp only [callE, e1, runF, bodyE] at hk
      cases e : Nat.beq ws.length n with
      | false => rw [e] at hk; exact hk.elim
      | true =>
        rw [e] at hk
        have en := Nat.eq_of_beq_eq_true e
        refine ⟨μ, _, L, _, _, ?_, R, hk, fun s' L' μ' H' σ' e R' rs' h => p _ L' μ' H' _ e R' .non h, p, fun s' L' μ' H' σ' e R' rs' h => h.elim, fun s' L' μ' H' σ' e R' rs' h => h.elim⟩
        have := slots_RS (m := N.length - n) rv
        unfold L2.start
        rw [hl]
        exact this
    · refine FD.ok FS (fun vs H Q E h => h.1.trans fc.len.symm) fun cdv A outer s H vs Q E hr hsp => ?_
      obtain ⟨hl, μ, L, ws, k, R, rv, hk, p⟩ := hsp
      refine ⟨_, PSs.nox (pss_fzR (good_Ss WO b N scope (fun _ => true) _ body ⟨rfl, rfl, rfl, rfl, rfl, rfl, rfl, FS.nd, rfl, rfl, hr⟩ rfl ok)), ?_⟩
      simp only [callE, e1, runF, pureE] at hk
      cases e0 : noRefs ws with
      | false => rw [e0] at hk; exact hk.elim
      | true =>
        rw [e0] at hk
        simp only at hk
        cases e : Nat.beq ws.length n with
        | false => rw [e] at hk; exact hk.elim
        | true =>
          rw [e] at hk
          have en := Nat.eq_of_beq_eq_true e
          have R0 : Rep D [] ⟨0, .nil, L.c⟩ H := ⟨rfl, .nil, fun i a h => (by simp at h), fun i o h => (by cases h), fun a h => (by cases h), R.J⟩
          refine ⟨[], _, ⟨0, .nil, L.c⟩, _, _, ?_, R0, hk, fun s' L' μ' H' σ' e R' rs' h => ?_, fun v L' μ' H' u e R' r h => ?_, fun s' L' μ' H' σ' e R' rs' h => h.elim, fun s' L' μ' H' σ' e R' rs' h => h.elim⟩
          · have := slots_RS (m := N.length - n) (rv.nor (μ1 := []) e0)
            unfold L2.start
            rw [hl]
            exact this
          · obtain ⟨q1, q2⟩ := ext_call B.ok R e R' (H2 := H') (fun _ _ => rfl) (fun _ _ _ z => z) fun _ _ z => z
            exact p _ _ μ H' _ q1 q2 .non h
          · refine Fz.imp (fun H2 hh => ?_) (outK_of (μ := μ) (L := L') (k := fun v => k v ⟨L.n, L.t, L'.c⟩) B.ok R' r h)
            obtain ⟨h1, h2, h3, v', rv', hk'⟩ := hh
            obtain ⟨q1, q2⟩ := ext_call B.ok R e R' h1 h2 h3
            exact p v' _ μ H2 _ q1 q2 rv' hk'
    · refine ⟨fun vs H Q E h => h.1.trans fc.len.symm, fun A outer s H args us vs Q E h1 h2 h3 h4 h => ?_⟩
      obtain ⟨hl, μ, L, ws, k, R, rv, hk, q⟩ := h
      simp only [callE, e1, runF] at hk
      cases e : Nat.ble dm d with
      | false => rw [e] at hk; exact hk.elim
      | true =>
        rw [e] at hk
        exact (e3 d (Nat.le_of_ble_eq_true e)).run A outer s H args us vs Q E h1 h2 h3 h4 ⟨hl, μ, L, ws, k, R, rv, hk, q⟩
    · subst e2
      refine (e3 d).imp fun vs H Q E h => ?_
      obtain ⟨hl, μ, L, ws, k, R, rv, hk, p⟩ := h
      simp only [callE, e1, runF] at hk
      exact ⟨hl, μ, L, ws, k, R, rv, hk, p⟩
end
end Ev

set_option Elab.async false
set_option linter.all false
set_option maxRecDepth 100000
set_option maxHeartbeats 8000000
/-! EvE12: what the module holds; the hook. -/
namespace Ev
open PySem PySem.Spec PyProof.Rows L2
section
mutual
/-- the module's value u is what v says -/
def mvB (K : PySem.W.Frag) : EV → Value → Bool
  | .tup xs, u => match u with
    | .ref a => match K.lookup a with
      | some ⟨.type c, _, .seq its _, _⟩ => decide (c = "tuple") && decide (its.size ≤ sizeLine) && mvBs K xs its.toList
      | _ => false
    | _ => false
  | .int i, u => match u with
    | .int j _ => decide (j = i)
    | _ => false
  | .str t, u => match u with
    | .str x _ => decide (x = toS t)
    | _ => false
  | .bl b, u => match u with
    | .bool c => b == c
    | _ => false
  | .non, u => match u with
    | .none => true
    | _ => false
  | .ref _, _ => false
  | .fn _, _ => false
  | .ty _, _ => false
  | .opq, _ => false
  | .kd _, _ => false
  | .vl _, _ => false
def mvBs (K : PySem.W.Frag) : List EV → List Value → Bool
  | [], us => us.isEmpty
  | x :: xs, us => match us with
    | [] => false
    | u :: us => mvB K x u && mvBs K xs us
end
variable {D : Gd}
mutual
theorem mvB_ok : ∀ {v : EV} {u : Value}, mvB D.K v u = true → ∃ y, RelV y u ∧ ∀ μ H, RV D μ H v y
  | .tup xs, u, h => by
    unfold mvB at h
    split at h
    · rename_i a
      split at h
      · rename_i c od its n sl e
        simp only [Bool.and_eq_true, decide_eq_true_eq] at h
        obtain ⟨⟨h1, h2⟩, h3⟩ := h
        obtain ⟨ys, r1, r2⟩ := mvBs_ok h3
        subst h1
        exact ⟨.ref a, rfl, fun μ H => .tup (.inr ⟨_, its, n, e, rfl, rfl, h2, r1⟩) (r2 μ H)⟩
      · cases h
    · cases h
  | .int i, u, h => by
    unfold mvB at h
    split at h
    · simp only [decide_eq_true_eq] at h
      subst h
      exact ⟨.int _, ⟨_, rfl⟩, fun μ H => .int _⟩
    · cases h
  | .str t, u, h => by
    unfold mvB at h
    split at h
    · simp only [decide_eq_true_eq] at h
      subst h
      exact ⟨.str _, ⟨_, rfl⟩, fun μ H => .str _⟩
    · cases h
  | .bl b, u, h => by
    unfold mvB at h
    split at h
    · have := eq_of_beq h
      subst this
      exact ⟨.bl _, rfl, fun μ H => .bl _⟩
    · cases h
  | .non, u, h => by
    unfold mvB at h
    split at h
    · exact ⟨.non, rfl, fun μ H => .non⟩
    · cases h
  | .ref _, _, h => by unfold mvB at h; cases h
  | .fn _, _, h => by unfold mvB at h; cases h
  | .ty _, _, h => by unfold mvB at h; cases h
  | .opq, _, h => by unfold mvB at h; cases h
  | .kd _, _, h => by unfold mvB at h; cases h
  | .vl _, _, h => by unfold mvB at h; cases h
theorem mvBs_ok : ∀ {vs : List EV} {us : List Value}, mvBs D.K vs us = true → ∃ ys, Vals ys us ∧ ∀ μ H, RVs D μ H vs ys
  | [], us, h => by
    unfold mvBs at h
    cases us with
    | nil => exact ⟨[], .nil, fun _ _ => .nil⟩
    | cons _ _ => cases h
  | x :: xs, us, h => by
    unfold mvBs at h
    cases us with
    | nil => cases h
    | cons u us =>
      simp only [Bool.and_eq_true] at h
      obtain ⟨y, r1, r2⟩ := mvB_ok h.1
      obtain ⟨ys, q1, q2⟩ := mvBs_ok h.2
      exact ⟨y :: ys, .cons r1 q1, fun μ H => .cons (r2 μ H) (q2 μ H)⟩
end
/-- a table of the module: its pairs -/
def kpB (K : PySem.W.Frag) : List DictEntry → List (EV × EV) → Bool
  | [], ps => ps.isEmpty
  | e :: es, ps => match ps with
    | [] => false
    | p :: ps => (match p.1 with
      | .str t => (match e.key with
        | .str x _ => decide (x = toS t)
        | _ => false)
      | _ => false) && mvB K p.2 e.val && kpB K es ps
def kdB (K : PySem.W.Frag) (a : Addr) (ps : List (EV × EV)) : Bool := match K.lookup a with
  | some ⟨_, _, .dict es _, _⟩ => kpB K es.toList ps
  | _ => false
theorem kpB_get {K : PySem.W.Frag} {t : List Nat} : ∀ {es : List DictEntry} {ps : List (EV × EV)} {o : Option EV}, kpB K es ps = true → dGet (.str t) ps = some o → es.any (·.refKey) = false ∧
    ((o = none ∧ es.find? (·.key.isStr (toS t)) = none) ∨ ∃ v e, o = some v ∧ es.find? (·.key.isStr (toS t)) = some e ∧ mvB K v e.val = true)
  | [], ps, o, h, g => by
    unfold kpB at h
    cases ps with
    | nil => cases g; exact ⟨rfl, .inl ⟨rfl, rfl⟩⟩
    | cons _ _ => cases h
  | e :: es, ps, o, h, g => by
    unfold kpB at h
    cases ps with
    | nil => cases h
    | cons p ps =>
      simp only [Bool.and_eq_true] at h
      obtain ⟨⟨h1, h2⟩, h3⟩ := h
      split at h1
      · rename_i t' hp
        split at h1
        · rename_i x tk hk
          simp only [decide_eq_true_eq] at h1
          subst h1
          have rk : e.refKey = false := by unfold DictEntry.refKey; rw [hk]
          have is : e.key.isStr (toS t) = beqNs t' t := by rw [hk, beqNs_eq]; rfl
          simp only [dGet, hp, keyEq] at g
          cases q : beqNs t' t with
          | true =>
            rw [q] at g
            cases g
            have all : es.any (·.refKey) = false := kpB_ref h3
            refine ⟨by simp [rk, all], .inr ⟨p.2, e, rfl, ?_, h2⟩⟩
            simp [List.find?_cons, is, q]
          | false =>
            rw [q] at g
            obtain ⟨a1, a2⟩ := kpB_get h3 g
            refine ⟨by simp [rk, a1], ?_⟩
            rw [List.find?_cons, is, q]
            exact a2
        · cases h1
      · cases h1
where
  kpB_ref {K : PySem.W.Frag} : ∀ {es : List DictEntry} {ps : List (EV × EV)}, kpB K es ps = true → es.any (·.refKey) = false
    | [], _, _ => rfl
    | e :: es, ps, h => by
      unfold kpB at h
      cases ps with
      | nil => cases h
      | cons p ps =>
        simp only [Bool.and_eq_true] at h
        obtain ⟨⟨h1, h2⟩, h3⟩ := h
        split at h1
        · split at h1
          · rename_i x tk hk
            have rk : e.refKey = false := by unfold DictEntry.refKey; rw [hk]
            simp [rk, kpB_ref h3]
          · cases h1
        · cases h1
theorem kdB_ns {K : PySem.W.Frag} {a : Addr} {ps : List (EV × EV)} (h : kdB K a ps = true) {t : List Nat} {o : Option EV} (g : dGet (.str t) ps = some o) :
    ∃ r, PySem.W.nsIn K a (toS t) = some r ∧ r.isSome = o.isSome ∧ ∀ v, o = some v → ∃ u, r = some u ∧ mvB K v u = true := by
  unfold kdB at h
  split at h
  · rename_i oc od es n sl e
    obtain ⟨h1, h2⟩ := kpB_get h g
    unfold PySem.W.nsIn
    rw [e]
    rcases h2 with ⟨z, hf⟩ | ⟨v, en, z, hf, hm⟩
    · subst z
      refine ⟨none, ?_, rfl, fun v z => by cases z⟩
      simp only [hf, h1]
      rfl
    · subst z
      refine ⟨some en.val, ?_, rfl, fun v' z => by cases z; exact ⟨_, rfl, hm⟩⟩
      simp only [hf]
  · cases h
/-- the module's tables -/
def kdOf (K : PySem.W.Frag) (w : World) (a : Addr) (ps : List (EV × EV)) : Prop := kdB K a ps = true ∧ ∃ es n, KDict K w a es n
theorem str_only {K : PySem.W.Frag} : ∀ {es : List DictEntry} {ps : List (EV × EV)} {x v : EV}, kpB K es ps = true → dGet x ps = some (some v) → ∃ t, x = .str t
  | [], ps, x, v, h, g => by
    unfold kpB at h
    cases ps with
    | nil =>
      simp only [dGet] at g
      split at g <;> cases g
    | cons _ _ => cases h
  | e :: es, ps, x, v, h, g => by
    unfold kpB at h
    cases ps with
    | nil => cases h
    | cons p ps =>
      simp only [Bool.and_eq_true] at h
      obtain ⟨⟨h1, h2⟩, h3⟩ := h
      split at h1
      · rename_i t' hp
        simp only [dGet, hp] at g
        cases x with
        | str t => exact ⟨t, rfl⟩
        | int j => exact str_only h3 g
        | _ => cases g
      · cases h1
theorem kdGet (w : World) (hkd : ∀ a ps, D.kd a ps → kdOf D.K w a ps) (X : Cx) (hK : X.K = D.K) (hw : X.w = w) : KdGet D X where
  ty := fun pins s σ H a ps I e => by
    obtain ⟨_, es, n, kd⟩ := hkd a ps e
    rw [← hK, ← hw] at kd
    exact ⟨kd_type kd I, _, kd.at_, rfl⟩
  ix := fun pins s σ H a ps μ x v u iv Q I e rx ri g q => by
    obtain ⟨hb, es, n, kd⟩ := hkd a ps e
    obtain ⟨t, ex⟩ : ∃ t, x = .str t := by
      unfold kdB at hb
      split at hb
      · exact str_only hb g
      · cases hb
    subst ex
    cases rx
    obtain ⟨r, h1, h2, h3⟩ := kdB_ns hb g
    obtain ⟨uv, er, hm⟩ := h3 v rfl
    subst er
    obtain ⟨y, ry, rr⟩ := mvB_ok hm
    rw [← hK] at h1
    rw [← hK, ← hw] at kd
    exact op_item_kd kd pins s σ H (.ref a) _ _ iv Q I rfl ri ⟨_, uv, y, rfl, rfl, h1, ry, q y (rr μ H)⟩
  isin := fun neg pins s σ H a ps μ x o u iv Q I e hx rx ri g q => by
    obtain ⟨hb, es, n, kd⟩ := hkd a ps e
    obtain ⟨t, ex⟩ := hx
    subst ex
    cases rx
    obtain ⟨r, h1, h2, h3⟩ := kdB_ns hb g
    rw [← hK] at h1
    rw [← hK, ← hw] at kd
    cases neg with
    | false => exact op_in_kd kd pins s σ H _ (.ref a) iv _ Q I ri rfl ⟨_, r, rfl, rfl, h1, by rw [h2]; exact q⟩
    | true => exact op_notIn_kd kd pins s σ H _ (.ref a) iv _ Q I ri rfl ⟨_, r, rfl, rfl, h1, by rw [h2]; exact q⟩
end
end Ev

set_option Elab.async false
set_option linter.all false
set_option maxRecDepth 100000
set_option maxHeartbeats 8000000
/-! EvE13: the hook with a check of one's own. -/
namespace Ev
open PySem PySem.Spec PyProof.Rows L2 He
section
def hookE (n : Nat) (fa : List Fa) (fn : List DefD) (ts : List Tab) (ck : PySem.W.Frag → Bool) : PySem.W.Hook where
  α := AlT × Bool
  obs := fun s => (obsTG n fa fn ts s.heap.get?, ck (frG s.heap.get? (asD s.heap.get? n)))
  val := fun w => (valT fn ts w, true)
  says := fun w h => ∃ K : PySem.W.Frag, K.In h ∧ SaysT fa fn ts w K ∧ ck K = true
  of := fun _ _ e => ⟨_, frG_in, congrArg (fun z : AlT × Bool => z.1) e, congrArg (fun z : AlT × Bool => z.2) e⟩
  keeps := fun _ _ _ ⟨K, hK, c⟩ k => ⟨K, PySem.W.Frag.In.keeps hK k, c⟩
def obsE (n : Nat) (fa : List Fa) (fn : List DefD) (ts : List Tab) (ck : PySem.W.Frag → Bool) (g : Addr → Option Obj) : AlT × Bool := (obsTG n fa fn ts g, ck (frG g (asD g n)))
theorem obsE_eq {n : Nat} {fa : List Fa} {fn : List DefD} {ts : List Tab} {ck : PySem.W.Frag → Bool} {g : Addr → Option Obj} {s : Shared} (h : ∀ a, g a = s.heap.get? a) : obsE n fa fn ts ck g = (hookE n fa fn ts ck).obs s := by
  have e : g = s.heap.get? := funext h
  rw [e] <;> rfl
end
end Ev

set_option Elab.async false
set_option linter.all false
set_option maxRecDepth 100000
set_option maxHeartbeats 8000000
/-! EvE14: the draw: its own text, run by terms over any stream. -/
namespace Ev
open PySem PySem.Spec PyProof.Rows L2
/-! ### a heap that is whole -/
def HT.Full : HT → Nat → Prop
  | .nil, n => n = 0
  | .node _ l r, n => match n with
    | 0 => False
    | m + 1 => l.Full ((m + 1) / 2) ∧ r.Full (m / 2)
theorem HT.full_put (v : LO) (t : HT) : ∀ n, t.Full n → (t.put v n).Full (n + 1) ∧ (t.put v n).get n = some v := by
  induction t with
  | nil =>
    intro n h
    have h : n = 0 := h
    subst h
    exact ⟨⟨rfl, rfl⟩, rfl⟩
  | node o l r hl hr =>
    intro n h
    cases n with
    | zero => exact h.elim
    | succ m =>
      obtain ⟨h1, h2⟩ := h
      simp only [HT.put]
      cases e : Nat.beq (Nat.mod m 2) 0
      · have em : m % 2 ≠ 0 := fun z => by rw [show Nat.mod m 2 = 0 from z] at e; cases e
        obtain ⟨a, b⟩ := hr (m / 2) h2
        refine ⟨?_, ?_⟩
        · rw [cond_false]
          refine ⟨?_, ?_⟩
          · rw [show (m + 1 + 1) / 2 = (m + 1) / 2 by omega]; exact h1
          · rw [show (m + 1) / 2 = m / 2 + 1 by omega]; exact a
        · simp only [cond_false, HT.get, e]; exact b
      · have em : m % 2 = 0 := Nat.eq_of_beq_eq_true e
        rw [show (m + 1) / 2 = m / 2 by omega] at h1
        obtain ⟨a, b⟩ := hl (m / 2) h1
        refine ⟨?_, ?_⟩
        · rw [cond_true]
          refine ⟨?_, ?_⟩
          · rw [show (m + 1 + 1) / 2 = m / 2 + 1 by omega]; exact a
          · rw [show (m + 1) / 2 = m / 2 by omega]; exact h2
        · simp only [cond_true, HT.get, e]; exact b
theorem HT.full_set (v : LO) (t : HT) : ∀ n i, t.Full n → i < n → (t.put v i).Full n ∧ (t.put v i).get i = some v := by
  induction t with
  | nil =>
    intro n i h hi
    have h : n = 0 := h
    omega
  | node o l r hl hr =>
    intro n i h hi
    cases n with
    | zero => exact h.elim
    | succ m =>
      obtain ⟨h1, h2⟩ := h
      cases i with
      | zero => exact ⟨⟨h1, h2⟩, rfl⟩
      | succ j =>
        simp only [HT.put]
        cases e : Nat.beq (Nat.mod j 2) 0
        · have em : j % 2 ≠ 0 := fun z => by rw [show Nat.mod j 2 = 0 from z] at e; cases e
          obtain ⟨a, b⟩ := hr _ (j / 2) h2 (by omega)
          refine ⟨?_, ?_⟩
          · rw [cond_false]; exact ⟨h1, a⟩
          · simp only [cond_false, HT.get, e]; exact b
        · have em : j % 2 = 0 := Nat.eq_of_beq_eq_true e
          obtain ⟨a, b⟩ := hl _ (j / 2) h1 (by omega)
          refine ⟨?_, ?_⟩
          · rw [cond_true]; exact ⟨a, h2⟩
          · simp only [cond_true, HT.get, e]; exact b
def LH.Full (L : LH) : Prop := L.t.Full L.n
theorem newK_of {L : LH} {o : LO} {k : Nat → LH → T} (f : L.Full) (h : ∀ L' : LH, L'.Full → L'.n = L.n + 1 → L'.c = L.c → L'.get L.n = some o → (∀ i, i ≠ L.n → L'.get i = L.get i) → (k L.n L').holds) : (LH.newK L o k).holds := by
  obtain ⟨a, b⟩ := HT.full_put o L.t L.n f
  unfold LH.newK
  rw [HT.putK_eq, b]
  simp only [newK2, frN_eq]
  exact h ⟨L.n + 1, L.t.put o L.n, L.c⟩ a rfl rfl b fun i hi => HT.put_ne o L.t L.n i (Ne.symm hi)
theorem putK_of {L : LH} {a : Nat} {o : LO} {k : LH → T} (f : L.Full) (ha : a < L.n) (h : ∀ L' : LH, L'.Full → L'.n = L.n → L'.c = L.c → L'.get a = some o → (∀ i, i ≠ a → L'.get i = L.get i) → (k L').holds) : (LH.putK L a o k).holds := by
  obtain ⟨x, b⟩ := HT.full_set o L.t L.n a f ha
  unfold LH.putK
  rw [HT.putK_eq]
  exact h ⟨L.n, L.t.put o a, L.c⟩ x rfl rfl b fun i hi => HT.put_ne o L.t a i (Ne.symm hi)
/-! ### the draw's own text -/
def nD : List PySem.Str := ["stream", "many", "mixed", "cell", "digit"]
def d0 : MS := (.asg (.sub (.v 0) (.k (.int (.ofNat 2)))) (.bin .add (.idx (.v 0) (.k (.int (.ofNat 2)))) (.k (.int (.ofNat 1)))))
def cW : ME := (.and (.cmp .eq (.idx (.v 0) (.k (.int (.ofNat 1)))) (.k (.int (.ofNat 0)))) (.cmp .ne (.idx (.v 0) (.k (.int (.ofNat 0)))) (.lst .nil)))
def w0 : MS := (.asg (.nm 3) (.bi .abs (.cons (.mt .pop (.idx (.v 0) (.k (.int (.ofNat 0)))) (.cons (.k (.int (.ofNat 0))) .nil)) .nil)))
def w1 : MS := (.asg (.sub (.v 0) (.k (.int (.ofNat 3)))) (.bin .mod (.bi .int (.cons (.bin .add (.bin .add (.bin .mul (.idx (.v 0) (.k (.int (.ofNat 3)))) (.k (.int (.ofNat 8191)))) (.v 3)) (.k (.int (.ofNat 3)))) .nil)) (.k (.int (.ofNat 2147483647)))))
def w2 : MS := (.asg (.sub (.v 0) (.k (.int (.ofNat 1)))) (.ite (.cmp .ge (.v 3) (.bin .pow (.k (.int (.ofNat 10))) (.k (.int (.ofNat 18))))) (.v 3) (.k (.int (.ofNat 0)))))
def bW : MSs := (.cons w0 (.cons w1 (.cons w2 .nil)))
def d1 : MS := (.whl cW bW)
def d2 : MS := (.iff (.cmp .gt (.idx (.v 0) (.k (.int (.ofNat 1)))) (.k (.int (.ofNat 0)))) (.cons (.asg (.nm 4) (.bin .mod (.bi .int (.cons (.idx (.v 0) (.k (.int (.ofNat 1)))) .nil)) (.v 1))) (.cons (.asg (.sub (.v 0) (.k (.int (.ofNat 1)))) (.bin .fdiv (.idx (.v 0) (.k (.int (.ofNat 1)))) (.v 1))) (.cons (.ret (.v 4)) .nil))) .nil)
def d3 : MS := (.asg (.nm 2) (.bin .mod (.bi .int (.cons (.bin .pow (.bin .add (.bin .add (.idx (.v 0) (.k (.int (.ofNat 3)))) (.bin .mul (.k (.int (.ofNat 7919))) (.idx (.v 0) (.k (.int (.ofNat 2)))))) (.k (.int (.ofNat 104729)))) (.k (.int (.ofNat 5)))) .nil)) (.k (.int (.ofNat 2147483629)))))
def d4 : MS := (.ret (.bin .mod (.bin .mod (.bi .int (.cons (.bin .pow (.bin .add (.bin .add (.bin .mul (.v 2) (.k (.int (.ofNat 48271)))) (.bin .mul (.k (.int (.ofNat 30011))) (.idx (.v 0) (.k (.int (.ofNat 2)))))) (.k (.int (.ofNat 29)))) (.k (.int (.ofNat 3)))) .nil)) (.k (.int (.ofNat 1000000007)))) (.v 1)))
def bD : MSs := (.cons d0 (.cons d1 (.cons d2 (.cons d3 (.cons d4 .nil)))))
structure StD (L : LH) (b c d : Int) (cs : List Int) : Prop where
  full : L.Full
  n2 : 2 ≤ L.n
  z : L.get 0 = some (.lst [.ref 1, .int b, .int c, .int d])
  l : L.get 1 = some (.lst (cs.map .int))
section
variable {E : En} {m b c d : Int} {cs : List Int} {s2 s3 s4 : Option EV} {L : LH} {nx : KS} {B : Bh}
theorem d0_run (h : StD L b c d cs) (hn : ∀ L', StD L' b (c + 1) d cs → L'.c = L.c → (nx [some (.ref 0), some (.int m), s2, s3, s4] L').holds) : (x d0 E [some (.ref 0), some (.int m), s2, s3, s4] L nx B).holds := by
  simp only [d0, x, ev, evT, slotE, List.getElem?_cons_zero, someK, truT, idxE, h.z, idxO, intK, atE, List.getElem?_cons_succ, binE, addE, frI_eq, setE, refK, setO, setI, frcK_eq, List.length_cons, List.length_nil]
  refine putK_of h.full (by have := h.n2; omega) fun L' f n c' e o => ?_
  exact hn L' ⟨f, by rw [n]; exact h.n2, e, (o 1 (by decide)).trans h.l⟩ c'
theorem mapO_ints {L : LH} {k : Nat} : ∀ cs : List Int, mapO (toD L (k + 1)) (cs.map .int) = some (cs.map .int)
  | [] => rfl
  | i :: cs => by
    simp only [List.map_cons, mapO, mapO_ints cs]
    rfl
theorem toD_ints {L : LH} {a k : Nat} {cs : List Int} (h : L.get a = some (.lst (cs.map .int))) : toD L (k + 2) (.ref a) = some (.lst (cs.map .int)) := by
  rw [toD]
  simp only [h, lstO, obD, mapO_ints, dtL]
theorem small_ok {i : Int} {k : Unit → T} (h1 : -(2 ^ 8000) < i) (h2 : i < 2 ^ 8000) (h : (k ()).holds) : (okI i k).holds := by
  unfold okI okB
  rw [big_eq]
  cases i with
  | ofNat n =>
    simp only
    have : n < 2 ^ bigE := by
      have h2 : (n : Int) < 2 ^ 8000 := h2
      have : ((2 ^ 8000 : Nat) : Int) = 2 ^ 8000 := by norm_cast
      show n < 2 ^ 8000
      omega
    rw [show Nat.blt n (2 ^ bigE) = true from by rw [Nat.blt_eq]; exact this]
    exact h
  | negSucc n =>
    simp only
    have : n.succ < 2 ^ bigE := by
      have h1 : -(2 ^ 8000) < Int.negSucc n := h1
      have : ((2 ^ 8000 : Nat) : Int) = 2 ^ 8000 := by norm_cast
      show n.succ < 2 ^ 8000
      omega
    rw [show Nat.blt n.succ (2 ^ bigE) = true from by rw [Nat.blt_eq]; exact this]
    exact h
theorem eqI_iff (i j : Int) : eqI i j = decide (i = j) := by rw [eqI_eq]; rfl
theorem test_run {k : Bool → LH → T} (h : StD L b c d cs) (hk : ∀ L', StD L' b c d cs → L'.c = L.c → (k (decide (b = 0) && !cs.isEmpty) L').holds) :
    (ev cW E true [some (.ref 0), some (.int m), s2, s3, s4] L fun v L => isBl v (fun _ => k true L) fun _ => k false L).holds := by
  by_cases e : b = Int.ofNat 0
  · subst e
    simp only [cW, ev, evs, slotE, List.getElem?_cons_zero, someK, truT, idxE, h.z, idxO, intK, atE, List.getElem?_cons_succ, cmpE, eqE, ifB, eqI, Nat.beq, rigB, k2, isBl]
    refine newK_of h.full fun L' f n c' e0 o => ?_
    have h' : StD L' (Int.ofNat 0) c d cs := ⟨f, by rw [n]; have := h.n2; omega, (o 0 (by have := h.n2; omega)).trans h.z, (o 1 (by have := h.n2; omega)).trans h.l⟩
    have hk := hk L' h' c'
    have e1 : toD L' 60 (.ref L.n) = some (.lst []) := by
      rw [toD]
      simp only [e0, lstO, obD, mapO, dtL]
    simp only [eqG, toD_ints (k := 58) h'.l, e1, bothD]
    cases cs with
    | nil => exact hk
    | cons _ _ => exact hk
  · have e' : eqI b (Int.ofNat 0) = false := by rw [eqI_iff]; exact decide_eq_false e
    simp only [cW, ev, evs, slotE, List.getElem?_cons_zero, someK, truT, idxE, h.z, idxO, intK, atE, List.getElem?_cons_succ, cmpE, eqE, ifB, e', rigB, k2, isBl]
    have := hk L h rfl
    rw [decide_eq_false (show ¬ b = 0 from e)] at this
    exact this
theorem rig_both {k : Bool → T} (h : ∀ q, (k q).holds) (b : Bool) : (rigB b k).holds := by cases b <;> exact h _
theorem body_run {i : Int} {k : KS} (h : StD L b c d (i :: cs)) (hd0 : 0 ≤ d) (hd1 : d < 2 ^ 31) (hk : ∀ L' b' d' t3, StD L' b' c d' cs → 0 ≤ d' → d' < 2 ^ 31 → L'.c = L.c → (k [some (.ref 0), some (.int m), s2, some t3, s4] L').holds) :
    (xs bW E [some (.ref 0), some (.int m), s2, s3, s4] L k B).holds := by
  have h1' : (1 : Nat) < L.n := by have := h.n2; omega
  simp only [bW, xs, w0, x, ev, evs, slotE, List.getElem?_cons_zero, someK, truT, idxE, h.z, idxO, intK, atE, List.getElem?_cons_succ, rcv, isLst, refK, h.l, lstK, mtE, one, popI, frcK_eq, List.map_cons, show Nat.blt 0 1000000 = true from rfl, List.eraseIdx_cons_zero]
  refine putK_of h.full h1' fun L1 f1 n1 c1 e1 o1 => ?_
  have z1 := (o1 0 (by decide)).trans h.z
  simp only [biE, one, intK, frI_eq, evT, setS_eq, List.set_cons_succ, List.set_cons_zero]
  generalize absI i = cell
  simp only [w1, x, ev, evs, slotE, List.getElem?_cons_zero, someK, truT, idxE, z1, idxO, intK, atE, List.getElem?_cons_succ, binE, mulE]
  refine small_ok (by omega) (by omega) (small_ok (by decide) (by decide) ?_)
  simp only [frI_eq, addE, biE, one, intE, intK, posI, Nat.beq, evT, ev, slotE, List.getElem?_cons_zero, someK, truT, setE, refK, z1, setO, setI, frcK_eq, List.length_cons, List.length_nil]
  refine putK_of f1 (by rw [n1]; have := h.n2; omega) fun L2 f2 n2 c2 e2 o2 => ?_
  generalize hd' : Int.emod ((d.mul (Int.ofNat 8191)).add cell |>.add (Int.ofNat 3)) (Int.ofNat 2147483647) = d' at e2
  have b1 : 0 ≤ d' := by rw [← hd']; exact Int.emod_nonneg _ (by decide)
  have b2 : d' < 2 ^ 31 := by
    have : d' < 2147483647 := by rw [← hd']; exact Int.emod_lt_of_pos _ (by decide)
    omega
  simp only [List.set_cons_succ, List.set_cons_zero] at e2
  simp only [w2, x, ev, slotE, List.getElem?_cons_zero, someK, truT, List.getElem?_cons_succ, binE, intK, powI, show Nat.ble 18 1000000 = true from rfl, show Nat.blt (Int.ofNat 10).natAbs 18446744073709551616 = true from rfl, frI_eq, cmpE, two, ifB]
  have fin : ∀ b' : Int, (setE L2 (.ref 0) (.int (Int.ofNat 1)) (.int b') fun L => k [some (.ref 0), some (.int m), s2, some (.int cell), s4] L).holds := fun b' => by
    simp only [setE, refK, e2, setO, intK, setI, frcK_eq, List.length_cons, List.length_nil]
    refine putK_of f2 (by rw [n2, n1]; have := h.n2; omega) fun L3 f3 n3 c3 e3 o3 => ?_
    refine hk L3 b' d' (.int cell) ⟨f3, by rw [n3, n2, n1]; exact h.n2, e3, (o3 1 (by decide)).trans ((o2 1 (by decide)).trans e1)⟩ b1 b2 (by rw [c3, c2, c1])
  refine rig_both (fun q => ?_) _
  cases q with
  | true =>
    simp only [k2, isBl, evT, ev, slotE, List.getElem?_cons_zero, List.getElem?_cons_succ, someK, truT]
    exact fin cell
  | false =>
    simp only [k2, isBl, evT, ev, slotE, List.getElem?_cons_zero, someK, truT]
    exact fin (Int.ofNat 0)
abbrev wT (E : En) : SL → LH → (Bool → LH → T) → T := fun s L k => ev cW E true s L fun v L => isBl v (fun _ => k true L) fun _ => k false L
abbrev wB (E : En) (nx : KS) (B : Bh) : SL → LH → KS → T := fun s L k => xs bW E s L k ⟨B.rt, nx, k⟩
theorem d1_run {n0 : Nat} (hn : ∀ L' b' d' cs' t2 t3 t4, StD L' b' c d' cs' → cs'.length ≤ n0 → 0 ≤ d' → d' < 2 ^ 31 → L'.c = L.c → (nx [some (.ref 0), some (.int m), t2, t3, t4] L').holds) : ∀ (cs : List Int) (f : Nat) (b d : Int) (s2 s3 s4 : Option EV) (L0 : LH), L0.c = L.c → cs.length ≤ n0 → cs.length < f → StD L0 b c d cs → 0 ≤ d → d < 2 ^ 31 →
    (whileE (wT E) (wB E nx B) nx f [some (.ref 0), some (.int m), s2, s3, s4] L0).holds
  | cs, 0, b, d, s2, s3, s4, L0, hc, hl, hf, h, hd0, hd1 => by cases hf
  | [], f + 1, b, d, s2, s3, s4, L0, hc, hl, hf, h, hd0, hd1 => by
    rw [whileE_s]
    have key := test_run (E := E) (m := m) (s2 := s2) (s3 := s3) (s4 := s4) (k := fun b L => ifB b (fun _ => wB E nx B [some (.ref 0), some (.int m), s2, s3, s4] L fun s L => whileE (wT E) (wB E nx B) nx f s L) fun _ => nx [some (.ref 0), some (.int m), s2, s3, s4] L) h fun L' h' c' => by
      simp only [List.isEmpty_nil, Bool.not_true, Bool.and_false, ifB]
      exact hn L' b d [] _ _ _ h' hl hd0 hd1 (c'.trans hc)
    exact key
  | i :: cs, f + 1, b, d, s2, s3, s4, L0, hc, hl, hf, h, hd0, hd1 => by
    rw [whileE_s]
    have key := test_run (E := E) (m := m) (s2 := s2) (s3 := s3) (s4 := s4) (k := fun b L => ifB b (fun _ => wB E nx B [some (.ref 0), some (.int m), s2, s3, s4] L fun s L => whileE (wT E) (wB E nx B) nx f s L) fun _ => nx [some (.ref 0), some (.int m), s2, s3, s4] L) h fun L' h' c' => by
      cases q : decide (b = 0) && !(i :: cs).isEmpty with
      | false => exact hn L' b d (i :: cs) _ _ _ h' hl hd0 hd1 (c'.trans hc)
      | true =>
        have q2 := body_run (E := E) (m := m) (s2 := s2) (s3 := s3) (s4 := s4) (B := ⟨B.rt, nx, fun s L => whileE (wT E) (wB E nx B) nx f s L⟩) (k := fun s L => whileE (wT E) (wB E nx B) nx f s L) h' hd0 hd1 fun L2 b' d' t3 h2 q0 q1 c2 =>
          d1_run hn cs f b' d' s2 (some t3) s4 L2 ((c2.trans c').trans hc) (Nat.le_of_succ_le hl) (Nat.lt_of_succ_lt_succ hf) h2 q0 q1
        exact q2
    exact key
theorem mod_ok {a j : Int} {k : KV} (hj : 0 < j) (h : ∀ r : Int, 0 ≤ r → r < j → (k (.int r) L).holds) : (binE .mod L (.int a) (.int j) k).holds := by
  simp only [binE, intK]
  cases j with
  | negSucc n => exact absurd hj (by omega)
  | ofNat n =>
    simp only [posI]
    have hn : Nat.beq n 0 = false := by
      cases n with
      | zero => exact absurd hj (by decide)
      | succ n => rfl
    simp only [hn, frI_eq]
    exact h _ (Int.emod_nonneg _ (by omega)) (Int.emod_lt_of_pos _ hj)
theorem fdiv_ok {a j : Int} {k : KV} (hj : 0 < j) (hj2 : j < 2 ^ 30) (h : ∀ r : Int, (k (.int r) L).holds) : (binE .fdiv L (.int a) (.int j) k).holds := by
  simp only [binE, intK]
  cases j with
  | negSucc n => exact absurd hj (by omega)
  | ofNat n =>
    simp only [posI]
    have hn : Nat.beq n 0 = false := by
      cases n with
      | zero => exact absurd hj (by decide)
      | succ n => rfl
    simp only [hn]
    refine small_ok (by omega) (by omega) ?_
    simp only [frI_eq]
    exact h _
theorem d2_run (h : StD L b c d cs) (hm : 0 < m) (hm2 : m < 2 ^ 30) (hr : ∀ L' b' (r : Int), StD L' b' c d cs → 0 ≤ r → r < m → L'.c = L.c → (B.rt (.int r) L').holds) (hn : (nx [some (.ref 0), some (.int m), s2, s3, s4] L).holds) :
    (x d2 E [some (.ref 0), some (.int m), s2, s3, s4] L nx B).holds := by
  simp only [d2, x, ev, slotE, List.getElem?_cons_zero, someK, truT, idxE, h.z, idxO, intK, atE, List.getElem?_cons_succ, cmpE, two, En.self_eq]
  refine rig_both (fun q => ?_) _
  cases q with
  | false => exact hn
  | true =>
    simp only [k2, isBl, xs, x, ev, evs, slotE, List.getElem?_cons_zero, someK, truT, idxE, h.z, idxO, intK, atE, List.getElem?_cons_succ, biE, one, intE]
    refine mod_ok hm fun r r0 r1 => ?_
    simp only [evT, setS_eq, List.set_cons_succ, List.set_cons_zero, ev, slotE, List.getElem?_cons_zero, List.getElem?_cons_succ, someK, truT, idxE, h.z, idxO, intK, atE]
    refine fdiv_ok hm hm2 fun b' => ?_
    simp only [truT, setE, refK, h.z, setO, intK, setI, frcK_eq, List.length_cons, List.length_nil, ev, slotE, List.getElem?_cons_zero, List.getElem?_cons_succ, someK]
    refine putK_of (a := 0) h.full (by have := h.n2; omega) fun L3 f3 n3 c3 e3 o3 => ?_
    exact hr L3 b' r ⟨f3, by rw [n3]; exact h.n2, e3, (o3 1 (by decide)).trans h.l⟩ r0 r1 c3
theorem pow_ok {i : Int} {n : Nat} {k : KV} (hn : n ≤ 1000000) (h0 : 0 ≤ i) (h1 : i < 2 ^ 63) (h : ∀ r : Int, (k (.int r) L).holds) : (binE .pow L (.int i) (.int (.ofNat n)) k).holds := by
  simp only [binE, intK, powI]
  rw [show Nat.ble n 1000000 = true from Nat.ble_eq.mpr hn, show Nat.blt i.natAbs 18446744073709551616 = true from by rw [Nat.blt_eq]; omega]
  simp only [frI_eq]
  exact h _
theorem mul_ok {i j : Int} {k : KV} (h0 : -(2 ^ 100) < i) (h1 : i < 2 ^ 100) (h2 : -(2 ^ 100) < j) (h3 : j < 2 ^ 100) (h : (k (.int (i * j)) L).holds) : (binE .mul L (.int i) (.int j) k).holds := by
  simp only [binE, mulE, intK]
  refine small_ok (by omega) (by omega) (small_ok (by omega) (by omega) ?_)
  simp only [frI_eq]
  exact h
theorem add_ok {i j : Int} {k : KV} (h : (k (.int (i + j)) L).holds) : (binE .add L (.int i) (.int j) k).holds := by
  simp only [binE, addE, intK, frI_eq]
  exact h
theorem d3_run (h : StD L b c d cs) (hd0 : 0 ≤ d) (hd1 : d < 2 ^ 31) (hc0 : 0 ≤ c) (hc1 : c < 2 ^ 41) (hn : ∀ r : Int, 0 ≤ r → r < 2147483629 → (nx [some (.ref 0), some (.int m), some (.int r), s3, s4] L).holds) : (x d3 E [some (.ref 0), some (.int m), s2, s3, s4] L nx B).holds := by
  simp only [d3, x, ev, evs, slotE, List.getElem?_cons_zero, someK, truT, idxE, h.z, idxO, intK, atE, List.getElem?_cons_succ, truT_eta]
  refine mul_ok (by decide) (by decide) (by omega) (by omega) ?_
  refine add_ok (add_ok ?_)
  refine pow_ok (by decide) ?_ ?_ fun r => ?_
  · show 0 ≤ d + 7919 * c + 104729; omega
  · show d + 7919 * c + 104729 < _; omega
  simp only [biE, one, intE, truT]
  refine mod_ok (by decide) fun r r0 r1 => ?_
  simp only [truT, evT, setS_eq, List.set_cons_succ, List.set_cons_zero]
  exact hn r r0 r1
theorem d4_run {mx : Int} (h : StD L b c d cs) (hm : 0 < m) (hx0 : 0 ≤ mx) (hx1 : mx < 2147483629) (hc0 : 0 ≤ c) (hc1 : c < 2 ^ 41) (hr : ∀ r : Int, 0 ≤ r → r < m → (B.rt (.int r) L).holds) : (x d4 E [some (.ref 0), some (.int m), some (.int mx), s3, s4] L nx B).holds := by
  simp only [d4, x, ev, evs, slotE, List.getElem?_cons_zero, someK, truT, idxE, h.z, idxO, intK, atE, List.getElem?_cons_succ, truT_eta]
  refine mul_ok (i := mx) (j := Int.ofNat 48271) (by omega) (by omega) (by decide) (by decide) ?_
  simp only [h.z, List.getElem?_cons_zero, List.getElem?_cons_succ]
  refine mul_ok (i := Int.ofNat 30011) (j := c) (by decide) (by decide) (by omega) (by omega) ?_
  refine add_ok (add_ok ?_)
  refine pow_ok (by decide) ?_ ?_ fun r => ?_
  · show 0 ≤ mx * 48271 + 30011 * c + 29; omega
  · show mx * 48271 + 30011 * c + 29 < _; omega
  simp only [biE, one, intE, truT]
  refine mod_ok (by decide) fun r r0 r1 => ?_
  refine mod_ok hm fun r r0 r1 => ?_
  exact hr r r0 r1
end
end Ev

set_option Elab.async false
set_option linter.all false
set_option maxRecDepth 100000
set_option maxHeartbeats 8000000
/-! EvE15: the draw's contract: some number below what was asked. -/
namespace Ev
open PySem PySem.Spec PyProof.Rows L2
section
variable {E : En} {m b c d : Int} {cs : List Int} {s2 s3 s4 : Option EV} {L : LH} {nx : KS} {B : Bh}
theorem bD_run (h : StD L b c d cs) (hW : cs.length < E.W) (hm : 0 < m) (hm2 : m < 2 ^ 30) (hd0 : 0 ≤ d) (hd1 : d < 2 ^ 31) (hc0 : 0 ≤ c) (hc1 : c + 1 < 2 ^ 41)
    (hr : ∀ L' b' d' cs' (r : Int), StD L' b' (c + 1) d' cs' → cs'.length ≤ cs.length → 0 ≤ d' → d' < 2 ^ 31 → 0 ≤ r → r < m → L'.c = L.c → (B.rt (.int r) L').holds) :
    (xs bD E [some (.ref 0), some (.int m), s2, s3, s4] L nx B).holds := by
  rw [bD, xs]
  refine d0_run h fun L1 h1 c1 => ?_
  rw [xs, d1, x]
  refine d1_run (n0 := cs.length) (L := L) (fun L2 b' d' cs' t2 t3 t4 h2 hl q0 q1 c2 => ?_) cs E.W b d _ _ _ L1 c1 (Nat.le_refl _) hW h1 hd0 hd1
  rw [xs]
  refine d2_run h2 hm hm2 (fun L3 b3 r h3 r0 r1 c3 => hr L3 b3 d' cs' r h3 hl q0 q1 r0 r1 (c3.trans c2)) ?_
  rw [xs]
  refine d3_run h2 q0 q1 (by omega) hc1 fun r r0 r1 => ?_
  rw [xs]
  refine d4_run h2 hm r0 r1 (by omega) hc1 fun r r0 r1 => ?_
  exact hr L2 b' d' cs' r h2 hl q0 q1 r0 r1 c2
end
/-- what is kept of the stream: z its list, l its numbers; base: how many draws were before the run began -/
def Jd (z l : Addr) (base : Nat) (c : Nat) (H : Hp) : Prop := z ≠ l ∧ ∃ (b q d : Int) (cs : List Int), H z = some (.lst [.ref l, .int b, .int q, .int d]) ∧ H l = some (.lst (cs.map .int)) ∧ cs.length ≤ 63 ∧ 0 ≤ d ∧ d < 2 ^ 31 ∧ 0 ≤ q ∧ q ≤ (base + c : Nat)
def Dof (K : PySem.W.Frag) (fa : Nat → Addr) (kd : Addr → List (EV × EV) → Prop) (z l : Addr) (base : Nat) : Gd := ⟨K, fa, z, [z, l], Jd z l base, kd⟩
theorem Dof_ok {K : PySem.W.Frag} {fa kd z l base} : (Dof K fa kd z l base).Ok where
  keep := fun c H H' ⟨hn, b, q, d, cs, h1, h2, h3⟩ k => ⟨hn, b, q, d, cs, (k z (by simp [Dof])).trans h1, (k l (by simp [Dof])).trans h2, h3⟩
  there := fun c H b ⟨hn, b', q, d, cs, h1, h2, h3⟩ k => by
    have k : b ∈ [z, l] := k
    simp only [List.mem_cons, List.not_mem_nil, or_false] at k
    rcases k with rfl | rfl
    · rw [h1]; simp
    · rw [h2]; simp
/-- the surroundings without a stream -/
def D0 (K : PySem.W.Frag) (fa : Nat → Addr) (kd : Addr → List (EV × EV) → Prop) : Gd := ⟨K, fa, 0, [], fun _ _ => True, kd⟩
theorem D0_ok {K : PySem.W.Frag} {fa kd} : (D0 K fa kd).Ok := ⟨fun _ _ _ _ _ => trivial, fun _ _ _ _ h => by cases h⟩
def TbD : Tb := ⟨[], [], []⟩
def EnD : En := ⟨100, [], fun _ _ _ _ => T.fail⟩
theorem spw {D : Gd} {μ : List Addr} {H : Hp} {i : Int} {u : V} (h : RV D μ H (.int i) u) : u = .int i := by cases h; rfl
theorem rvs_ints {D : Gd} {μ : List Addr} {H : Hp} : ∀ {cs : List Int} {us : List V}, RVs D μ H (cs.map .int) us → us = cs.map .int
  | [], _, .nil => rfl
  | i :: cs, _, .cons a r => by rw [rvs_ints r, spw a]; rfl
theorem ints_rvs {D : Gd} {μ : List Addr} {H : Hp} : ∀ {cs : List Int}, RVs D μ H (cs.map .int) (cs.map V.int)
  | [] => .nil
  | i :: cs => .cons (.int i) ints_rvs
theorem two_get {α : Type} {a b : α} {i : Nat} {x : α} (h : [a, b][i]? = some x) : (i = 0 ∧ x = a) ∨ (i = 1 ∧ x = b) := by
  match i, h with
  | 0, h => simp at h; exact .inl ⟨rfl, h.symm⟩
  | 1, h => simp at h; exact .inr ⟨rfl, h.symm⟩
  | _ + 2, h => simp at h
theorem Rep.lst {D : Gd} {μ : List Addr} {L : LH} {H : Hp} (R : Rep D μ L H) {i : Nat} {a : Addr} {xs : List EV} (hi : μ[i]? = some a) (hg : L.get i = some (.lst xs)) : ∃ ys, H a = some (.lst ys) ∧ RVs D μ H xs ys := by
  obtain ⟨o, e, r⟩ := R.ob i a hi
  rw [hg] at e
  cases e
  exact r
def Ld (b q d : Int) (cs : List Int) : LH := ⟨2, .node (.lst [.ref 1, .int b, .int q, .int d]) (.node (.lst (cs.map .int)) .nil .nil) .nil, 0⟩
theorem Ld_full {b q d cs} : (Ld b q d cs).Full := by
  show HT.Full _ 2
  simp [Ld, HT.Full]
theorem Ld_st {b q d cs} : StD (Ld b q d cs) b q d cs := ⟨Ld_full, Nat.le_refl _, rfl, rfl⟩
/-- the draw's end -/
def rtD (m q : Int) : KV := fun v L => .leaf (∃ r : Int, v = .int r ∧ 0 ≤ r ∧ r < m ∧ ∃ b d cs, StD L b (q + 1) d cs ∧ cs.length ≤ 63 ∧ 0 ≤ d ∧ d < 2 ^ 31)
theorem draw_ok {W : Wd} {K : PySem.W.Frag} {fa kd z l base} (hb : base < 2 ^ 39) (hK : W.K = K) (free : ∀ T, (T = "int" ∨ T = "bool" ∨ T = "str" ∨ T = "list" ∨ T = "tuple" ∨ T = "dict" ∨ T = "abs" ∨ T = "len" ∨ T = "isinstance" ∨ T = "all" ∨ T = "any" ∨ T = "max" ∨ T = "min" ∨ T = "range" ∨ T = "zip" ∨ T = "enumerate") → W.mg (Str.ofString T) = none)
    {f : Addr} {fd : FuncData} {nm qual : Str} {params : Arguments} {body : List Stmt} {scope : Scope} (FD : FunD W.K nm qual params body scope [] [] f fd) (FS : FnScope nD ["stream", "many"] scope)
    (ok : okSts bD TbD nD scope (fun _ => true) body = true) (k : Nat) : FnOk W.P W.w W.K W.mg W.base CX0 (k + 1) f fd ["stream", "many"] (spDraw (Dof K fa kd z l base)) := by
  have WO : WOk (D0 K fa fun _ _ => False) EnD k W TbD := ⟨hK, D0_ok, fun X h1 h2 h3 h4 => kdGet W.w (fun a ps (h : False) => h.elim) X (h3.trans hK) h2, free, fun i x h => by simp [TbD] at h, fun i x n h => by simp [TbD] at h⟩
  refine FD.ok FS (fun vs H Q E h => h.1) fun cdv A outer s H us Q E hr hsp => ?_
  refine ⟨txs (D0 K fa fun _ _ => False) EnD bD, PSs.nox (good_Ss WO bD nD scope (fun _ => true) _ body ⟨rfl, rfl, rfl, rfl, rfl, rfl, rfl, FS.nd, rfl, rfl, hr⟩ rfl ok), ?_⟩
  obtain ⟨hl, μ, L, vs, kk, R, rv, hk, p⟩ := hsp
  -- what was handed
  unfold drawE pairK at hk
  match vs, rv, hk with
  | [], _, hk => exact hk.elim
  | [_], _, hk => exact hk.elim
  | _ :: _ :: _ :: _, _, hk => exact hk.elim
  | [v, w], .cons rz (.cons rn .nil), hk =>
    have hk : (opqK v fun _ => intK w fun i => drawI i L kk).holds := hk
    cases v with
    | opq =>
      cases w with
      | int i =>
        have hk : (drawI i L kk).holds := hk
        cases i with
        | negSucc n => exact hk.elim
        | ofNat n =>
          unfold drawI at hk
          simp only at hk
          cases e0 : Nat.beq n 0 with
          | true => rw [e0] at hk; exact hk.elim
          | false =>
            rw [e0] at hk
            simp only at hk
            unfold drawC at hk
            cases e1 : Nat.blt L.c 1099511627776 with
            | false => rw [e1] at hk; exact hk.elim
            | true =>
              rw [e1] at hk
              simp only at hk
              cases e2 : Nat.blt n 1073741824 with
              | false => rw [e2] at hk; exact hk.elim
              | true =>
                rw [e2] at hk
                simp only [frN_eq] at hk
                have hk : ∀ r, r < n → (kk (.int (.ofNat r)) ⟨L.n, L.t, L.c + 1⟩).holds := hk
                have hn : 0 < n := by
                  cases n with
                  | zero => cases e0
                  | succ n => omega
                have hc : L.c < 2 ^ 40 := by rw [Nat.blt_eq] at e1; exact e1
                have hn2 : n < 2 ^ 30 := by rw [Nat.blt_eq] at e2; exact e2
                cases rz
                cases rn
                obtain ⟨zl, b, q, d, cs, hz, hlz, hcs, hd0, hd1, hq0, hq1⟩ := R.J
                have R0 : Rep (D0 K fa fun _ _ => False) [z, l] (Ld b q d cs) H := by
                  refine ⟨rfl, by simp [zl], fun i a hi => ?_, fun i o hi => ?_, fun a _ => by simp [D0], trivial⟩
                  · rcases two_get hi with ⟨rfl, rfl⟩ | ⟨rfl, rfl⟩
                    · exact ⟨_, rfl, _, hz, .cons (.ref rfl) (.cons (.int _) (.cons (.int _) (.cons (.int _) .nil)))⟩
                    · exact ⟨_, rfl, _, hlz, ints_rvs⟩
                  · match i, hi with
                    | 0, _ => exact Nat.zero_lt_two
                    | 1, _ => exact Nat.one_lt_two
                    | i + 2, hi =>
                      exfalso
                      simp only [Ld, LH.get, HT.get] at hi
                      cases e : Nat.beq (Nat.mod (i + 1) 2) 0 <;> rw [e] at hi
                      · simp [HT.get] at hi
                      · simp only [cond_true] at hi
                        have : Nat.div (i + 1) 2 = (i + 1) / 2 := rfl
                        cases hj : Nat.div (i + 1) 2 with
                        | zero =>
                          have e' := Nat.eq_of_beq_eq_true e
                          have e' : (i + 1) % 2 = 0 := e'
                          omega
                        | succ j =>
                          rw [hj] at hi
                          simp only [HT.get] at hi
                          cases e3 : Nat.beq (Nat.mod j 2) 0 <;> rw [e3] at hi <;> simp [HT.get] at hi
                refine ⟨[z, l], [some (.ref 0), some (.int (Int.ofNat n)), none, none, none], Ld b q d cs, (fun _ _ => .fail), ⟨rtD (Int.ofNat n) q, noS, noS⟩, ?_, R0, ?_, ?_⟩
                · exact slots_RS (m := 3) (vs := [.ref 0, .int (Int.ofNat n)]) (us := [.ref z, .int (Int.ofNat n)]) (.cons (.ref rfl) (.cons (.int _) .nil))
                · refine bD_run (Ld_st) (by show _ < 100; omega) (by show (0 : Int) < (n : Int); omega) (by show (n : Int) < _; omega) hd0 hd1 hq0 (by omega) fun L' b' d' cs' r h' hl' q0 q1 r0 r1 hc' => ?_
                  exact ⟨r, rfl, r0, r1, b', d', cs', h', by omega, q0, q1⟩
                · refine ⟨fun s' L' μ' H' σ' e R' rs' h => h.elim, fun v L' μ' H' u e R' ru h => ?_, fun s' L' μ' H' σ' e R' rs' h => h.elim, fun s' L' μ' H' σ' e R' rs' h => h.elim⟩
                  obtain ⟨r, rfl, r0, r1, b', d', cs', h', hl', q0, q1⟩ := h
                  cases ru
                  obtain ⟨m, rfl⟩ : ∃ m : Nat, r = m := ⟨r.toNat, by omega⟩
                  obtain ⟨ys, y1, y2⟩ := R'.lst (i := 0) (e.at rfl) h'.z
                  obtain ⟨ws, w1, w2⟩ := R'.lst (i := 1) (e.at rfl) h'.l
                  have ew := rvs_ints w2
                  subst ew
                  have ey : ys = [.ref l, .int b', .int (q + 1), .int d'] := by
                    cases y2 with
                    | cons a y2 =>
                      cases y2 with
                      | cons a2 y2 =>
                        cases y2 with
                        | cons a3 y2 =>
                          cases y2 with
                          | cons a4 y2 =>
                            cases y2
                            cases a2
                            cases a3
                            cases a4
                            cases a with
                            | ref ha =>
                              have : μ'[1]? = some l := e.at rfl
                              rw [this] at ha
                              cases ha
                              rfl
                  subst ey
                  have kp : ∀ b o, H b = some o → b ∉ [z, l] → H' b = some o := fun b o hb hn => e.keep b o hb hn (by simp [D0])
                  have ext : Ext (Dof K fa kd z l base) μ H μ H' := ⟨⟨[], by simp⟩, e.tup, fun b o hb _ hn => kp b o hb hn, e.frz, fun b hb => .inl hb⟩
                  have hkr := hk m (by have : (m : Int) < (n : Int) := r1; omega)
                  refine p _ ⟨L.n, L.t, L.c + 1⟩ μ H' _ ext ⟨R.len, R.nd, fun i a hi => ?_, R.top, R.rs, ⟨zl, b', q + 1, d', cs', y1, w1, hl', q0, q1, by omega, by show q + 1 ≤ ((base + (L.c + 1) : Nat) : Int); omega⟩⟩ (.int _) hkr
                  obtain ⟨o, o1, o2⟩ := R.ob i a hi
                  exact ⟨o, o1, o2.mono ext fun u hu => kp a u hu (R.rs a (List.mem_of_getElem? hi))⟩
      | _ => exact hk.elim
    | _ => exact hk.elim
end Ev

set_option Elab.async false
set_option linter.all false
set_option maxRecDepth 100000
set_option maxHeartbeats 8000000
/-! EvE16: the law: its stream; parts that begin with no objects of ours; loops of draws. -/
namespace Ev
open PySem PySem.Spec PyProof.Rows L2
/-! ### the stream is made -/
def spStr (K : PySem.W.Frag) : Sp := fun vs H Q _ => ∃ (a : Addr) (ns : List Int), vs = [.ref a] ∧ SqL K H a (ns.map V.int) ∧ ns.length ≤ 63 ∧ ∀ (z l : Addr) (H' : Hp), Jd z l 0 0 H' → Q (.ref z) H'
theorem stream_ok {W : Wd} {f : Addr} {fd : FuncData} {nm qual : Str} {params : Arguments} {body : List Stmt} {scope : Scope} (FD : FunD W.K nm qual params body scope [] [] f fd) (FS : FnScope ["script"] ["script"] scope)
    {p1 p2 p3 p4 p5 p6 p7 p8 : Pos} {k1 k2 k3} (hb : body = [.Return (some (.List [.Call (.Name "list" p1) [.Name "script" p2] [] p3, .Constant (.int 0) k1 p4, .Constant (.int 0) k2 p5, .Constant (.int 17) k3 p6] p7)) p8])
    (hv : visB scope "script" = true) (hg : gloB scope "list" = true) (hm : W.mg "list" = none) (k : Nat) : FnOk W.P W.w W.K W.mg W.base CX0 (k + 1) f fd ["script"] (spStr W.K) := by
  refine FD.ok FS (fun vs H Q E h => ?_) fun cdv A outer s H us Q E hr hsp => ?_
  · obtain ⟨a, ns, rfl, _⟩ := h
    rfl
  · subst hb
    refine ⟨_, PSs.nox (pss_one (ps_ret (pe_lst (pa_cons (pe_callTy call_list_of (by unfold gloB at hg; simp only [Bool.and_eq_true, decide_eq_true_eq] at hg; exact hg.1) hm Pv.boot_list (pa_cons (pe_var (i := 0) rfl (vis_of hv)) pa_nil)) (pa_cons pe_int (pa_cons pe_int (pa_cons pe_int pa_nil))))))), ?_⟩
    obtain ⟨a, ns, rfl, hS, hn, hQ⟩ := hsp
    refine ⟨_, rfl, a, _, rfl, .inl hS, fun l hl => ⟨by show 4 ≤ sizeLine; decide, fun z hz => ?_⟩⟩
    have zl : z ≠ l := fun e => by subst e; rw [upd_same] at hz; cases hz
    exact hQ z l _ ⟨zl, 0, 0, 17, ns, upd_same, by rw [upd_ne (Ne.symm zl), upd_same], hn, by decide, by decide, by decide, by decide⟩
/-! ### D's parts that the values hang on -/
structure Same4 (D D' : Gd) : Prop where
  K : D.K = D'.K
  fa : D.fa = D'.fa
  z : D.z = D'.z
  kd : D.kd = D'.kd
section
variable {D D' : Gd} {μ : List Addr} {H : Hp}
mutual
theorem RV.cast (e : Same4 D D') : ∀ {v : EV} {u : V}, RV D μ H v u → RV D' μ H v u
  | _, _, .non => .non
  | _, _, .bl b => .bl b
  | _, _, .int i => .int i
  | _, _, .str s => .str s
  | _, _, .tup a r => .tup (by rw [← e.K]; exact a) (RVs.cast e r)
  | _, _, .ref h => .ref h
  | _, _, .fn i => by rw [e.fa]; exact .fn i
  | _, _, .ty h => .ty h
  | _, _, .opq => by rw [e.z]; exact .opq
  | _, _, .kd h => .kd (by rw [← e.kd]; exact h)
  | _, _, .vl h r => .vl h (RVs.cast e r)
theorem RVs.cast (e : Same4 D D') : ∀ {vs : List EV} {us : List V}, RVs D μ H vs us → RVs D' μ H vs us
  | _, _, .nil => .nil
  | _, _, .cons a r => .cons (a.cast e) (r.cast e)
end
theorem RS.cast (e : Same4 D D') {s : SL} {σ : L2.St} (r : RS D μ H s σ) : RS D' μ H s σ := ⟨r.1, fun i v h => let ⟨u, a, b⟩ := r.2 i v h; ⟨u, a, b.cast e⟩⟩
end
theorem same4 {K : PySem.W.Frag} {fa kd z l b b'} : Same4 (Dof K fa kd z l b) (Dof K fa kd z l b') := ⟨rfl, rfl, rfl, rfl⟩
/-! ### a part's end: the slots that are kept -/
def keepS : SL → List Bool → SL
  | [], _ => []
  | x :: r, bs => match bs with
    | [] => none :: keepS r []
    | b :: bs => (match b with
      | true => x
      | false => none) :: keepS r bs
def noRefO (o : Option EV) : Bool := match o with
  | some v => noRef v
  | none => true
def noRefS : SL → Bool
  | [] => true
  | x :: r => match noRefO x with
    | true => noRefS r
    | false => false
theorem keepS_get : ∀ {s : SL} {bs : List Bool} {i : Nat} {v : EV}, (keepS s bs)[i]? = some (some v) → s[i]? = some (some v)
  | [], _, i, v, h => by simp [keepS] at h
  | x :: r, [], i, v, h => by
    cases i with
    | zero => simp [keepS] at h
    | succ i => simp only [keepS, List.getElem?_cons_succ] at h ⊢; exact keepS_get h
  | x :: r, b :: bs, i, v, h => by
    cases i with
    | zero =>
      simp only [keepS, List.getElem?_cons_zero] at h ⊢
      cases b with
      | true => exact h
      | false => simp at h
    | succ i => simp only [keepS, List.getElem?_cons_succ] at h ⊢; exact keepS_get h
theorem keepS_len : ∀ {s : SL} {bs : List Bool}, (keepS s bs).length = s.length
  | [], _ => rfl
  | x :: r, [] => by simp [keepS, keepS_len]
  | x :: r, b :: bs => by simp [keepS, keepS_len]
theorem noRefS_get : ∀ {s : SL} {i : Nat} {v : EV}, noRefS s = true → s[i]? = some (some v) → noRef v = true
  | [], i, v, _, h => by simp at h
  | x :: r, i, v, hs, h => by
    unfold noRefS at hs
    cases e : noRefO x with
    | false => rw [e] at hs; cases hs
    | true =>
      rw [e] at hs
      cases i with
      | zero =>
        simp only [List.getElem?_cons_zero, Option.some.injEq] at h
        subst h
        exact e
      | succ i => exact noRefS_get hs (by simpa using h)
theorem RS.kept {D : Gd} {μ : List Addr} {H : Hp} {s : SL} {σ : L2.St} (r : RS D μ H s σ) {bs : List Bool} (h : noRefS (keepS s bs) = true) : RS D [] H (keepS s bs) σ :=
  ⟨keepS_len.trans r.1, fun i v hv => let ⟨u, a, b⟩ := r.2 i v (keepS_get hv); ⟨u, a, b.nor (noRefS_get h hv)⟩⟩
def L00 : LH := ⟨0, .nil, 0⟩
theorem rep00 {D : Gd} {H : Hp} (J : D.J 0 H) : Rep D [] L00 H := ⟨rfl, .nil, fun i a h => (by simp at h), fun i o h => (by cases h), fun a h => (by cases h), J⟩
def andB (a b : Bool) : Bool := match a with
  | true => b
  | false => false
theorem andB_of {a b : Bool} (h : andB a b = true) : a = true ∧ b = true := by cases a <;> cases b <;> first | exact ⟨rfl, rfl⟩ | cases h
/-- the end of a part: of the kept slots, Q; not too many draws -/
def nxC (bs : List Bool) (Q : SL → Bool) : KS := fun s L => match andB (andB (noRefS (keepS s bs)) (Q (keepS s bs))) (Nat.ble L.c 1048576) with
  | true => .ok
  | false => .fail
def rtC : KV := fun v _ => match v with
  | .bl b => (match b with
    | true => .ok
    | false => .fail)
  | _ => .fail
theorem nxC_of {bs : List Bool} {Q : SL → Bool} {s : SL} {L : LH} (h : (nxC bs Q s L).holds) : noRefS (keepS s bs) = true ∧ Q (keepS s bs) = true ∧ L.c ≤ 1048576 := by
  unfold nxC at h
  cases e : andB (andB (noRefS (keepS s bs)) (Q (keepS s bs))) (Nat.ble L.c 1048576) with
  | false => rw [e] at h; exact h.elim
  | true =>
    obtain ⟨h1, h2⟩ := andB_of e
    obtain ⟨h3, h4⟩ := andB_of h1
    exact ⟨h3, h4, Nat.le_of_ble_eq_true h2⟩
theorem rtC_of {v : EV} {L : LH} (h : (rtC v L).holds) : v = .bl true := by
  cases v with
  | bl b => cases b <;> first | rfl | exact h.elim
  | _ => exact h.elim
/-- the state between two parts -/
def Cut (K : PySem.W.Frag) (fa : Nat → Addr) (kd : Addr → List (EV × EV) → Prop) (z l : Addr) (t : Nat) (s : SL) (σ : L2.St) (H : Hp) : Prop := ∃ base, base ≤ t * 1048576 ∧ RS (Dof K fa kd z l base) [] H s σ ∧ Jd z l base 0 H
section
variable {K : PySem.W.Frag} {fa : Nat → Addr} {kd : Addr → List (EV × EV) → Prop} {z l : Addr} {base t : Nat} {E : En} {W : Ends} {σ : L2.St} {H : Hp} {s0 : SL} {bs : List Bool} {Q : SL → Bool}
theorem cut_nx {μ : List Addr} {L : LH} {s : SL} (hb : base ≤ t * 1048576) (R : Rep (Dof K fa kd z l base) μ L H) (rs : RS (Dof K fa kd z l base) μ H s σ) (h : (nxC bs Q s L).holds) : ∃ s', Q s' = true ∧ Cut K fa kd z l (t + 1) s' σ H := by
  obtain ⟨h1, h2, h3⟩ := nxC_of h
  refine ⟨_, h2, base + L.c, by omega, (rs.kept h1).cast same4, ?_⟩
  obtain ⟨zl, b, q, d, cs, a1, a2, a3, a4, a5, a6, a7⟩ := R.J
  exact ⟨zl, b, q, d, cs, a1, a2, a3, a4, a5, a6, a7⟩
/-- a part of statements, from slots alone: run by the kernel -/
theorem part_ok {m : MSs} (hb : base ≤ t * 1048576) (hs : RS (Dof K fa kd z l base) [] H s0 σ) (hJ : Jd z l base 0 H) (hm : (xs m E s0 L00 (nxC bs Q) ⟨rtC, noS, noS⟩).chk = true)
    (hn : ∀ s' σ' H', Q s' = true → Cut K fa kd z l (t + 1) s' σ' H' → W.nx σ' H') (hr : ∀ H', W.rt (.bl true) H') : txs (Dof K fa kd z l base) E m W σ H := by
  refine ⟨[], s0, L00, _, _, hs, rep00 hJ, T.chk_ok hm, fun s1 L1 μ1 H1 σ1 e1 R1 rs1 h1 => ?_, fun v L1 μ1 H1 u e1 R1 r1 h1 => ?_, fun s1 L1 μ1 H1 σ1 e1 R1 rs1 h1 => h1.elim, fun s1 L1 μ1 H1 σ1 e1 R1 rs1 h1 => h1.elim⟩
  · obtain ⟨s', q, c⟩ := cut_nx hb R1 rs1 h1
    exact hn s' σ1 H1 q c
  · have := rtC_of (L := L1) h1
    subst this
    cases r1
    exact hr H1
/-- one statement likewise -/
theorem part1_ok {m : MS} (hb : base ≤ t * 1048576) (hs : RS (Dof K fa kd z l base) [] H s0 σ) (hJ : Jd z l base 0 H) (hm : (x m E s0 L00 (nxC bs Q) ⟨rtC, noS, noS⟩).chk = true)
    (hn : ∀ s' σ' H', Q s' = true → Cut K fa kd z l (t + 1) s' σ' H' → W.nx σ' H') (hr : ∀ H', W.rt (.bl true) H') : tx (Dof K fa kd z l base) E m W σ H := by
  refine ⟨[], s0, L00, _, _, hs, rep00 hJ, T.chk_ok hm, fun s1 L1 μ1 H1 σ1 e1 R1 rs1 h1 => ?_, fun v L1 μ1 H1 u e1 R1 r1 h1 => ?_, fun s1 L1 μ1 H1 σ1 e1 R1 rs1 h1 => h1.elim, fun s1 L1 μ1 H1 σ1 e1 R1 rs1 h1 => h1.elim⟩
  · obtain ⟨s', q, c⟩ := cut_nx hb R1 rs1 h1
    exact hn s' σ1 H1 q c
  · have := rtC_of (L := L1) h1
    subst this
    cases r1
    exact hr H1
/-- a part whose loop goes on by continue, too -/
theorem partC_ok {m : MSs} (hb : base ≤ t * 1048576) (hs : RS (Dof K fa kd z l base) [] H s0 σ) (hJ : Jd z l base 0 H) (hm : (xs m E s0 L00 (nxC bs Q) ⟨rtC, noS, nxC bs Q⟩).chk = true)
    (hn : ∀ s' σ' H', Q s' = true → Cut K fa kd z l (t + 1) s' σ' H' → W.nx σ' H') (hc : ∀ s' σ' H', Q s' = true → Cut K fa kd z l (t + 1) s' σ' H' → W.ct σ' H') (hr : ∀ H', W.rt (.bl true) H') : txs (Dof K fa kd z l base) E m W σ H := by
  refine ⟨[], s0, L00, _, _, hs, rep00 hJ, T.chk_ok hm, fun s1 L1 μ1 H1 σ1 e1 R1 rs1 h1 => ?_, fun v L1 μ1 H1 u e1 R1 r1 h1 => ?_, fun s1 L1 μ1 H1 σ1 e1 R1 rs1 h1 => h1.elim, fun s1 L1 μ1 H1 σ1 e1 R1 rs1 h1 => ?_⟩
  · obtain ⟨s', q, c⟩ := cut_nx hb R1 rs1 h1
    exact hn s' σ1 H1 q c
  · have := rtC_of (L := L1) h1
    subst this
    cases r1
    exact hr H1
  · obtain ⟨s', q, c⟩ := cut_nx hb R1 rs1 h1
    exact hc s' σ1 H1 q c
end
/-! ### terms that are chosen late -/
section
variable {X : Cx}
theorem PS.ex {α : Type} {st : Stmt} {t : α → TS} (h : ∀ a, PS X st (t a)) : PS X st fun W σ H => ∃ a, t a W σ H := ⟨fun pins s σ H W I ⟨a, q⟩ => (h a).run pins s σ H W I q⟩
theorem PSs.ex {α : Type} {st : List Stmt} {t : α → TS} (h : ∀ a, PSs X st (t a)) : PSs X st fun W σ H => ∃ a, t a W σ H := ⟨fun pins s σ H W I ⟨a, q⟩ => (h a).run pins s σ H W I q⟩
theorem PS.exP {α : Type} {P : α → Prop} {st : Stmt} {t : α → TS} (h : ∀ a, P a → PS X st (t a)) : PS X st fun W σ H => ∃ a, P a ∧ t a W σ H := ⟨fun pins s σ H W I ⟨a, p, q⟩ => (h a p).run pins s σ H W I q⟩
theorem PSs.exP {α : Type} {P : α → Prop} {st : List Stmt} {t : α → TS} (h : ∀ a, P a → PSs X st (t a)) : PSs X st fun W σ H => ∃ a, P a ∧ t a W σ H := ⟨fun pins s σ H W I ⟨a, p, q⟩ => (h a p).run pins s σ H W I q⟩
end
end Ev

set_option Elab.async false
set_option linter.all false
set_option maxRecDepth 100000
set_option maxHeartbeats 8000000
/-! EvE17: the module's facts, taken from what the head observes; blocks put together. -/
namespace Ev
open PySem PySem.Spec PyProof.Rows L2
/-! ### a block, then another thing -/
def txsK (D : Gd) (E : En) (m : MSs) (u : TS) : TS := fun W σ H => txs D E m { W with nx := u W } σ H
theorem good_Sk {D : Gd} {E : En} {rm : Nat} {W : Wd} {T : Tb} (WO : WOk D E rm W T) {N : List Str} {sc : Scope} {fc : Str → Bool} {X : Cx} (C : CK W rm N sc fc X) (hx : X.xe = (fun _ _ => False)) {rest : List Stmt} {u : TS} (hr : PSs X rest u) :
    ∀ (m : MSs) (sts : List Stmt), okSts m T N sc fc sts = true → PSs X (sts ++ rest) (txsK D E m u)
  | .nil, sts, h => by
    unfold okSts at h
    cases sts with
    | nil => exact PSs.imp hr fun V σ H ⟨μ, s, L, nx, B, rs, R, hk, p⟩ => p.nx s L μ H σ Ext.refl R rs hk
    | cons _ _ => cases h
  | .cons a r, sts, h => by
    unfold okSts at h
    split at h
    · cases h
    · simp only [Bool.and_eq_true] at h
      refine PSs.imp (pss_cons (good_S WO a _ _ _ _ _ C hx h.1) (good_Sk WO C hx hr r _ h.2)) fun V σ H ⟨μ, s, L, nx, B, rs, R, hk, p⟩ => ?_
      exact ⟨μ, s, L, _, B, rs, R, hk, fun s1 L1 μ1 H1 σ1 e1 R1 rs1 h1 => ⟨μ1, s1, L1, nx, B, rs1, R1, h1, p.mono e1⟩, p.rt, p.bk, p.ct⟩
/-! ### a slot that nothing is said of -/
theorem RS.dead {D : Gd} {μ : List Addr} {H : Hp} {s : SL} {σ : L2.St} (r : RS D μ H s σ) {i : Nat} {v : Option V} (h : s[i]? = some none) : RS D μ H s (σ.set i v) := by
  refine ⟨by rw [List.length_set]; exact r.1, fun j w hj => ?_⟩
  have hij : i ≠ j := fun e => by subst e; rw [h] at hj; cases hj
  rw [List.getElem?_set_ne hij]
  exact r.2 j w hj
/-! ### calls with names -/
theorem FunD.kbn {K : PySem.W.Frag} {x qual : Str} {params : Arguments} {body : List Stmt} {scope : Scope} {kws : List (Str × V)} {f : Addr} {fd : FuncData} {ps ks : List Str} {ix : List Nat} {n : Nat} (F : FunD K x qual params body scope [] kws f fd)
    (h : ∀ (kV doc pm : Value) (an : Option Addr) (cdv ct : Value) (us ws : List Value), us.length = n → ws.length = ks.length → bindArgs (PySem.W.fnOf x qual params body scope .none kV doc pm an cdv ct) ⟨us, ks.zip ws⟩ = pure (ps.zip (pickL (us ++ ws) ix))) :
    KBn K fd ps n ks (fun us ws => pickL (us ++ ws) ix) (fun us ws => pickL (us ++ ws) ix) := by
  obtain ⟨oc, od, dV, kV, doc, pm, an, cdv, ct, osl, rfl, lk, hcd, hD, hK⟩ := F.ex
  rcases hD with ⟨_, rfl⟩ | ⟨e, _⟩
  · exact ⟨fun s us ws _ h1 h2 => .of_eq (h kV doc pm an cdv ct us ws h1 h2), fun r1 r2 => Vals_pick (r1.append r2) ix⟩
  · exact absurd rfl e
/-! ### the module's constants -/
def keyS (p : EV × EV) : Str := match p.1 with
  | .str t => toS t
  | _ => ⟨#[]⟩
def isKd (v : EV) : Bool := match v with
  | .kd _ => true
  | _ => false
def kps (v : EV) : List (EV × EV) := match v with
  | .kd ps => ps
  | _ => []
/-- the tables of the module: where, their keys -/
def tabsOf : List Str → List EV → List He.Tab
  | [], _ => []
  | x :: xs, vs => match vs with
    | [] => []
    | v :: vs => match isKd v with
      | true => (fun K => He.ga K x, (kps v).map keyS) :: tabsOf xs vs
      | false => tabsOf xs vs
def glB (K : PySem.W.Frag) (x : Str) (v : EV) : Bool := match isKd v with
  | true => decide (PySem.W.nsIn K mainGlobals x = some (some (.ref (He.ga K x)))) && kdB K (He.ga K x) (kps v)
  | false => match PySem.W.nsIn K mainGlobals x with
    | some (some u) => mvB K v u
    | _ => false
def glsB (K : PySem.W.Frag) : List Str → List EV → Bool
  | [], _ => true
  | x :: xs, vs => match vs with
    | [] => false
    | v :: vs => glB K x v && !(x == ("__debug__" : Str)) && glsB K xs vs
def freeN : List Str := ["int", "bool", "str", "list", "tuple", "dict", "abs", "len", "isinstance", "all", "any", "max", "min", "range", "zip", "enumerate"]
theorem glsB_at {K : PySem.W.Frag} : ∀ {xs : List Str} {vs : List EV} {i : Nat} {x : Str}, glsB K xs vs = true → xs[i]? = some x → ∃ v, vs[i]? = some v ∧ glB K x v = true ∧ (x == ("__debug__" : Str)) = false
  | [], _, i, x, _, h => by simp at h
  | y :: xs, [], i, x, h, _ => by simp [glsB] at h
  | y :: xs, v :: vs, 0, x, h, hx => by
    simp only [glsB, Bool.and_eq_true, Bool.not_eq_true'] at h
    simp only [List.getElem?_cons_zero, Option.some.injEq] at hx
    subst hx
    exact ⟨v, rfl, h.1.1, h.1.2⟩
  | y :: xs, v :: vs, i + 1, x, h, hx => by
    simp only [glsB, Bool.and_eq_true] at h
    exact glsB_at (i := i) h.2 (by simpa using hx)
theorem tabs_mem : ∀ {xs : List Str} {vs : List EV} {i : Nat} {x : Str} {v : EV}, xs[i]? = some x → vs[i]? = some v → isKd v = true → ((fun K => He.ga K x, (kps v).map keyS) : He.Tab) ∈ tabsOf xs vs
  | [], _, i, x, v, h, _, _ => by simp at h
  | y :: xs, [], i, x, v, _, h, _ => by simp at h
  | y :: xs, w :: vs, 0, x, v, h, h2, h3 => by
    simp only [List.getElem?_cons_zero, Option.some.injEq] at h h2
    subst h h2
    simp only [tabsOf, h3]
    exact List.mem_cons_self
  | y :: xs, w :: vs, i + 1, x, v, h, h2, h3 => by
    have := tabs_mem (i := i) (xs := xs) (vs := vs) (by simpa using h) (by simpa using h2) h3
    simp only [tabsOf]
    split
    · exact List.mem_cons_of_mem _ this
    · exact this
theorem tab_in {fa : List He.Fa} {fn : List He.DefD} {ts : List He.Tab} {w : World} {K : PySem.W.Frag} (c : He.SaysT fa fn ts w K) {t : He.Tab} (h : t ∈ ts) : ∃ es n, KDict K w (t.1 K) es n := by
  obtain ⟨i, hi⟩ := List.getElem?_of_mem h
  exact c.tab i hi
theorem fact_in {fa : List He.Fa} {fn : List He.DefD} {K : PySem.W.Frag} (c : He.SaysD fa fn K) {f : He.Fa} (h : f ∈ fa) : f.ok K = true := by
  obtain ⟨i, hi⟩ := List.getElem?_of_mem h
  exact c.fact i hi
/-- what stands behind the head -/
structure Hd (fa : List He.Fa) (fn : List He.DefD) (gl : List Str) (G : List EV) (w : World) (K : PySem.W.Frag) (h : Heap) (mg : Str → Option Value) : Prop where
  X : K.In h
  ns : h.Ns mainGlobals mg
  c : He.SaysT fa fn (tabsOf gl G) w K
  ck : glsB K gl G = true
theorem base_ok {fa : List He.Fa} {fn : List He.DefD} {gl : List Str} {G : List EV} {P : Program} {w : World} {K : PySem.W.Frag} {h : Heap} {mg : Str → Option Value} {base : Heap} {T : Tb} (hd : Hd fa fn gl G w K h mg) (hgl : T.gl = gl) (hf : ∀ x ∈ freeN, He.Fa.free x ∈ fa)
    (hdb : ∀ (i : Nat) x n, T.fn[i]? = some (x, n) → (x == ("__debug__" : Str)) = false) (D : Gd) (hD : D.Ok) (hK : D.K = K) (hkd : D.kd = kdOf K w) : Base D ⟨P, w, K, mg, base⟩ T G where
  K := hK.symm
  ok := hD
  kg := fun rm X h1 h2 h3 h4 => kdGet w (fun a ps h => by rw [hkd] at h; rw [hK]; exact h) X (h3.trans hK.symm) h2
  free := fun T hT => He.free_ok hd.X hd.ns (fact_in hd.c.d (hf _ (by
    rcases hT with rfl | rfl | rfl | rfl | rfl | rfl | rfl | rfl | rfl | rfl | rfl | rfl | rfl | rfl | rfl | rfl <;> decide)))
  glo := fun i x hi => by
    rw [hgl] at hi
    obtain ⟨v, hv, hb, hx⟩ := glsB_at hd.ck hi
    unfold glB at hb
    cases e : isKd v with
    | true =>
      rw [e] at hb
      simp only [Bool.and_eq_true, decide_eq_true_eq] at hb
      obtain ⟨es, n, kd⟩ := tab_in hd.c (tabs_mem hi hv e)
      refine ⟨.ref (He.ga K x), .ref (He.ga K x), v, PySem.W.mg_of hd.X hd.ns hb.1, rfl, hv, fun μ H => ?_, hx⟩
      cases v with
      | kd ps => exact .kd (by rw [hkd]; exact ⟨hb.2, es, n, kd⟩)
      | _ => cases e
    | false =>
      rw [e] at hb
      simp only at hb
      split at hb
      · rename_i u hu
        rw [← hK] at hb
        obtain ⟨y, ry, rr⟩ := mvB_ok (D := D) hb
        exact ⟨y, u, v, PySem.W.mg_of hd.X hd.ns hu, ry, hv, rr, hx⟩
      · cases hb
  dbg := hdb
/-- the hook: the facts, the tables, and one's own look -/
def hookL (n : Nat) (fa : List He.Fa) (fn : List He.DefD) (gl : List Str) (G : List EV) : PySem.W.Hook := hookE n fa fn (tabsOf gl G) fun K => glsB K gl G
end Ev

set_option Elab.async false
set_option linter.all false
set_option maxRecDepth 100000
set_option maxHeartbeats 8000000
/-! EvE18: plans: a law's text in parts; between them slots alone are known. -/
namespace Ev
open PySem PySem.Spec PyProof.Rows L2
inductive Pl where
  | nil
  | seg (m : MSs) (bs : List Bool) (out : SL → Prop) (r : Pl)
  | loop (i n : Nat) (inv : SL → Prop) (b r : Pl)
def MSs.len : MSs → Nat
  | .nil => 0
  | .cons _ r => r.len + 1
def okPl : Pl → Tb → List Str → Scope → (Str → Bool) → List Stmt → Bool
  | .nil, _, _, _, _, sts => sts.isEmpty
  | .seg m _ _ r, T, N, sc, fc, sts => okSts m T N sc fc (sts.take m.len) && okPl r T N sc fc (sts.drop m.len)
  | .loop i n _ b r, T, N, sc, fc, sts => match sts with
    | .For (.Name x _) (.Call (.Name f _) [.Constant (.int j) _ _] [] _) eb [] _ :: sts => decide (N[i]? = some x) && locB sc fc x && decide (f = "range") && gloB sc f && decide (j = .ofNat n) && Nat.ble n 1000000 && okPl b T N sc fc eb && okPl r T N sc fc sts
    | _ => false
def Pl.cnt : Pl → Nat
  | .nil => 0
  | .seg _ _ _ r => r.cnt + 1
  | .loop _ n _ b r => n * b.cnt + r.cnt
/-- what is to be shown: from slots of cin the plan comes to slots of fin -/
def Pl.Ob (E : En) : Pl → (SL → Prop) → (SL → Prop) → Prop
  | .nil, cin, fin => ∀ s, cin s → fin s
  | .seg m bs out r, cin, fin => (∃ (nx : KS) (rt : KV), (∀ s L, (nx s L).holds → noRefS (keepS s bs) = true ∧ out (keepS s bs) ∧ L.c ≤ 1048576) ∧ (∀ v L, (rt v L).holds → v = .bl true) ∧ ∀ s, cin s → (xs m E s L00 nx ⟨rt, noS, noS⟩).holds) ∧ r.Ob E out fin
  | .loop i n inv b r, cin, fin => (∀ s, cin s → inv s) ∧ (∀ s, inv s → s[i]? = some none) ∧ b.Ob E inv inv ∧ r.Ob E inv fin
section
variable (K : PySem.W.Frag) (fa : Nat → Addr) (kd : Addr → List (EV × EV) → Prop) (E : En)
def tPl : Pl → TS
  | .nil => tNext
  | .seg m _ _ r => fun W σ H => ∃ a : Addr × Addr × Nat, a.2.2 < 2 ^ 39 ∧ txsK (Dof K fa kd a.1 a.2.1 a.2.2) E m (tPl r) W σ H
  | .loop i n _ b r => tSeq (tFor (iRng1 (tCons (tC (.int (.ofNat n))) tNil)) (gName i) (tPl b)) (tPl r)
end
section
variable {K : PySem.W.Frag} {fa : Nat → Addr} {kd : Addr → List (EV × EV) → Prop} {E : En} {rm : Nat} {Wo : Wd} {T : Tb}
theorem good_Pl (WO : ∀ (z l : Addr) (b : Nat), b < 2 ^ 39 → WOk (Dof K fa kd z l b) E rm Wo T) {N : List Str} {sc : Scope} {fc : Str → Bool} {X : Cx} (C : CK Wo rm N sc fc X) (hx : X.xe = (fun _ _ => False)) :
    ∀ (p : Pl) (sts : List Stmt), okPl p T N sc fc sts = true → PSs X sts (tPl K fa kd E p)
  | .nil, sts, h => by
    unfold okPl at h
    cases sts with
    | nil => exact pss_nil
    | cons _ _ => cases h
  | .seg m bs out r, sts, h => by
    unfold okPl at h
    simp only [Bool.and_eq_true] at h
    have hr := good_Pl WO C hx r _ h.2
    rw [← List.take_append_drop m.len sts]
    exact PSs.exP fun a ha => good_Sk (WO a.1 a.2.1 a.2.2 ha) C hx hr m _ h.1
  | .loop i n inv b r, sts, h => by
    unfold okPl at h
    split at h
    · rename_i x px f pf j kk pk pc eb pos sts'
      simp only [Bool.and_eq_true, decide_eq_true_eq] at h
      obtain ⟨⟨⟨⟨⟨⟨⟨h1, h2⟩, h3⟩, h4⟩, h5⟩, h6⟩, h7⟩, h8⟩ := h
      subst h3 h5
      obtain ⟨l1, l2⟩ := C.loc h2
      have ck := C.cok (WO 0 0 0 (by decide))
      exact pss_cons (ps_for (never_of hx) C.calm (pi_range1 (C.gl h4) (ck.free "range" (by simp)) (pa_cons pe_int pa_nil)) (pg_name (by rw [C.eN]; exact C.nd) (by rw [C.eN]; exact h1) l1 l2) (good_Pl WO C hx b _ h7)) (good_Pl WO C hx r _ h8)
    · cases h
end
section
variable {K : PySem.W.Frag} {fa : Nat → Addr} {kd : Addr → List (EV × EV) → Prop} {E : En} {z l : Addr}
theorem okPl_n {T : Tb} {N : List Str} {sc : Scope} {fc : Str → Bool} {i n : Nat} {inv b r} {sts : List Stmt} (h : okPl (.loop i n inv b r) T N sc fc sts = true) : n ≤ 1000000 := by
  unfold okPl at h
  split at h
  · simp only [Bool.and_eq_true] at h
    exact Nat.le_of_ble_eq_true h.1.1.2
  · cases h
/-- how long the loops are -/
def Pl.small : Pl → Bool
  | .nil => true
  | .seg _ _ _ r => r.small
  | .loop _ n _ b r => Nat.ble n 1000000 && b.small && r.small
theorem read_Pl : ∀ (p : Pl) (cin fin : SL → Prop) (t : Nat) (W : Ends) (σ : L2.St) (H : Hp), p.small = true → p.Ob E cin fin → t + p.cnt < 2 ^ 19 → (∃ s, cin s ∧ Cut K fa kd z l t s σ H) →
    (∀ s σ' H', fin s → Cut K fa kd z l (t + p.cnt) s σ' H' → W.nx σ' H') → (∀ H', W.rt (.bl true) H') → tPl K fa kd E p W σ H
  | .nil, cin, fin, t, W, σ, H, hs, ob, ht, ⟨s, hc, c⟩, hn, hr => hn s σ H (ob s hc) c
  | .seg m bs out r, cin, fin, t, W, σ, H, hs, ob, ht, ⟨s, hc, c⟩, hn, hr => by
    obtain ⟨⟨nx, rt, h1, h2, h3⟩, ob⟩ := ob
    obtain ⟨base, b1, b2, b3⟩ := c
    simp only [Pl.cnt] at ht hn
    refine ⟨(z, l, base), by show base < _; omega, ?_⟩
    refine ⟨[], s, L00, _, _, b2, rep00 b3, h3 s hc, fun s1 L1 μ1 H1 σ1 e1 R1 rs1 g1 => ?_, fun v L1 μ1 H1 u e1 R1 r1 g1 => ?_, fun s1 L1 μ1 H1 σ1 e1 R1 rs1 g1 => g1.elim, fun s1 L1 μ1 H1 σ1 e1 R1 rs1 g1 => g1.elim⟩
    · obtain ⟨q1, q2, q3⟩ := h1 _ _ g1
      obtain ⟨zl, b', q, d, cs, a1, a2, a3, a4, a5, a6, a7⟩ := R1.J
      exact read_Pl r out fin (t + 1) W σ1 H1 hs ob (by omega) ⟨_, q2, base + L1.c, by omega, (rs1.kept q1).cast same4, zl, b', q, d, cs, a1, a2, a3, a4, a5, a6, a7⟩ (fun s' σ' H' f c' => hn s' σ' H' f (by rw [show t + (r.cnt + 1) = t + 1 + r.cnt by omega]; exact c')) hr
    · have := h2 v L1 g1
      subst this
      cases r1
      exact hr H1
  | .loop i n inv b r, cin, fin, t, W, σ, H, hs, ob, ht, ⟨s, hc, c⟩, hn, hr => by
    obtain ⟨o1, o2, o3, o4⟩ := ob
    simp only [Pl.small, Bool.and_eq_true] at hs
    have hn1 : n ≤ 1000000 := Nat.le_of_ble_eq_true hs.1.1
    simp only [Pl.cnt] at ht hn
    refine ⟨(n : Int), rfl, by omega, by omega, ?_⟩
    rw [Int.toNat_natCast]
    refine for_range (lo := 0) (fun j σ' H' => ∃ s, inv s ∧ Cut K fa kd z l (t + j * b.cnt) s σ' H') ⟨s, o1 s hc, by rw [Nat.zero_mul]; exact c⟩ (fun j σ' H' hj ⟨s', i', c'⟩ => ?_) fun σ' H' ⟨s', i', c'⟩ => ?_
    · have hm : (j + 1) * b.cnt ≤ n * b.cnt := Nat.mul_le_mul_right _ hj
      rw [Nat.succ_mul] at hm
      obtain ⟨base, c1, c2, c3⟩ := c'
      refine read_Pl b inv inv (t + j * b.cnt) _ _ _ hs.1.2 o3 (by omega) ⟨s', i', base, c1, c2.dead (o2 s' i'), c3⟩ (fun s2 σ2 H2 f c2 => ⟨s2, f, ?_⟩) hr
      rw [Nat.succ_mul, ← Nat.add_assoc]
      exact c2
    · exact read_Pl r inv fin (t + n * b.cnt) W σ' H' hs.2 o4 (by omega) ⟨s', i', c'⟩ (fun s2 σ2 H2 f c2 => hn s2 σ2 H2 f (by rw [← Nat.add_assoc]; exact c2)) hr
end
/-! ### a law whose text is the stream, then a plan -/
def spLaw (K : PySem.W.Frag) : Sp := fun vs H Q _ => ∃ (a : Addr) (ns : List Int), vs = [.ref a] ∧ SqL K H a (ns.map V.int) ∧ ns.length ≤ 63 ∧ ∀ H', Q (.bl true) H'
/-- the slots behind the stream: it alone is known -/
def sl0 (n : Nat) : SL := none :: some .opq :: List.replicate (n - 2) none
theorem law_ok {K : PySem.W.Frag} {kd : Addr → List (EV × EV) → Prop} {E : En} {rm : Nat} {Wo : Wd} {T : Tb} (WO : ∀ (z l : Addr) (b : Nat), b < 2 ^ 39 → WOk (Dof K (fun _ => 0) kd z l b) E rm Wo T)
    {f : Addr} {fd : FuncData} {nm qual : Str} {params : Arguments} {body : List Stmt} {scope : Scope} {N : List Str} (FD : FunD Wo.K nm qual params body scope [] [] f fd) (FS : FnScope N ["script"] scope)
    {rest : List Stmt} {x : Str} {p1 p2 p3 p4 p5 : Pos} (hb : body = .Assign [.Name x p1] (.Call (.Name "_law_stream" p2) [.Name "script" p3] [] p4) p5 :: rest) (hN0 : N[0]? = some ("script" : Str)) (hN1 : N[1]? = some x) (hv : visB scope "script" = true) (hg : gloB scope "_law_stream" = true) (hl : locB scope (fun _ => true) x = true) (hlen : 2 ≤ N.length)
    {fS : Addr} {fdS : FuncData} (G : FnOk Wo.P Wo.w Wo.K Wo.mg Wo.base CX0 rm fS fdS ["script"] (spStr Wo.K)) (hm : Wo.mg "_law_stream" = some (.ref fS)) (hk : PySem.W.keepIn Wo.K (.ref fS) = true) (hbn : Binds Wo.K fdS ["script"] [])
    (p : Pl) (hp : okPl p T N scope (fun _ => true) rest = true) (hsm : p.small = true) (hcnt : p.cnt < 2 ^ 19) (ob : p.Ob E (fun s => s = sl0 N.length) fun _ => False) : FnOk Wo.P Wo.w Wo.K Wo.mg Wo.base CX0 (rm + 1) f fd ["script"] (spLaw Wo.K) := by
  refine FD.ok FS (fun vs H Q E h => ?_) fun cdv A outer s H us Q E' hr hsp => ?_
  · obtain ⟨a, ns, rfl, _⟩ := h
    rfl
  · subst hb
    let X := (cxOf CX0 Wo.P Wo.w Wo.K Wo.mg Wo.base N qual scope f cdv A outer s H E').nox
    have CC : CK Wo rm N scope (fun _ => true) X := ⟨rfl, rfl, rfl, rfl, rfl, rfl, rfl, FS.nd, rfl, rfl, hr⟩
    obtain ⟨l1, l2⟩ := CC.loc hl
    refine ⟨_, PSs.nox (pss_cons (ps_set (i := 1) FS.nd hN1 l1 (pe_call G hr (CC.gl hg) hm hk hbn .nil pass0 (pa_cons (pe_var (i := 0) hN0 (vis_of hv)) pa_nil)) rfl l2) (good_Pl WO CC rfl p rest hp)), ?_⟩
    obtain ⟨a, ns, rfl, hS, hn, hQ⟩ := hsp
    have hst : start N [V.ref a] = some (.ref a) :: List.replicate (N.length - 1) none := rfl
    refine ⟨.ref a, rfl, ?_⟩
    refine ⟨a, ns, rfl, hS, hn, fun z l H' hJ => ?_⟩
    refine read_Pl (z := z) (l := l) p _ _ 0 _ _ H' hsm ob (by omega) ⟨sl0 N.length, rfl, 0, by omega, ?_, hJ⟩ (fun s' σ' H' f _ => f.elim) fun H' => hQ H'
    obtain ⟨n, e⟩ : ∃ n, N.length = n + 2 := ⟨N.length - 2, by omega⟩
    rw [hst]
    show RS (Dof K (fun _ => 0) kd z l 0) [] H' (sl0 N.length) ((some (.ref a) :: List.replicate (N.length - 1) none).set 1 (some (.ref z)))
    rw [e, show n + 2 - 1 = n + 1 by omega, List.replicate_succ]
    refine ⟨by simp [sl0], fun i v h => ?_⟩
    match i, h with
    | 0, h => simp [sl0] at h
    | 1, h =>
      simp only [sl0, List.getElem?_cons_succ, List.getElem?_cons_zero, Option.some.injEq] at h
      subst h
      exact ⟨.ref z, rfl, .opq⟩
    | i + 2, h =>
      simp only [sl0, List.getElem?_cons_succ] at h
      rw [List.getElem?_replicate] at h
      split at h
      · cases h
      · cases h
end Ev

set_option Elab.async false
set_option linter.all false
set_option maxRecDepth 100000
set_option maxHeartbeats 8000000
/-! EvE19: parts that the kernel runs, from each of a list of slots. -/
namespace Ev
open PySem PySem.Spec PyProof.Rows L2
mutual
def eqV : EV → EV → Bool
  | .non, w => match w with
    | .non => true
    | _ => false
  | .bl a, w => match w with
    | .bl b => eqBl a b
    | _ => false
  | .int i, w => match w with
    | .int j => eqI i j
    | _ => false
  | .str s, w => match w with
    | .str t => beqNs s t
    | _ => false
  | .tup xs, w => match w with
    | .tup ys => eqVs xs ys
    | _ => false
  | .vl xs, w => match w with
    | .vl ys => eqVs xs ys
    | _ => false
  | .opq, w => match w with
    | .opq => true
    | _ => false
  | _, _ => false
def eqVs : List EV → List EV → Bool
  | [], ys => match ys with
    | [] => true
    | _ :: _ => false
  | x :: xs, ys => match ys with
    | [] => false
    | y :: ys => match eqV x y with
      | true => eqVs xs ys
      | false => false
end
mutual
theorem eqV_ok : ∀ {v w : EV}, eqV v w = true → v = w
  | .non, w, h => by cases w <;> first | rfl | (simp [eqV] at h)
  | .bl a, w, h => by
    cases w with
    | bl b => cases a <;> cases b <;> first | rfl | (simp [eqV, eqBl] at h)
    | _ => simp [eqV] at h
  | .int i, w, h => by
    cases w with
    | int j => simp only [eqV, eqI_iff, decide_eq_true_eq] at h; rw [h]
    | _ => simp [eqV] at h
  | .str s, w, h => by
    cases w with
    | str t =>
      simp only [eqV] at h
      rw [beqNs_eq] at h
      have h : toS s = toS t := by simpa using h
      have : s = t := by
        unfold toS at h
        have h := congrArg (fun x : PySem.Str => x.cps.toList) h
        simpa using h
      rw [this]
    | _ => simp [eqV] at h
  | .tup xs, w, h => by
    cases w with
    | tup ys => simp only [eqV] at h; rw [eqVs_ok h]
    | _ => simp [eqV] at h
  | .vl xs, w, h => by
    cases w with
    | vl ys => simp only [eqV] at h; rw [eqVs_ok h]
    | _ => simp [eqV] at h
  | .opq, w, h => by cases w <;> first | rfl | (simp [eqV] at h)
  | .ref _, _, h => by simp [eqV] at h
  | .fn _, _, h => by simp [eqV] at h
  | .ty _, _, h => by simp [eqV] at h
  | .kd _, _, h => by simp [eqV] at h
theorem eqVs_ok : ∀ {v w : List EV}, eqVs v w = true → v = w
  | [], w, h => by cases w <;> first | rfl | (simp [eqVs] at h)
  | x :: xs, w, h => by
    cases w with
    | nil => simp [eqVs] at h
    | cons y ys =>
      simp only [eqVs] at h
      cases e : eqV x y with
      | false => rw [e] at h; cases h
      | true => rw [e] at h; rw [eqV_ok e, eqVs_ok h]
end
def eqO2 (a b : Option EV) : Bool := match a with
  | none => match b with
    | none => true
    | some _ => false
  | some v => match b with
    | none => false
    | some w => eqV v w
def eqS : SL → SL → Bool
  | [], t => match t with
    | [] => true
    | _ :: _ => false
  | x :: r, t => match t with
    | [] => false
    | y :: t => match eqO2 x y with
      | true => eqS r t
      | false => false
theorem eqO2_ok {a b : Option EV} (h : eqO2 a b = true) : a = b := by
  cases a <;> cases b <;> first | rfl | (simp [eqO2] at h; done) | (simp only [eqO2] at h; rw [eqV_ok h])
theorem eqS_ok : ∀ {s t : SL}, eqS s t = true → s = t
  | [], t, h => by cases t <;> first | rfl | (simp [eqS] at h)
  | x :: r, t, h => by
    cases t with
    | nil => simp [eqS] at h
    | cons y t =>
      simp only [eqS] at h
      cases e : eqO2 x y with
      | false => rw [e] at h; cases h
      | true => rw [e] at h; rw [eqO2_ok e, eqS_ok h]
def anyS (s : SL) : List SL → Bool
  | [] => false
  | t :: r => match eqS s t with
    | true => true
    | false => anyS s r
theorem anyS_ok {s : SL} : ∀ {l : List SL}, anyS s l = true → s ∈ l
  | [], h => by cases h
  | t :: r, h => by
    unfold anyS at h
    cases e : eqS s t with
    | true => rw [eqS_ok e]; exact List.mem_cons_self
    | false => rw [e] at h; exact List.mem_cons_of_mem _ (anyS_ok h)
def allS (f : SL → Bool) : List SL → Bool
  | [] => true
  | s :: r => match f s with
    | true => allS f r
    | false => false
theorem allS_ok {f : SL → Bool} : ∀ {l : List SL}, allS f l = true → ∀ s ∈ l, f s = true
  | [], _, s, h => by cases h
  | t :: r, h, s, hs => by
    unfold allS at h
    cases e : f t with
    | false => rw [e] at h; cases h
    | true =>
      rw [e] at h
      rcases List.mem_cons.mp hs with rfl | hs
      · exact e
      · exact allS_ok h s hs
/-- a part run by the kernel, from each of the slots of cin, to one of those of out -/
def runP (E : En) (m : MSs) (bs : List Bool) (cin out : List SL) : Bool := allS (fun s => (xs m E s L00 (nxC bs fun s' => anyS s' out) ⟨rtC, noS, noS⟩).chk) cin
theorem runP_ok {E : En} {m : MSs} {bs : List Bool} {cin out : List SL} (h : runP E m bs cin out = true) :
    ∃ (nx : KS) (rt : KV), (∀ s L, (nx s L).holds → noRefS (keepS s bs) = true ∧ (fun s => s ∈ out) (keepS s bs) ∧ L.c ≤ 1048576) ∧ (∀ v L, (rt v L).holds → v = .bl true) ∧ ∀ s, (fun s => s ∈ cin) s → (xs m E s L00 nx ⟨rt, noS, noS⟩).holds :=
  ⟨_, _, fun s L h => let ⟨a, b, c⟩ := nxC_of h; ⟨a, anyS_ok b, c⟩, fun v L h => rtC_of h, fun s hs => T.chk_ok (allS_ok h s hs)⟩
end Ev

set_option Elab.async false
set_option linter.all false
set_option maxRecDepth 100000
set_option maxHeartbeats 8000000
/-! EvE20: defs whose values are known by a table. -/
namespace Ev
open PySem PySem.Spec PyProof.Rows L2
def tabL : List (List EV × EV) → List EV → Option EV
  | [], _ => none
  | r :: rs, vs => match eqVs r.1 vs with
    | true => some r.2
    | false => tabL rs vs
def tabE (rows : List (List EV × EV)) (vs : List EV) (L : LH) (k : KV) : T := someK (tabL rows vs) fun v => k v L
theorem tabL_mem : ∀ {rows : List (List EV × EV)} {vs : List EV} {v : EV}, tabL rows vs = some v → (vs, v) ∈ rows
  | [], _, _, h => by cases h
  | r :: rs, vs, v, h => by
    unfold tabL at h
    cases e : eqVs r.1 vs with
    | true =>
      rw [e] at h
      cases h
      rw [← eqVs_ok e]
      exact List.mem_cons_self
    | false => rw [e] at h; exact List.mem_cons_of_mem _ (tabL_mem h)
/-- each row is what the def comes to -/
def RowsOk (W : Nat) (G : List EV) (F : List FD) (d i : Nat) : List (List EV × EV) → Prop
  | [] => True
  | r :: rs => (∀ (L : LH) (k : KV), callE W G F d i r.1 L k = k r.2 L) ∧ RowsOk W G F d i rs
theorem RowsOk.at {W : Nat} {G : List EV} {F : List FD} {d i : Nat} : ∀ {rows : List (List EV × EV)}, RowsOk W G F d i rows → ∀ r ∈ rows, ∀ (L : LH) (k : KV), callE W G F d i r.1 L k = k r.2 L
  | [], _, r, h => by cases h
  | q :: qs, ⟨h1, h2⟩, r, h => by
    rcases List.mem_cons.mp h with rfl | h
    · exact h1
    · exact RowsOk.at h2 r h
theorem tab_ok {W : Nat} {G : List EV} {F : List FD} {d i : Nat} {rows : List (List EV × EV)} (h : RowsOk W G F d i rows) (vs : List EV) (L : LH) (k : KV) (hk : (tabE rows vs L k).holds) : (callE W G F d i vs L k).holds := by
  unfold tabE at hk
  obtain ⟨v, e, h2⟩ := someK_of hk
  rw [h.at _ (tabL_mem e)]
  exact h2
/-- a def, by what is shown of it with other defs as they are -/
theorem prim_ok {D : Gd} {Wo : Wd} {T : Tb} {Wn : Nat} {G : List EV} {F F' : List FD} (B : Base D Wo T G) (hF : ∀ i x n, T.fn[i]? = some (x, n) → ∃ f fd ps, Fact D Wo T F i x n f fd ps) {i : Nat} {x : Str} {n : Nat} {f : Addr} {fd : FuncData} {ps : List Str} (hi : T.fn[i]? = some (x, n)) (fc : Fact D Wo T F i x n f fd ps)
    {dm : Nat} {p : List EV → LH → KV → Ev.T} (h : ∀ vs L k, (p vs L k).holds → (callE Wn G F (dm + 1) i vs L k).holds) (e : F'[i]? = some (.prim dm p)) : Fact D Wo T F' i x n f fd ps :=
  ⟨fc.len, fc.mg, fc.keep, fc.binds, fc.kb, .inr (.inl ⟨dm, p, e, fun d hd => ((fns_ok (Wn := Wn) B hF (dm + 1) i x n f fd ps hi fc).mono (by omega)).imp fun us H Q E ⟨hl, μ, L, vs, k, R, rv, hk, q⟩ => ⟨hl, μ, L, vs, k, R, rv, h vs L k hk, q⟩⟩)⟩
end Ev

set_option Elab.async false
set_option linter.all false
set_option maxRecDepth 100000
set_option maxHeartbeats 0
namespace K41
open Ev PySem PySem.Spec PyProof.Rows L2
/-- share_of_kind -/
def n0 : List PySem.Str := ["kind"]
def b0 : MSs := (.cons (.ret (.idx (.g 0) (.call 15 (.cons (.v 0) .nil)))) .nil)
/-- _law_same -/
def n1 : List PySem.Str := ["found", "due", "mine", "theirs"]
def b1 : MSs := (.cons (.iff (.bi .isinst (.cons (.v 1) (.cons (.tup (.cons (.t 3) (.cons (.t 4) .nil))) .nil))) (.cons (.iff (.or (.cmp .ne (.bi .isinst (.cons (.v 0) (.cons (.t 3) .nil))) (.bi .isinst (.cons (.v 1) (.cons (.t 3) .nil)))) (.cmp .ne (.bi .isinst (.cons (.v 0) (.cons (.t 4) .nil))) (.bi .isinst (.cons (.v 1) (.cons (.t 4) .nil))))) (.cons (.ret (.k (.bl false))) .nil) .nil) (.cons (.ret (.and (.cmp .eq (.bi .len (.cons (.v 0) .nil)) (.bi .len (.cons (.v 1) .nil))) (.bi .all (.cons (.vlc (.zip (.v 0) (.v 1)) (.tup (.cons (.nm 2) (.cons (.nm 3) .nil))) [2, 3] .none (.call 1 (.cons (.v 2) (.cons (.v 3) .nil)))) .nil)))) .nil)) .nil) (.cons (.iff (.bi .isinst (.cons (.v 1) (.cons (.t 5) .nil))) (.cons (.ret (.and (.bi .isinst (.cons (.v 0) (.cons (.t 5) .nil))) (.call 1 (.cons (.itl (.v 0)) (.cons (.itl (.v 1)) .nil))))) .nil) .nil) (.cons (.iff (.or (.bi .isinst (.cons (.v 1) (.cons (.t 1) .nil))) (.bi .isinst (.cons (.v 0) (.cons (.t 1) .nil)))) (.cons (.ret (.and (.bi .isinst (.cons (.v 1) (.cons (.t 1) .nil))) (.and (.bi .isinst (.cons (.v 0) (.cons (.t 1) .nil))) (.cmp .eq (.v 0) (.v 1))))) .nil) .nil) (.cons (.iff (.or (.cmp .isN (.v 1) (.k (.non))) (.cmp .isN (.v 0) (.k (.non)))) (.cons (.ret (.and (.cmp .isN (.v 1) (.k (.non))) (.cmp .isN (.v 0) (.k (.non))))) .nil) .nil) (.cons (.iff (.or (.cmp .ne (.bi .isinst (.cons (.v 1) (.cons (.t 0) .nil))) (.bi .isinst (.cons (.v 0) (.cons (.t 0) .nil)))) (.cmp .ne (.bi .isinst (.cons (.v 1) (.cons (.t 2) .nil))) (.bi .isinst (.cons (.v 0) (.cons (.t 2) .nil))))) (.cons (.ret (.k (.bl false))) .nil) .nil) (.cons (.ret (.and (.not (.bi .isinst (.cons (.v 0) (.cons (.tup (.cons (.t 3) (.cons (.t 4) (.cons (.t 5) .nil)))) .nil)))) (.cmp .eq (.v 0) (.v 1)))) .nil))))))
/-- golden -/
def n2 : List PySem.Str := []
def b2 : MSs := (.cons (.ret (.tup (.cons (.k (.int (.ofNat 7))) (.cons (.k (.int (.ofNat 3))) (.cons (.k (.int (.ofNat 2))) .nil))))) .nil)
/-- _law_sum -/
def n3 : List PySem.Str := ["roots", "x", "y", "z", "u", "v", "w"]
def b3 : MSs := (.cons (.asg (.tup (.cons (.nm 1) (.cons (.nm 2) (.cons (.nm 3) .nil)))) (.tup (.cons (.k (.int (.ofNat 0))) (.cons (.k (.int (.ofNat 0))) (.cons (.k (.int (.ofNat 1))) .nil))))) (.cons (.for (.tup (.cons (.nm 4) (.cons (.nm 5) (.cons (.nm 6) .nil)))) (.ev (.v 0)) (.cons (.asg (.tup (.cons (.nm 1) (.cons (.nm 2) (.cons (.nm 3) .nil)))) (.call 16 (.cons (.bin .add (.bin .mul (.v 1) (.v 6)) (.bin .mul (.v 4) (.v 3))) (.cons (.bin .add (.bin .mul (.v 2) (.v 6)) (.bin .mul (.v 5) (.v 3))) (.cons (.bin .mul (.v 3) (.v 6)) .nil))))) .nil)) (.cons (.ret (.tup (.cons (.v 1) (.cons (.v 2) (.cons (.v 3) .nil))))) .nil)))
/-- _law_times -/
def n4 : List PySem.Str := ["one", "other", "x", "y", "z", "u", "v", "w"]
def b4 : MSs := (.cons (.asg (.tup (.cons (.tup (.cons (.nm 2) (.cons (.nm 3) (.cons (.nm 4) .nil)))) (.cons (.tup (.cons (.nm 5) (.cons (.nm 6) (.cons (.nm 7) .nil)))) .nil))) (.tup (.cons (.v 0) (.cons (.v 1) .nil)))) (.cons (.ret (.call 16 (.cons (.bin .add (.bin .mul (.v 2) (.v 5)) (.bin .mul (.bin .mul (.k (.int (.ofNat 5))) (.v 3)) (.v 6))) (.cons (.bin .add (.bin .mul (.v 2) (.v 6)) (.bin .mul (.v 3) (.v 5))) (.cons (.bin .mul (.v 4) (.v 7)) .nil))))) .nil))
/-- _law_l_kids -/
def n5 : List PySem.Str := ["kind", "ends", "found"]
def b5 : MSs := (.cons (.asg (.nm 1) (.vls (.cons (.tup (.cons (.k (.str [70])) (.cons (.k (.int (.ofNat 5))) (.cons (.tup (.cons (.neg (.k (.int (.ofNat 1)))) (.cons (.k (.int (.ofNat 0))) .nil))) (.cons (.tup (.cons (.neg (.k (.int (.ofNat 3)))) (.cons (.neg (.k (.int (.ofNat 1)))) .nil))) .nil))))) (.cons (.tup (.cons (.k (.str [72])) (.cons (.k (.int (.ofNat 0))) (.cons (.tup (.cons (.k (.int (.ofNat 0))) (.cons (.k (.int (.ofNat 0))) .nil))) (.cons (.tup (.cons (.k (.int (.ofNat 0))) (.cons (.k (.int (.ofNat 0))) .nil))) .nil))))) (.cons (.tup (.cons (.k (.str [80])) (.cons (.k (.int (.ofNat 1))) (.cons (.tup (.cons (.k (.int (.ofNat 1))) (.cons (.k (.int (.ofNat 0))) .nil))) (.cons (.tup (.cons (.k (.int (.ofNat 3))) (.cons (.k (.int (.ofNat 1))) .nil))) .nil))))) (.cons (.tup (.cons (.k (.str [72])) (.cons (.k (.int (.ofNat 1))) (.cons (.tup (.cons (.k (.int (.ofNat 3))) (.cons (.k (.int (.ofNat 1))) .nil))) (.cons (.tup (.cons (.k (.int (.ofNat 8))) (.cons (.k (.int (.ofNat 3))) .nil))) .nil))))) .nil)))))) (.cons (.iff (.cmp .eq (.v 0) (.k (.str [84]))) (.cons (.ret (.vls (.cons (.tup (.cons (.k (.str [72])) (.cons (.k (.int (.ofNat 0))) (.cons (.tup (.cons (.k (.int (.ofNat 0))) (.cons (.k (.int (.ofNat 0))) .nil))) (.cons (.tup (.cons (.k (.int (.ofNat 0))) (.cons (.k (.int (.ofNat 0))) .nil))) .nil))))) .nil))) .nil) .nil) (.cons (.iff (.cmp .eq (.v 0) (.k (.str [80]))) (.cons (.ret (.bin .add (.v 1) (.vls (.cons (.tup (.cons (.k (.str [70])) (.cons (.k (.int (.ofNat 2))) (.cons (.tup (.cons (.k (.int (.ofNat 3))) (.cons (.k (.int (.ofNat 2))) .nil))) (.cons (.tup (.cons (.k (.int (.ofNat 7))) (.cons (.k (.int (.ofNat 7))) .nil))) .nil))))) .nil)))) .nil) .nil) (.cons (.iff (.cmp .eq (.v 0) (.k (.str [70]))) (.cons (.ret (.bin .add (.v 1) (.vls (.cons (.tup (.cons (.k (.str [70])) (.cons (.k (.int (.ofNat 0))) (.cons (.tup (.cons (.k (.int (.ofNat 3))) (.cons (.k (.int (.ofNat 0))) .nil))) (.cons (.tup (.cons (.k (.int (.ofNat 9))) (.cons (.neg (.k (.int (.ofNat 1)))) .nil))) .nil))))) (.cons (.tup (.cons (.k (.str [70])) (.cons (.k (.int (.ofNat 2))) (.cons (.tup (.cons (.k (.int (.ofNat 3))) (.cons (.k (.int (.ofNat 2))) .nil))) (.cons (.tup (.cons (.k (.int (.ofNat 7))) (.cons (.k (.int (.ofNat 7))) .nil))) .nil))))) .nil))))) .nil) .nil) (.cons (.asg (.nm 2) (.lst (.cons (.tup (.cons (.k (.str [72])) (.cons (.k (.int (.ofNat 0))) (.cons (.tup (.cons (.k (.int (.ofNat 0))) (.cons (.k (.int (.ofNat 0))) .nil))) (.cons (.tup (.cons (.k (.int (.ofNat 0))) (.cons (.k (.int (.ofNat 0))) .nil))) .nil))))) (.cons (.tup (.cons (.k (.str [72])) (.cons (.k (.int (.ofNat 0))) (.cons (.tup (.cons (.neg (.k (.int (.ofNat 1)))) (.cons (.k (.int (.ofNat 3))) .nil))) (.cons (.tup (.cons (.neg (.k (.int (.ofNat 2)))) (.cons (.k (.int (.ofNat 7))) .nil))) .nil))))) (.cons (.tup (.cons (.k (.str [72])) (.cons (.k (.int (.ofNat 4))) (.cons (.tup (.cons (.neg (.k (.int (.ofNat 4)))) (.cons (.k (.int (.ofNat 3))) .nil))) (.cons (.tup (.cons (.neg (.k (.int (.ofNat 11)))) (.cons (.k (.int (.ofNat 8))) .nil))) .nil))))) (.cons (.tup (.cons (.k (.str [84])) (.cons (.k (.int (.ofNat 5))) (.cons (.tup (.cons (.neg (.k (.int (.ofNat 2)))) (.cons (.k (.int (.ofNat 3))) .nil))) (.cons (.tup (.cons (.neg (.k (.int (.ofNat 5)))) (.cons (.k (.int (.ofNat 6))) .nil))) .nil))))) .nil)))))) (.cons (.ex (.mt .extend (.v 2) (.cons (.vls (.cons (.tup (.cons (.k (.str [80])) (.cons (.k (.int (.ofNat 5))) (.cons (.tup (.cons (.neg (.k (.int (.ofNat 4)))) (.cons (.k (.int (.ofNat 2))) .nil))) (.cons (.tup (.cons (.neg (.k (.int (.ofNat 10)))) (.cons (.k (.int (.ofNat 4))) .nil))) .nil))))) (.cons (.tup (.cons (.k (.str [70])) (.cons (.k (.int (.ofNat 5))) (.cons (.tup (.cons (.neg (.k (.int (.ofNat 1)))) (.cons (.k (.int (.ofNat 0))) .nil))) (.cons (.tup (.cons (.neg (.k (.int (.ofNat 3)))) (.cons (.neg (.k (.int (.ofNat 1)))) .nil))) .nil))))) (.cons (.tup (.cons (.k (.str [80])) (.cons (.k (.int (.ofNat 1))) (.cons (.tup (.cons (.k (.int (.ofNat 1))) (.cons (.k (.int (.ofNat 0))) .nil))) (.cons (.tup (.cons (.k (.int (.ofNat 3))) (.cons (.k (.int (.ofNat 1))) .nil))) .nil))))) .nil)))) .nil))) (.cons (.frz 2 (.ret (.bin .add (.v 2) (.vls (.cons (.tup (.cons (.k (.str [70])) (.cons (.k (.int (.ofNat 1))) (.cons (.tup (.cons (.k (.int (.ofNat 0))) (.cons (.k (.int (.ofNat 3))) .nil))) (.cons (.tup (.cons (.k (.int (.ofNat 1))) (.cons (.k (.int (.ofNat 8))) .nil))) .nil))))) (.cons (.tup (.cons (.k (.str [80])) (.cons (.k (.int (.ofNat 0))) (.cons (.tup (.cons (.neg (.k (.int (.ofNat 4)))) (.cons (.k (.int (.ofNat 5))) .nil))) (.cons (.tup (.cons (.neg (.k (.int (.ofNat 9)))) (.cons (.k (.int (.ofNat 12))) .nil))) .nil))))) (.cons (.tup (.cons (.k (.str [70])) (.cons (.k (.int (.ofNat 3))) (.cons (.tup (.cons (.neg (.k (.int (.ofNat 4)))) (.cons (.k (.int (.ofNat 4))) .nil))) (.cons (.tup (.cons (.neg (.k (.int (.ofNat 12)))) (.cons (.k (.int (.ofNat 12))) .nil))) .nil))))) .nil))))))) .nil)))))))
/-- _law_l_zero -/
def n6 : List PySem.Str := ["kind"]
def b6 : MSs := (.cons (.iff (.cmp .eq (.v 0) (.k (.str [72]))) (.cons (.ret (.vls (.cons (.tup (.cons (.k (.int (.ofNat 0))) (.cons (.k (.int (.ofNat 0))) (.cons (.k (.int (.ofNat 0))) (.cons (.k (.int (.ofNat 0))) .nil))))) (.cons (.tup (.cons (.neg (.k (.int (.ofNat 1)))) (.cons (.k (.int (.ofNat 2))) (.cons (.k (.int (.ofNat 0))) (.cons (.k (.int (.ofNat 0))) .nil))))) (.cons (.tup (.cons (.neg (.k (.int (.ofNat 1)))) (.cons (.k (.int (.ofNat 1))) (.cons (.k (.int (.ofNat 4))) (.cons (.k (.int (.ofNat 0))) .nil))))) (.cons (.tup (.cons (.k (.int (.ofNat 0))) (.cons (.k (.int (.ofNat 1))) (.cons (.k (.int (.ofNat 3))) (.cons (.k (.int (.ofNat 1))) .nil))))) .nil)))))) .nil) .nil) (.cons (.ret (.ite (.cmp .eq (.v 0) (.k (.str [84]))) (.vls (.cons (.tup (.cons (.k (.int (.ofNat 0))) (.cons (.k (.int (.ofNat 0))) (.cons (.k (.int (.ofNat 0))) (.cons (.k (.int (.ofNat 0))) .nil))))) .nil)) (.vls (.cons (.tup (.cons (.k (.int (.ofNat 1))) (.cons (.k (.int (.ofNat 0))) (.cons (.k (.int (.ofNat 1))) (.cons (.k (.int (.ofNat 0))) .nil))))) (.cons (.tup (.cons (.k (.int (.ofNat 0))) (.cons (.k (.int (.ofNat 0))) (.cons (.k (.int (.ofNat 0))) (.cons (.k (.int (.ofNat 0))) .nil))))) .nil))))) .nil))
/-- share_of_label -/
def n7 : List PySem.Str := ["kind", "index", "own"]
def b7 : MSs := (.cons (.asg (.nm 2) (.call 0 (.cons (.v 0) .nil))) (.cons (.iff (.or (.not (.call 18 (.cons (.v 1) .nil))) (.not (.chain .le .lt (.k (.int (.ofNat 0))) (.v 1) (.bi .len (.cons (.idx (.g 1) (.v 0)) .nil))))) (.cons .nope .nil) .nil) (.cons (.ret (.call 17 (.cons (.v 2) (.cons (.tup (.cons (.k (.int (.ofNat 3))) (.cons (.neg (.k (.int (.ofNat 1)))) (.cons (.k (.int (.ofNat 2))) .nil)))) .nil)))) .nil)))
/-- share_turned -/
def n8 : List PySem.Str := []
def b8 : MSs := (.cons (.ret (.call 7 (.cons (.k (.str [72])) (.cons (.k (.int (.ofNat 3))) .nil)))) .nil)
/-- hat_counts -/
def n9 : List PySem.Str := ["kind", "n"]
def b9 : MSs := (.cons (.ret (.call 19 (.cons (.call 15 (.cons (.v 0) .nil)) (.cons (.call 20 (.cons (.v 1) .nil)) .nil)))) .nil)
/-- _law_near -/
def n10 : List PySem.Str := ["root", "many", "whole", "x", "y", "z", "great", "five", "low", "high", "wide"]
def b10 : MSs := (.cons (.asg (.tup (.cons (.nm 3) (.cons (.nm 4) (.cons (.nm 5) .nil)))) (.v 0)) (.cons (.asg (.nm 6) (.bin .pow (.k (.int (.ofNat 10))) (.k (.int (.ofNat 40))))) (.cons (.asg (.nm 7) (.k (.int (.ofNat 22360679774997896964091736687312762354406)))) (.cons (.asg (.nm 8) (.bin .add (.bin .mul (.v 3) (.v 6)) (.bin .mul (.v 4) (.ite (.cmp .ge (.v 4) (.k (.int (.ofNat 0)))) (.v 7) (.bin .add (.v 7) (.k (.int (.ofNat 1)))))))) (.cons (.asg (.nm 9) (.bin .add (.bin .mul (.v 3) (.v 6)) (.bin .mul (.v 4) (.ite (.cmp .ge (.v 4) (.k (.int (.ofNat 0)))) (.bin .add (.v 7) (.k (.int (.ofNat 1)))) (.v 7))))) (.cons (.asg (.nm 10) (.bi .max (.cons (.bi .abs (.cons (.bin .sub (.bin .mul (.v 8) (.v 2)) (.bin .mul (.bin .mul (.v 1) (.v 5)) (.v 6))) .nil)) (.cons (.bi .abs (.cons (.bin .sub (.bin .mul (.v 9) (.v 2)) (.bin .mul (.bin .mul (.v 1) (.v 5)) (.v 6))) .nil)) .nil)))) (.cons (.ret (.cmp .lt (.bin .mul (.v 10) (.v 10)) (.bin .mul (.bin .mul (.bin .mul (.bin .mul (.v 5) (.v 5)) (.v 6)) (.v 6)) (.v 2)))) .nil)))))))
/-- _law_pick -/
def n12 : List PySem.Str := ["stream", "things"]
def b12 : MSs := (.cons (.ret (.idx (.v 1) (.call 11 (.cons (.v 0) (.cons (.bi .len (.cons (.v 1) .nil)) .nil))))) .nil)
/-- _law_l_counts -/
def n13 : List PySem.Str := ["kind", "n", "found", "k", "later", "name", "kid"]
def b13 : MSs := (.cons (.asg (.nm 2) (.bi .dict (.cons (.vlc (.ev (.k (.str [72, 84, 80, 70]))) (.nm 5) [5] .none (.tup (.cons (.v 5) (.cons (.bi .int (.cons (.cmp .eq (.v 5) (.v 0)) .nil)) .nil)))) .nil))) (.cons (.for (.nm 3) (.rng (.cons (.v 1) .nil)) (.cons (.asg (.nm 4) (.bi .dict (.cons (.vlc (.ev (.k (.str [72, 84, 80, 70]))) (.nm 5) [5] .none (.tup (.cons (.v 5) (.cons (.k (.int (.ofNat 0))) .nil)))) .nil))) (.cons (.for (.nm 5) (.ev (.k (.str [72, 84, 80, 70]))) (.cons (.for (.nm 6) (.ev (.call 5 (.cons (.v 5) .nil))) (.cons (.asg (.sub (.v 4) (.idx (.v 6) (.k (.int (.ofNat 0))))) (.bin .add (.idx (.v 4) (.idx (.v 6) (.k (.int (.ofNat 0))))) (.idx (.v 2) (.v 5)))) .nil)) .nil)) (.cons (.asg (.nm 2) (.v 4)) .nil)))) (.cons (.ret (.vlc (.ev (.k (.str [72, 84, 80, 70]))) (.nm 5) [5] .none (.idx (.v 2) (.v 5)))) .nil)))
/-- _law_l_many -/
def n14 : List PySem.Str := ["kind", "n", "h", "t", "p", "f"]
def b14 : MSs := (.cons (.asg (.tup (.cons (.nm 2) (.cons (.nm 3) (.cons (.nm 4) (.cons (.nm 5) .nil))))) (.call 13 (.cons (.v 0) (.cons (.v 1) .nil)))) (.cons (.ret (.bin .add (.bin .add (.bin .add (.bin .mul (.k (.int (.ofNat 4))) (.v 2)) (.v 3)) (.bin .mul (.k (.int (.ofNat 2))) (.v 4))) (.bin .mul (.k (.int (.ofNat 2))) (.v 5)))) .nil))
/-- need_kind -/
def n15 : List PySem.Str := ["kind"]
def b15 : MSs := (.cons (.iff (.or (.not (.bi .isinst (.cons (.v 0) (.cons (.t 2) .nil)))) (.cmp .nin (.v 0) (.g 1))) (.cons .nope .nil) .nil) (.cons (.ret (.v 0)) .nil))
/-- _law_lowest -/
def n16 : List PySem.Str := ["x", "y", "z", "d", "k"]
def b16 : MSs := (.cons (.for (.nm 3) (.ev (.tup (.cons (.k (.int (.ofNat 2))) (.cons (.k (.int (.ofNat 3))) (.cons (.k (.int (.ofNat 5))) (.cons (.k (.int (.ofNat 7))) .nil)))))) (.cons (.for (.nm 4) (.rng (.cons (.k (.int (.ofNat 200))) .nil)) (.cons (.iff (.or (.cmp .ne (.bin .mod (.bi .int (.cons (.v 0) .nil)) (.v 3)) (.k (.int (.ofNat 0)))) (.or (.cmp .ne (.bin .mod (.bi .int (.cons (.v 1) .nil)) (.v 3)) (.k (.int (.ofNat 0)))) (.cmp .ne (.bin .mod (.bi .int (.cons (.v 2) .nil)) (.v 3)) (.k (.int (.ofNat 0)))))) (.cons .brk .nil) .nil) (.cons (.asg (.tup (.cons (.nm 0) (.cons (.nm 1) (.cons (.nm 2) .nil)))) (.tup (.cons (.bin .fdiv (.v 0) (.v 3)) (.cons (.bin .fdiv (.v 1) (.v 3)) (.cons (.bin .fdiv (.v 2) (.v 3)) .nil))))) .nil))) .nil)) (.cons (.ret (.tup (.cons (.v 0) (.cons (.v 1) (.cons (.v 2) .nil))))) .nil))
/-- product_by -/
def n17 : List PySem.Str := ["one", "other", "x", "y", "z", "u", "v", "w"]
def b17 : MSs := (.cons (.asg (.tup (.cons (.tup (.cons (.nm 2) (.cons (.nm 3) (.cons (.nm 4) .nil)))) (.cons (.tup (.cons (.nm 5) (.cons (.nm 6) (.cons (.nm 7) .nil)))) .nil))) (.tup (.cons (.v 0) (.cons (.v 1) .nil)))) (.cons (.ret (.call 21 (.cons (.bin .add (.bin .mul (.v 2) (.v 5)) (.bin .mul (.bin .mul (.k (.int (.ofNat 5))) (.v 3)) (.v 6))) (.cons (.bin .add (.bin .mul (.v 2) (.v 6)) (.bin .mul (.v 3) (.v 5))) (.cons (.bin .mul (.v 4) (.v 7)) .nil))))) .nil))
/-- is_whole_shares -/
def n18 : List PySem.Str := ["thing"]
def b18 : MSs := (.cons (.ret (.and (.bi .isinst (.cons (.v 0) (.cons (.t 0) .nil))) (.not (.bi .isinst (.cons (.v 0) (.cons (.t 1) .nil)))))) .nil)
/-- hats_by -/
def n19 : List PySem.Str := ["kind", "n", "h", "t", "p", "f"]
def b19 : MSs := (.cons (.asg (.tup (.cons (.nm 2) (.cons (.nm 3) (.cons (.nm 4) (.cons (.nm 5) .nil))))) (.call 22 (.cons (.v 0) (.cons (.v 1) .nil)))) (.cons (.ret (.tup (.cons (.bin .add (.bin .add (.bin .add (.bin .mul (.k (.int (.ofNat 4))) (.v 2)) (.v 3)) (.bin .mul (.k (.int (.ofNat 2))) (.v 4))) (.bin .mul (.k (.int (.ofNat 2))) (.v 5))) (.cons (.v 2) .nil)))) .nil))
/-- need_level -/
def n20 : List PySem.Str := ["n"]
def b20 : MSs := (.cons (.iff (.not (.call 23 (.cons (.v 0) .nil))) (.cons .nope .nil) .nil) (.cons (.ret (.v 0)) .nil))
/-- lowest -/
def n21 : List PySem.Str := ["x", "y", "z", "common"]
def b21 : MSs := (.cons (.asg (.nm 3) (.call 24 (.cons (.call 24 (.cons (.bi .abs (.cons (.v 0) .nil)) (.cons (.bi .abs (.cons (.v 1) .nil)) .nil))) (.cons (.v 2) .nil)))) (.cons (.ret (.tup (.cons (.bin .fdiv (.v 0) (.v 3)) (.cons (.bin .fdiv (.v 1) (.v 3)) (.cons (.bin .fdiv (.v 2) (.v 3)) .nil))))) .nil))
/-- groups_counted -/
def n22 : List PySem.Str := ["kind", "n", "found", "_", "one"]
def b22 : MSs := (.cons (.asg (.nm 2) (.bi .tuple (.cons (.vlc (.ev (.g 2)) (.nm 4) [4] .none (.bi .int (.cons (.cmp .eq (.v 0) (.v 4)) .nil))) .nil))) (.cons (.for (.nm 3) (.rng (.cons (.v 1) .nil)) (.cons (.asg (.nm 2) (.call 25 (.cons (.v 2) .nil))) .nil)) (.cons (.ret (.v 2)) .nil)))
/-- is_number -/
def n23 : List PySem.Str := ["thing"]
def b23 : MSs := (.cons (.ret (.and (.call 26 (.cons (.v 0) .nil)) (.cmp .ge (.v 0) (.k (.int (.ofNat 0)))))) .nil)
/-- divisor -/
def n24 : List PySem.Str := ["one", "other"]
def b24 : MSs := (.cons (.whl (.cmp .gt (.v 1) (.k (.int (.ofNat 0)))) (.cons (.asg (.tup (.cons (.nm 0) (.cons (.nm 1) .nil))) (.tup (.cons (.v 1) (.cons (.bin .mod (.v 0) (.v 1)) .nil)))) .nil)) (.cons (.ret (.v 0)) .nil))
/-- led_down -/
def n25 : List PySem.Str := ["numbers", "h", "t", "p", "f"]
def b25 : MSs := (.cons (.asg (.tup (.cons (.nm 1) (.cons (.nm 2) (.cons (.nm 3) (.cons (.nm 4) .nil))))) (.v 0)) (.cons (.ret (.tup (.cons (.bin .add (.bin .add (.bin .add (.bin .mul (.k (.int (.ofNat 3))) (.v 1)) (.v 2)) (.bin .mul (.k (.int (.ofNat 2))) (.v 3))) (.bin .mul (.k (.int (.ofNat 2))) (.v 4))) (.cons (.v 1) (.cons (.bin .add (.bin .add (.bin .mul (.k (.int (.ofNat 3))) (.v 1)) (.v 3)) (.v 4)) (.cons (.bin .add (.bin .add (.bin .mul (.k (.int (.ofNat 3))) (.v 1)) (.bin .mul (.k (.int (.ofNat 2))) (.v 3))) (.bin .mul (.k (.int (.ofNat 3))) (.v 4))) .nil)))))) .nil))
/-- is_whole_basics -/
def n26 : List PySem.Str := ["thing"]
def b26 : MSs := (.cons (.ret (.and (.bi .isinst (.cons (.v 0) (.cons (.t 0) .nil))) (.not (.bi .isinst (.cons (.v 0) (.cons (.t 1) .nil)))))) .nil)
def nL : List PySem.Str := ["script", "stream", "kinds", "name", "labels", "kind", "turn", "lots", "index", "n", "whole", "counts", "found", "kid"]
def l0 : MS := (.asg (.nm 2) (.bi .dict (.cons (.vlc (.ev (.k (.str [72, 84, 80, 70]))) (.nm 5) [5] .none (.tup (.cons (.v 5) (.cons (.call 0 (.cons (.v 5) .nil)) .nil)))) .nil)))
def l1 : MS := (.iff (.not (.call 1 (.cons (.lk 2 (.vlc (.ev (.v 2)) (.nm 5) [5] .none (.callk 0 .nil (.cons (.v 5) .nil) [0]))) (.cons (.vll (.v 2)) .nil)))) (.cons (.ret (.k (.bl false))) .nil) .nil)
def l2 : MS := (.iff (.or (.not (.call 1 (.cons (.v 2) (.cons (.disp (.cons (.k (.str [72])) (.cons (.tup (.cons (.k (.int (.ofNat 1))) (.cons (.k (.int (.ofNat 0))) (.cons (.k (.int (.ofNat 3))) .nil)))) (.cons (.k (.str [84])) (.cons (.tup (.cons (.k (.int (.ofNat 7))) (.cons (.neg (.k (.int (.ofNat 3)))) (.cons (.k (.int (.ofNat 6))) .nil)))) (.cons (.k (.str [80])) (.cons (.tup (.cons (.neg (.k (.int (.ofNat 2)))) (.cons (.k (.int (.ofNat 1))) (.cons (.k (.int (.ofNat 1))) .nil)))) (.cons (.k (.str [70])) (.cons (.tup (.cons (.k (.int (.ofNat 3))) (.cons (.neg (.k (.int (.ofNat 1)))) (.cons (.k (.int (.ofNat 2))) .nil)))) .nil))))))))) .nil)))) (.not (.call 1 (.cons (.call 2 .nil) (.cons (.tup (.cons (.k (.int (.ofNat 7))) (.cons (.k (.int (.ofNat 3))) (.cons (.k (.int (.ofNat 2))) .nil)))) .nil))))) (.cons (.ret (.k (.bl false))) .nil) .nil)
def l3 : MS := (.iff (.cmp .ne (.call 3 (.cons (.vll (.v 2)) .nil)) (.tup (.cons (.k (.int (.ofNat 1))) (.cons (.k (.int (.ofNat 0))) (.cons (.k (.int (.ofNat 1))) .nil))))) (.cons (.ret (.k (.bl false))) .nil) .nil)
def l4 : MS := (.for (.nm 3) (.ev (.k (.str [72, 84, 80, 70]))) (.cons (.asg (.nm 7) (.lst .nil)) (.cons (.for (.nm 5) (.ev (.k (.str [72, 84, 80, 70]))) (.cons (.ex (.mt .extend (.v 7) (.cons (.bin .mul (.vls (.cons (.idx (.v 2) (.v 5)) .nil)) (.bi .len (.cons (.vlc (.ev (.call 5 (.cons (.v 5) .nil))) (.nm 13) [13] (.some (.cmp .eq (.idx (.v 13) (.k (.int (.ofNat 0)))) (.v 3))) (.v 13)) .nil))) .nil))) .nil)) (.cons (.frz 7 (.iff (.cmp .ne (.call 3 (.cons (.v 7) .nil)) (.call 4 (.cons (.tup (.cons (.k (.int (.ofNat 7))) (.cons (.k (.int (.ofNat 3))) (.cons (.k (.int (.ofNat 2))) .nil)))) (.cons (.idx (.v 2) (.v 3)) .nil)))) (.cons (.ret (.k (.bl false))) .nil) .nil)) .nil))))
def l5 : MS := (.asg (.nm 4) (.lst .nil))
def l6 : MS := (.for (.nm 5) (.ev (.k (.str [72, 84, 80, 70]))) (.cons (.for (.nm 8) (.rng (.cons (.bi .len (.cons (.call 6 (.cons (.v 5) .nil)) .nil)) .nil)) (.cons (.asg (.nm 12) (.call 7 (.cons (.v 5) (.cons (.v 8) .nil)))) (.cons (.iff (.or (.not (.call 1 (.cons (.callk 7 .nil (.cons (.v 8) (.cons (.v 5) .nil)) [1, 0]) (.cons (.v 12) .nil)))) (.cmp .ne (.v 12) (.call 4 (.cons (.idx (.v 2) (.v 5)) (.cons (.tup (.cons (.k (.int (.ofNat 3))) (.cons (.neg (.k (.int (.ofNat 1)))) (.cons (.k (.int (.ofNat 2))) .nil)))) .nil))))) (.cons (.ret (.k (.bl false))) .nil) .nil) (.cons (.ex (.mt .append (.v 4) (.cons (.v 12) .nil))) .nil)))) .nil))
def l7 : MS := (.frz 4 (.iff (.or (.cmp .ne (.call 3 (.cons (.v 4) .nil)) (.tup (.cons (.k (.int (.ofNat 1))) (.cons (.k (.int (.ofNat 0))) (.cons (.k (.int (.ofNat 1))) .nil))))) (.not (.call 1 (.cons (.vls (.cons (.call 8 .nil) (.cons (.call 7 (.cons (.k (.str [72])) (.cons (.k (.int (.ofNat 3))) .nil))) .nil))) (.cons (.bin .mul (.vls (.cons (.tup (.cons (.k (.int (.ofNat 3))) (.cons (.neg (.k (.int (.ofNat 1)))) (.cons (.k (.int (.ofNat 6))) .nil)))) .nil)) (.k (.int (.ofNat 2)))) .nil))))) (.cons (.ret (.k (.bl false))) .nil) .nil))
def l8 : MS := (.iff (.cmp .ne (.call 3 (.cons (.vls (.cons (.call 8 .nil) (.cons (.call 4 (.cons (.tup (.cons (.k (.int (.ofNat 7))) (.cons (.k (.int (.ofNat 3))) (.cons (.k (.int (.ofNat 2))) .nil)))) (.cons (.call 8 .nil) .nil))) .nil))) .nil)) (.tup (.cons (.k (.int (.ofNat 1))) (.cons (.k (.int (.ofNat 0))) (.cons (.k (.int (.ofNat 1))) .nil))))) (.cons (.ret (.k (.bl false))) .nil) .nil)
def l9 : MS := (.for (.nm 6) (.rng (.cons (.k (.int (.ofNat 8))) .nil)) (.cons (.asg (.tup (.cons (.nm 5) (.cons (.nm 9) .nil))) (.tup (.cons (.call 12 (.cons (.v 1) (.cons (.bi .vlist (.cons (.k (.str [72, 84, 80, 70])) .nil)) .nil))) (.cons (.call 12 (.cons (.v 1) (.cons (.vls (.cons (.k (.int (.ofNat 0))) (.cons (.k (.int (.ofNat 1))) (.cons (.k (.int (.ofNat 2))) (.cons (.k (.int (.ofNat 3))) (.cons (.k (.int (.ofNat 4))) (.cons (.k (.int (.ofNat 8))) (.cons (.call 11 (.cons (.v 1) (.cons (.k (.int (.ofNat 30))) .nil))) .nil)))))))) .nil))) .nil)))) (.cons (.asg (.tup (.cons (.nm 10) (.cons (.nm 11) .nil))) (.tup (.cons (.call 14 (.cons (.v 5) (.cons (.v 9) .nil))) (.cons (.call 13 (.cons (.v 5) (.cons (.v 9) .nil))) .nil)))) (.cons (.asg (.nm 3) (.call 12 (.cons (.v 1) (.cons (.bi .vlist (.cons (.k (.str [72, 84, 80, 70])) .nil)) .nil)))) (.cons (.iff (.not (.call 10 (.cons (.call 7 (.cons (.v 3) (.cons (.call 11 (.cons (.v 1) (.cons (.bi .len (.cons (.call 6 (.cons (.v 3) .nil)) .nil)) .nil))) .nil))) (.cons (.idx (.v 11) (.mt .index (.k (.str [72, 84, 80, 70])) (.cons (.v 3) .nil))) (.cons (.v 10) .nil))))) (.cons (.ret (.k (.bl false))) .nil) .nil) (.cons (.iff (.not (.call 1 (.cons (.call 9 (.cons (.v 5) (.cons (.v 9) .nil))) (.cons (.tup (.cons (.v 10) (.cons (.idx (.v 11) (.k (.int (.ofNat 0)))) .nil))) .nil)))) (.cons (.ret (.k (.bl false))) .nil) .nil) .nil))))))
def l10 : MS := (.ret (.call 1 (.cons (.vls (.cons (.call 7 (.cons (.k (.str [84])) (.cons (.k (.int (.ofNat 0))) .nil))) (.cons (.call 7 (.cons (.k (.str [80])) (.cons (.k (.int (.ofNat 1))) .nil))) (.cons (.call 7 (.cons (.k (.str [70])) (.cons (.k (.int (.ofNat 0))) .nil))) .nil)))) (.cons (.vls (.cons (.tup (.cons (.k (.int (.ofNat 9))) (.cons (.neg (.k (.int (.ofNat 4)))) (.cons (.k (.int (.ofNat 3))) .nil)))) (.cons (.tup (.cons (.neg (.k (.int (.ofNat 11)))) (.cons (.k (.int (.ofNat 5))) (.cons (.k (.int (.ofNat 2))) .nil)))) (.cons (.tup (.cons (.k (.int (.ofNat 7))) (.cons (.neg (.k (.int (.ofNat 3)))) (.cons (.k (.int (.ofNat 2))) .nil)))) .nil)))) .nil))))
def fns : List (PySem.Str × Nat) := [("share_of_kind", 1), ("_law_same", 2), ("golden", 0), ("_law_sum", 1), ("_law_times", 2), ("_law_l_kids", 1), ("_law_l_zero", 1), ("share_of_label", 2), ("share_turned", 0), ("hat_counts", 2), ("_law_near", 3), ("_law_draw", 2), ("_law_pick", 2), ("_law_l_counts", 2), ("_law_l_many", 2), ("need_kind", 1), ("_law_lowest", 3), ("product_by", 2), ("is_whole_shares", 1), ("hats_by", 2), ("need_level", 1), ("lowest", 3), ("groups_counted", 2), ("is_number", 1), ("divisor", 2), ("led_down", 1), ("is_whole_basics", 1)]
def gls : List PySem.Str := ["SHARES", "ZERO", "KINDS"]
def kws : List (Nat × List PySem.Str × List Nat) := [(0, ["kind"], [0]), (7, ["index", "kind"], [1, 0])]
def GG : List EV := [.kd [(.str [72], .tup [.int (.ofNat 1), .int (.ofNat 0), .int (.ofNat 3)]), (.str [84], .tup [.int (.ofNat 7), .int (.negSucc 2), .int (.ofNat 6)]), (.str [80], .tup [.int (.negSucc 1), .int (.ofNat 1), .int (.ofNat 1)]), (.str [70], .tup [.int (.ofNat 3), .int (.negSucc 0), .int (.ofNat 2)])], .kd [(.str [72], .tup [.tup [.int (.ofNat 0), .int (.ofNat 0), .int (.ofNat 0), .int (.ofNat 0)], .tup [.int (.negSucc 0), .int (.ofNat 2), .int (.ofNat 0), .int (.ofNat 0)], .tup [.int (.negSucc 0), .int (.ofNat 1), .int (.ofNat 4), .int (.ofNat 0)], .tup [.int (.ofNat 0), .int (.ofNat 1), .int (.ofNat 3), .int (.ofNat 1)]]), (.str [84], .tup [.tup [.int (.ofNat 0), .int (.ofNat 0), .int (.ofNat 0), .int (.ofNat 0)]]), (.str [80], .tup [.tup [.int (.ofNat 1), .int (.ofNat 0), .int (.ofNat 1), .int (.ofNat 0)], .tup [.int (.ofNat 0), .int (.ofNat 0), .int (.ofNat 0), .int (.ofNat 0)]]), (.str [70], .tup [.tup [.int (.ofNat 1), .int (.ofNat 0), .int (.ofNat 1), .int (.ofNat 0)], .tup [.int (.ofNat 0), .int (.ofNat 0), .int (.ofNat 0), .int (.ofNat 0)]])], .str [72, 84, 80, 70]]
def F0 : List FD := [.dp 1 n0.length b0, .df 2 n1.length b1, .dp 0 n2.length b2, .dp 1 n3.length b3, .dp 2 n4.length b4, .dp 1 n5.length b5, .dp 1 n6.length b6, .dp 2 n7.length b7, .dp 0 n8.length b8, .dp 2 n9.length b9, .dp 3 n10.length b10, .draw, .dp 2 n12.length b12, .dp 2 n13.length b13, .dp 2 n14.length b14, .dp 1 n15.length b15, .dp 3 n16.length b16, .dp 2 n17.length b17, .dp 1 n18.length b18, .dp 2 n19.length b19, .dp 1 n20.length b20, .dp 3 n21.length b21, .dp 2 n22.length b22, .dp 1 n23.length b23, .dp 2 n24.length b24, .dp 1 n25.length b25, .dp 1 n26.length b26]
def t5 : List (List EV × EV) := [([.str [72]], .vl [.tup [.str [72], .int (.ofNat 0), .tup [.int (.ofNat 0), .int (.ofNat 0)], .tup [.int (.ofNat 0), .int (.ofNat 0)]], .tup [.str [72], .int (.ofNat 0), .tup [.int (.negSucc 0), .int (.ofNat 3)], .tup [.int (.negSucc 1), .int (.ofNat 7)]], .tup [.str [72], .int (.ofNat 4), .tup [.int (.negSucc 3), .int (.ofNat 3)], .tup [.int (.negSucc 10), .int (.ofNat 8)]], .tup [.str [84], .int (.ofNat 5), .tup [.int (.negSucc 1), .int (.ofNat 3)], .tup [.int (.negSucc 4), .int (.ofNat 6)]], .tup [.str [80], .int (.ofNat 5), .tup [.int (.negSucc 3), .int (.ofNat 2)], .tup [.int (.negSucc 9), .int (.ofNat 4)]], .tup [.str [70], .int (.ofNat 5), .tup [.int (.negSucc 0), .int (.ofNat 0)], .tup [.int (.negSucc 2), .int (.negSucc 0)]], .tup [.str [80], .int (.ofNat 1), .tup [.int (.ofNat 1), .int (.ofNat 0)], .tup [.int (.ofNat 3), .int (.ofNat 1)]], .tup [.str [70], .int (.ofNat 1), .tup [.int (.ofNat 0), .int (.ofNat 3)], .tup [.int (.ofNat 1), .int (.ofNat 8)]], .tup [.str [80], .int (.ofNat 0), .tup [.int (.negSucc 3), .int (.ofNat 5)], .tup [.int (.negSucc 8), .int (.ofNat 12)]], .tup [.str [70], .int (.ofNat 3), .tup [.int (.negSucc 3), .int (.ofNat 4)], .tup [.int (.negSucc 11), .int (.ofNat 12)]]]), ([.str [84]], .vl [.tup [.str [72], .int (.ofNat 0), .tup [.int (.ofNat 0), .int (.ofNat 0)], .tup [.int (.ofNat 0), .int (.ofNat 0)]]]), ([.str [80]], .vl [.tup [.str [70], .int (.ofNat 5), .tup [.int (.negSucc 0), .int (.ofNat 0)], .tup [.int (.negSucc 2), .int (.negSucc 0)]], .tup [.str [72], .int (.ofNat 0), .tup [.int (.ofNat 0), .int (.ofNat 0)], .tup [.int (.ofNat 0), .int (.ofNat 0)]], .tup [.str [80], .int (.ofNat 1), .tup [.int (.ofNat 1), .int (.ofNat 0)], .tup [.int (.ofNat 3), .int (.ofNat 1)]], .tup [.str [72], .int (.ofNat 1), .tup [.int (.ofNat 3), .int (.ofNat 1)], .tup [.int (.ofNat 8), .int (.ofNat 3)]], .tup [.str [70], .int (.ofNat 2), .tup [.int (.ofNat 3), .int (.ofNat 2)], .tup [.int (.ofNat 7), .int (.ofNat 7)]]]), ([.str [70]], .vl [.tup [.str [70], .int (.ofNat 5), .tup [.int (.negSucc 0), .int (.ofNat 0)], .tup [.int (.negSucc 2), .int (.negSucc 0)]], .tup [.str [72], .int (.ofNat 0), .tup [.int (.ofNat 0), .int (.ofNat 0)], .tup [.int (.ofNat 0), .int (.ofNat 0)]], .tup [.str [80], .int (.ofNat 1), .tup [.int (.ofNat 1), .int (.ofNat 0)], .tup [.int (.ofNat 3), .int (.ofNat 1)]], .tup [.str [72], .int (.ofNat 1), .tup [.int (.ofNat 3), .int (.ofNat 1)], .tup [.int (.ofNat 8), .int (.ofNat 3)]], .tup [.str [70], .int (.ofNat 0), .tup [.int (.ofNat 3), .int (.ofNat 0)], .tup [.int (.ofNat 9), .int (.negSucc 0)]], .tup [.str [70], .int (.ofNat 2), .tup [.int (.ofNat 3), .int (.ofNat 2)], .tup [.int (.ofNat 7), .int (.ofNat 7)]]])]
def t6 : List (List EV × EV) := [([.str [72]], .vl [.tup [.int (.ofNat 0), .int (.ofNat 0), .int (.ofNat 0), .int (.ofNat 0)], .tup [.int (.negSucc 0), .int (.ofNat 2), .int (.ofNat 0), .int (.ofNat 0)], .tup [.int (.negSucc 0), .int (.ofNat 1), .int (.ofNat 4), .int (.ofNat 0)], .tup [.int (.ofNat 0), .int (.ofNat 1), .int (.ofNat 3), .int (.ofNat 1)]]), ([.str [84]], .vl [.tup [.int (.ofNat 0), .int (.ofNat 0), .int (.ofNat 0), .int (.ofNat 0)]]), ([.str [80]], .vl [.tup [.int (.ofNat 1), .int (.ofNat 0), .int (.ofNat 1), .int (.ofNat 0)], .tup [.int (.ofNat 0), .int (.ofNat 0), .int (.ofNat 0), .int (.ofNat 0)]]), ([.str [70]], .vl [.tup [.int (.ofNat 1), .int (.ofNat 0), .int (.ofNat 1), .int (.ofNat 0)], .tup [.int (.ofNat 0), .int (.ofNat 0), .int (.ofNat 0), .int (.ofNat 0)]])]
def F1 : List FD := [.dp 1 n0.length b0, .df 2 n1.length b1, .dp 0 n2.length b2, .dp 1 n3.length b3, .dp 2 n4.length b4, .prim 0 (tabE t5), .prim 0 (tabE t6), .dp 2 n7.length b7, .dp 0 n8.length b8, .dp 2 n9.length b9, .dp 3 n10.length b10, .draw, .dp 2 n12.length b12, .dp 2 n13.length b13, .dp 2 n14.length b14, .dp 1 n15.length b15, .dp 3 n16.length b16, .dp 2 n17.length b17, .dp 1 n18.length b18, .dp 2 n19.length b19, .dp 1 n20.length b20, .dp 3 n21.length b21, .dp 2 n22.length b22, .dp 1 n23.length b23, .dp 2 n24.length b24, .dp 1 n25.length b25, .dp 1 n26.length b26]
def t13 : List (List EV × EV) := [([.str [72], .int (.ofNat 0)], .vl [.int (.ofNat 1), .int (.ofNat 0), .int (.ofNat 0), .int (.ofNat 0)]), ([.str [72], .int (.ofNat 1)], .vl [.int (.ofNat 3), .int (.ofNat 1), .int (.ofNat 3), .int (.ofNat 3)]), ([.str [72], .int (.ofNat 2)], .vl [.int (.ofNat 22), .int (.ofNat 3), .int (.ofNat 15), .int (.ofNat 24)]), ([.str [72], .int (.ofNat 3)], .vl [.int (.ofNat 147), .int (.ofNat 22), .int (.ofNat 105), .int (.ofNat 168)]), ([.str [72], .int (.ofNat 4)], .vl [.int (.ofNat 1009), .int (.ofNat 147), .int (.ofNat 714), .int (.ofNat 1155)]), ([.str [72], .int (.ofNat 5)], .vl [.int (.ofNat 6912), .int (.ofNat 1009), .int (.ofNat 4896), .int (.ofNat 7920)]), ([.str [72], .int (.ofNat 6)], .vl [.int (.ofNat 47377), .int (.ofNat 6912), .int (.ofNat 33552), .int (.ofNat 54288)]), ([.str [72], .int (.ofNat 7)], .vl [.int (.ofNat 324723), .int (.ofNat 47377), .int (.ofNat 229971), .int (.ofNat 372099)]), ([.str [72], .int (.ofNat 8)], .vl [.int (.ofNat 2225686), .int (.ofNat 324723), .int (.ofNat 1576239), .int (.ofNat 2550408)]), ([.str [72], .int (.ofNat 9)], .vl [.int (.ofNat 15255075), .int (.ofNat 2225686), .int (.ofNat 10803705), .int (.ofNat 17480760)]), ([.str [72], .int (.ofNat 10)], .vl [.int (.ofNat 104559841), .int (.ofNat 15255075), .int (.ofNat 74049690), .int (.ofNat 119814915)]), ([.str [72], .int (.ofNat 11)], .vl [.int (.ofNat 716663808), .int (.ofNat 104559841), .int (.ofNat 507544128), .int (.ofNat 821223648)]), ([.str [72], .int (.ofNat 12)], .vl [.int (.ofNat 4912086817), .int (.ofNat 716663808), .int (.ofNat 3478759200), .int (.ofNat 5628750624)]), ([.str [72], .int (.ofNat 13)], .vl [.int (.ofNat 33667943907), .int (.ofNat 4912086817), .int (.ofNat 23843770275), .int (.ofNat 38580030723)]), ([.str [72], .int (.ofNat 14)], .vl [.int (.ofNat 230763520534), .int (.ofNat 33667943907), .int (.ofNat 163427632719), .int (.ofNat 264431464440)]), ([.str [72], .int (.ofNat 15)], .vl [.int (.ofNat 1581676699827), .int (.ofNat 230763520534), .int (.ofNat 1120149658761), .int (.ofNat 1812440220360)]), ([.str [72], .int (.ofNat 16)], .vl [.int (.ofNat 10840973378257), .int (.ofNat 1581676699827), .int (.ofNat 7677619978602), .int (.ofNat 12422650078083)]), ([.str [72], .int (.ofNat 17)], .vl [.int (.ofNat 74305136947968), .int (.ofNat 10840973378257), .int (.ofNat 52623190191456), .int (.ofNat 85146110326224)]), ([.str [72], .int (.ofNat 18)], .vl [.int (.ofNat 509294985257521), .int (.ofNat 74305136947968), .int (.ofNat 360684711361584), .int (.ofNat 583600122205488)]), ([.str [72], .int (.ofNat 19)], .vl [.int (.ofNat 3490759759854675), .int (.ofNat 509294985257521), .int (.ofNat 2472169789339635), .int (.ofNat 4000054745112195)]), ([.str [72], .int (.ofNat 20)], .vl [.int (.ofNat 23926023333725206), .int (.ofNat 3490759759854675), .int (.ofNat 16944503814015855), .int (.ofNat 27416783093579880)]), ([.str [72], .int (.ofNat 21)], .vl [.int (.ofNat 163991403576221763), .int (.ofNat 23926023333725206), .int (.ofNat 116139356908771353), .int (.ofNat 187917426909946968)]), ([.str [72], .int (.ofNat 22)], .vl [.int (.ofNat 1124013801699827137), .int (.ofNat 163991403576221763), .int (.ofNat 796030994547383610), .int (.ofNat 1288005205276048899)]), ([.str [72], .int (.ofNat 23)], .vl [.int (.ofNat 7704105208322568192), .int (.ofNat 1124013801699827137), .int (.ofNat 5456077604922913920), .int (.ofNat 8828119010022395328)]), ([.str [72], .int (.ofNat 24)], .vl [.int (.ofNat 52804722656558150209), .int (.ofNat 7704105208322568192), .int (.ofNat 37396512239913013824), .int (.ofNat 60508827864880718400)]), ([.str [72], .int (.ofNat 25)], .vl [.int (.ofNat 361928953387584483267), .int (.ofNat 52804722656558150209), .int (.ofNat 256319508074468182851), .int (.ofNat 414733676044142633475)]), ([.str [72], .int (.ofNat 26)], .vl [.int (.ofNat 2480697951056533232662), .int (.ofNat 361928953387584483267), .int (.ofNat 1756840044281364266127), .int (.ofNat 2842626904444117715928)]), ([.str [72], .int (.ofNat 27)], .vl [.int (.ofNat 17002956704008148145363), .int (.ofNat 2480697951056533232662), .int (.ofNat 12041560801895081680041), .int (.ofNat 19483654655064681378024)]), ([.str [72], .int (.ofNat 28)], .vl [.int (.ofNat 116539998977000503784881), .int (.ofNat 17002956704008148145363), .int (.ofNat 82534085568984207494154), .int (.ofNat 133542955681008651930243)]), ([.str [72], .int (.ofNat 29)], .vl [.int (.ofNat 798777036134995378348800), .int (.ofNat 116539998977000503784881), .int (.ofNat 565697038180994370779040), .int (.ofNat 915317035111995882133680)]), ([.str [84], .int (.ofNat 0)], .vl [.int (.ofNat 0), .int (.ofNat 1), .int (.ofNat 0), .int (.ofNat 0)]), ([.str [84], .int (.ofNat 1)], .vl [.int (.ofNat 1), .int (.ofNat 0), .int (.ofNat 0), .int (.ofNat 0)]), ([.str [84], .int (.ofNat 2)], .vl [.int (.ofNat 3), .int (.ofNat 1), .int (.ofNat 3), .int (.ofNat 3)]), ([.str [84], .int (.ofNat 3)], .vl [.int (.ofNat 22), .int (.ofNat 3), .int (.ofNat 15), .int (.ofNat 24)]), ([.str [84], .int (.ofNat 4)], .vl [.int (.ofNat 147), .int (.ofNat 22), .int (.ofNat 105), .int (.ofNat 168)]), ([.str [84], .int (.ofNat 5)], .vl [.int (.ofNat 1009), .int (.ofNat 147), .int (.ofNat 714), .int (.ofNat 1155)]), ([.str [84], .int (.ofNat 6)], .vl [.int (.ofNat 6912), .int (.ofNat 1009), .int (.ofNat 4896), .int (.ofNat 7920)]), ([.str [84], .int (.ofNat 7)], .vl [.int (.ofNat 47377), .int (.ofNat 6912), .int (.ofNat 33552), .int (.ofNat 54288)]), ([.str [84], .int (.ofNat 8)], .vl [.int (.ofNat 324723), .int (.ofNat 47377), .int (.ofNat 229971), .int (.ofNat 372099)]), ([.str [84], .int (.ofNat 9)], .vl [.int (.ofNat 2225686), .int (.ofNat 324723), .int (.ofNat 1576239), .int (.ofNat 2550408)]), ([.str [84], .int (.ofNat 10)], .vl [.int (.ofNat 15255075), .int (.ofNat 2225686), .int (.ofNat 10803705), .int (.ofNat 17480760)]), ([.str [84], .int (.ofNat 11)], .vl [.int (.ofNat 104559841), .int (.ofNat 15255075), .int (.ofNat 74049690), .int (.ofNat 119814915)]), ([.str [84], .int (.ofNat 12)], .vl [.int (.ofNat 716663808), .int (.ofNat 104559841), .int (.ofNat 507544128), .int (.ofNat 821223648)]), ([.str [84], .int (.ofNat 13)], .vl [.int (.ofNat 4912086817), .int (.ofNat 716663808), .int (.ofNat 3478759200), .int (.ofNat 5628750624)]), ([.str [84], .int (.ofNat 14)], .vl [.int (.ofNat 33667943907), .int (.ofNat 4912086817), .int (.ofNat 23843770275), .int (.ofNat 38580030723)]), ([.str [84], .int (.ofNat 15)], .vl [.int (.ofNat 230763520534), .int (.ofNat 33667943907), .int (.ofNat 163427632719), .int (.ofNat 264431464440)]), ([.str [84], .int (.ofNat 16)], .vl [.int (.ofNat 1581676699827), .int (.ofNat 230763520534), .int (.ofNat 1120149658761), .int (.ofNat 1812440220360)]), ([.str [84], .int (.ofNat 17)], .vl [.int (.ofNat 10840973378257), .int (.ofNat 1581676699827), .int (.ofNat 7677619978602), .int (.ofNat 12422650078083)]), ([.str [84], .int (.ofNat 18)], .vl [.int (.ofNat 74305136947968), .int (.ofNat 10840973378257), .int (.ofNat 52623190191456), .int (.ofNat 85146110326224)]), ([.str [84], .int (.ofNat 19)], .vl [.int (.ofNat 509294985257521), .int (.ofNat 74305136947968), .int (.ofNat 360684711361584), .int (.ofNat 583600122205488)]), ([.str [84], .int (.ofNat 20)], .vl [.int (.ofNat 3490759759854675), .int (.ofNat 509294985257521), .int (.ofNat 2472169789339635), .int (.ofNat 4000054745112195)]), ([.str [84], .int (.ofNat 21)], .vl [.int (.ofNat 23926023333725206), .int (.ofNat 3490759759854675), .int (.ofNat 16944503814015855), .int (.ofNat 27416783093579880)]), ([.str [84], .int (.ofNat 22)], .vl [.int (.ofNat 163991403576221763), .int (.ofNat 23926023333725206), .int (.ofNat 116139356908771353), .int (.ofNat 187917426909946968)]), ([.str [84], .int (.ofNat 23)], .vl [.int (.ofNat 1124013801699827137), .int (.ofNat 163991403576221763), .int (.ofNat 796030994547383610), .int (.ofNat 1288005205276048899)]), ([.str [84], .int (.ofNat 24)], .vl [.int (.ofNat 7704105208322568192), .int (.ofNat 1124013801699827137), .int (.ofNat 5456077604922913920), .int (.ofNat 8828119010022395328)]), ([.str [84], .int (.ofNat 25)], .vl [.int (.ofNat 52804722656558150209), .int (.ofNat 7704105208322568192), .int (.ofNat 37396512239913013824), .int (.ofNat 60508827864880718400)]), ([.str [84], .int (.ofNat 26)], .vl [.int (.ofNat 361928953387584483267), .int (.ofNat 52804722656558150209), .int (.ofNat 256319508074468182851), .int (.ofNat 414733676044142633475)]), ([.str [84], .int (.ofNat 27)], .vl [.int (.ofNat 2480697951056533232662), .int (.ofNat 361928953387584483267), .int (.ofNat 1756840044281364266127), .int (.ofNat 2842626904444117715928)]), ([.str [84], .int (.ofNat 28)], .vl [.int (.ofNat 17002956704008148145363), .int (.ofNat 2480697951056533232662), .int (.ofNat 12041560801895081680041), .int (.ofNat 19483654655064681378024)]), ([.str [84], .int (.ofNat 29)], .vl [.int (.ofNat 116539998977000503784881), .int (.ofNat 17002956704008148145363), .int (.ofNat 82534085568984207494154), .int (.ofNat 133542955681008651930243)]), ([.str [80], .int (.ofNat 0)], .vl [.int (.ofNat 0), .int (.ofNat 0), .int (.ofNat 1), .int (.ofNat 0)]), ([.str [80], .int (.ofNat 1)], .vl [.int (.ofNat 2), .int (.ofNat 0), .int (.ofNat 1), .int (.ofNat 2)]), ([.str [80], .int (.ofNat 2)], .vl [.int (.ofNat 12), .int (.ofNat 2), .int (.ofNat 9), .int (.ofNat 14)]), ([.str [80], .int (.ofNat 3)], .vl [.int (.ofNat 84), .int (.ofNat 12), .int (.ofNat 59), .int (.ofNat 96)]), ([.str [80], .int (.ofNat 4)], .vl [.int (.ofNat 574), .int (.ofNat 84), .int (.ofNat 407), .int (.ofNat 658)]), ([.str [80], .int (.ofNat 5)], .vl [.int (.ofNat 3936), .int (.ofNat 574), .int (.ofNat 2787), .int (.ofNat 4510)]), ([.str [80], .int (.ofNat 6)], .vl [.int (.ofNat 26976), .int (.ofNat 3936), .int (.ofNat 19105), .int (.ofNat 30912)]), ([.str [80], .int (.ofNat 7)], .vl [.int (.ofNat 184898), .int (.ofNat 26976), .int (.ofNat 130945), .int (.ofNat 211874)]), ([.str [80], .int (.ofNat 8)], .vl [.int (.ofNat 1267308), .int (.ofNat 184898), .int (.ofNat 897513), .int (.ofNat 1452206)]), ([.str [80], .int (.ofNat 9)], .vl [.int (.ofNat 8686260), .int (.ofNat 1267308), .int (.ofNat 6151643), .int (.ofNat 9953568)]), ([.str [80], .int (.ofNat 10)], .vl [.int (.ofNat 59536510), .int (.ofNat 8686260), .int (.ofNat 42163991), .int (.ofNat 68222770)]), ([.str [80], .int (.ofNat 11)], .vl [.int (.ofNat 408069312), .int (.ofNat 59536510), .int (.ofNat 288996291), .int (.ofNat 467605822)]), ([.str [80], .int (.ofNat 12)], .vl [.int (.ofNat 2796948672), .int (.ofNat 408069312), .int (.ofNat 1980810049), .int (.ofNat 3205017984)]), ([.str [80], .int (.ofNat 13)], .vl [.int (.ofNat 19170571394), .int (.ofNat 2796948672), .int (.ofNat 13576674049), .int (.ofNat 21967520066)]), ([.str [80], .int (.ofNat 14)], .vl [.int (.ofNat 131397051084), .int (.ofNat 19170571394), .int (.ofNat 93055908297), .int (.ofNat 150567622478)]), ([.str [80], .int (.ofNat 15)], .vl [.int (.ofNat 900608786196), .int (.ofNat 131397051084), .int (.ofNat 637814684027), .int (.ofNat 1032005837280)]), ([.str [80], .int (.ofNat 16)], .vl [.int (.ofNat 6172864452286), .int (.ofNat 900608786196), .int (.ofNat 4371646879895), .int (.ofNat 7073473238482)]), ([.str [80], .int (.ofNat 17)], .vl [.int (.ofNat 42309442379808), .int (.ofNat 6172864452286), .int (.ofNat 29963713475235), .int (.ofNat 48482306832094)]), ([.str [80], .int (.ofNat 18)], .vl [.int (.ofNat 289993232206368), .int (.ofNat 42309442379808), .int (.ofNat 205374347446753), .int (.ofNat 332302674586176)]), ([.str [80], .int (.ofNat 19)], .vl [.int (.ofNat 1987643183064770), .int (.ofNat 289993232206368), .int (.ofNat 1407656718652033), .int (.ofNat 2277636415271138)]), ([.str [80], .int (.ofNat 20)], .vl [.int (.ofNat 13623509049247020), .int (.ofNat 1987643183064770), .int (.ofNat 9648222683117481), .int (.ofNat 15611152232311790)]), ([.str [80], .int (.ofNat 21)], .vl [.int (.ofNat 93376920161664372), .int (.ofNat 13623509049247020), .int (.ofNat 66129902063170331), .int (.ofNat 107000429210911392)]), ([.str [80], .int (.ofNat 22)], .vl [.int (.ofNat 640014932082403582), .int (.ofNat 93376920161664372), .int (.ofNat 453261091759074839), .int (.ofNat 733391852244067954)]), ([.str [80], .int (.ofNat 23)], .vl [.int (.ofNat 4386727604415160704), .int (.ofNat 640014932082403582), .int (.ofNat 3106697740250353539), .int (.ofNat 5026742536497564286)]), ([.str [80], .int (.ofNat 24)], .vl [.int (.ofNat 30067078298823721344), .int (.ofNat 4386727604415160704), .int (.ofNat 21293623089993399937), .int (.ofNat 34453805903238882048)]), ([.str [80], .int (.ofNat 25)], .vl [.int (.ofNat 206082820487350888706), .int (.ofNat 30067078298823721344), .int (.ofNat 145948663889703446017), .int (.ofNat 236149898786174610050)]), ([.str [80], .int (.ofNat 26)], .vl [.int (.ofNat 1412512665112632499596), .int (.ofNat 206082820487350888706), .int (.ofNat 1000347024137930722185), .int (.ofNat 1618595485599983388302)]), ([.str [80], .int (.ofNat 27)], .vl [.int (.ofNat 9681505835301076608468), .int (.ofNat 1412512665112632499596), .int (.ofNat 6856480505075811609275), .int (.ofNat 11094018500413709108064)]), ([.str [80], .int (.ofNat 28)], .vl [.int (.ofNat 66358028181994903759678), .int (.ofNat 9681505835301076608468), .int (.ofNat 46995016511392750542743), .int (.ofNat 76039534017295980368146)]), ([.str [80], .int (.ofNat 29)], .vl [.int (.ofNat 454824691438663249709280), .int (.ofNat 66358028181994903759678), .int (.ofNat 322108635074673442189923), .int (.ofNat 521182719620658153468958)]), ([.str [70], .int (.ofNat 0)], .vl [.int (.ofNat 0), .int (.ofNat 0), .int (.ofNat 0), .int (.ofNat 1)]), ([.str [70], .int (.ofNat 1)], .vl [.int (.ofNat 2), .int (.ofNat 0), .int (.ofNat 1), .int (.ofNat 3)]), ([.str [70], .int (.ofNat 2)], .vl [.int (.ofNat 14), .int (.ofNat 2), .int (.ofNat 10), .int (.ofNat 17)]), ([.str [70], .int (.ofNat 3)], .vl [.int (.ofNat 98), .int (.ofNat 14), .int (.ofNat 69), .int (.ofNat 113)]), ([.str [70], .int (.ofNat 4)], .vl [.int (.ofNat 672), .int (.ofNat 98), .int (.ofNat 476), .int (.ofNat 771)]), ([.str [70], .int (.ofNat 5)], .vl [.int (.ofNat 4608), .int (.ofNat 672), .int (.ofNat 3263), .int (.ofNat 5281)]), ([.str [70], .int (.ofNat 6)], .vl [.int (.ofNat 31584), .int (.ofNat 4608), .int (.ofNat 22368), .int (.ofNat 36193)]), ([.str [70], .int (.ofNat 7)], .vl [.int (.ofNat 216482), .int (.ofNat 31584), .int (.ofNat 153313), .int (.ofNat 248067)]), ([.str [70], .int (.ofNat 8)], .vl [.int (.ofNat 1483790), .int (.ofNat 216482), .int (.ofNat 1050826), .int (.ofNat 1700273)]), ([.str [70], .int (.ofNat 9)], .vl [.int (.ofNat 10170050), .int (.ofNat 1483790), .int (.ofNat 7202469), .int (.ofNat 11653841)]), ([.str [70], .int (.ofNat 10)], .vl [.int (.ofNat 69706560), .int (.ofNat 10170050), .int (.ofNat 49366460), .int (.ofNat 79876611)]), ([.str [70], .int (.ofNat 11)], .vl [.int (.ofNat 477775872), .int (.ofNat 69706560), .int (.ofNat 338362751), .int (.ofNat 547482433)]), ([.str [70], .int (.ofNat 12)], .vl [.int (.ofNat 3274724544), .int (.ofNat 477775872), .int (.ofNat 2319172800), .int (.ofNat 3752500417)]), ([.str [70], .int (.ofNat 13)], .vl [.int (.ofNat 22445295938), .int (.ofNat 3274724544), .int (.ofNat 15895846849), .int (.ofNat 25720020483)]), ([.str [70], .int (.ofNat 14)], .vl [.int (.ofNat 153842347022), .int (.ofNat 22445295938), .int (.ofNat 108951755146), .int (.ofNat 176287642961)]), ([.str [70], .int (.ofNat 15)], .vl [.int (.ofNat 1054451133218), .int (.ofNat 153842347022), .int (.ofNat 746766439173), .int (.ofNat 1208293480241)]), ([.str [70], .int (.ofNat 16)], .vl [.int (.ofNat 7227315585504), .int (.ofNat 1054451133218), .int (.ofNat 5118413319068), .int (.ofNat 8281766718723)]), ([.str [70], .int (.ofNat 17)], .vl [.int (.ofNat 49536757965312), .int (.ofNat 7227315585504), .int (.ofNat 35082126794303), .int (.ofNat 56764073550817)]), ([.str [70], .int (.ofNat 18)], .vl [.int (.ofNat 339529990171680), .int (.ofNat 49536757965312), .int (.ofNat 240456474241056), .int (.ofNat 389066748136993)]), ([.str [70], .int (.ofNat 19)], .vl [.int (.ofNat 2327173173236450), .int (.ofNat 339529990171680), .int (.ofNat 1648113192893089), .int (.ofNat 2666703163408131)]), ([.str [70], .int (.ofNat 20)], .vl [.int (.ofNat 15950682222483470), .int (.ofNat 2327173173236450), .int (.ofNat 11296335876010570), .int (.ofNat 18277855395719921)]), ([.str [70], .int (.ofNat 21)], .vl [.int (.ofNat 109327602384147842), .int (.ofNat 15950682222483470), .int (.ofNat 77426237939180901), .int (.ofNat 125278284606631313)]), ([.str [70], .int (.ofNat 22)], .vl [.int (.ofNat 749342534466551424), .int (.ofNat 109327602384147842), .int (.ofNat 530687329698255740), .int (.ofNat 858670136850699267)]), ([.str [70], .int (.ofNat 23)], .vl [.int (.ofNat 5136070138881712128), .int (.ofNat 749342534466551424), .int (.ofNat 3637385069948609279), .int (.ofNat 5885412673348263553)]), ([.str [70], .int (.ofNat 24)], .vl [.int (.ofNat 35203148437705433472), .int (.ofNat 5136070138881712128), .int (.ofNat 24931008159942009216), .int (.ofNat 40339218576587145601)]), ([.str [70], .int (.ofNat 25)], .vl [.int (.ofNat 241285968925056322178), .int (.ofNat 35203148437705433472), .int (.ofNat 170879672049645455233), .int (.ofNat 276489117362761755651)]), ([.str [70], .int (.ofNat 26)], .vl [.int (.ofNat 1653798634037688821774), .int (.ofNat 241285968925056322178), .int (.ofNat 1171226696187576177418), .int (.ofNat 1895084602962745143953)]), ([.str [70], .int (.ofNat 27)], .vl [.int (.ofNat 11335304469338765430242), .int (.ofNat 1653798634037688821774), .int (.ofNat 8027707201263387786693), .int (.ofNat 12989103103376454252017)]), ([.str [70], .int (.ofNat 28)], .vl [.int (.ofNat 77693332651333669189920), .int (.ofNat 11335304469338765430242), .int (.ofNat 55022723712656138329436), .int (.ofNat 89028637120672434620163)]), ([.str [70], .int (.ofNat 29)], .vl [.int (.ofNat 532518024089996918899200), .int (.ofNat 77693332651333669189920), .int (.ofNat 377131358787329580519359), .int (.ofNat 610211356741330588089121)])]
def t22 : List (List EV × EV) := [([.str [72], .int (.ofNat 0)], .tup [.int (.ofNat 1), .int (.ofNat 0), .int (.ofNat 0), .int (.ofNat 0)]), ([.str [72], .int (.ofNat 1)], .tup [.int (.ofNat 3), .int (.ofNat 1), .int (.ofNat 3), .int (.ofNat 3)]), ([.str [72], .int (.ofNat 2)], .tup [.int (.ofNat 22), .int (.ofNat 3), .int (.ofNat 15), .int (.ofNat 24)]), ([.str [72], .int (.ofNat 3)], .tup [.int (.ofNat 147), .int (.ofNat 22), .int (.ofNat 105), .int (.ofNat 168)]), ([.str [72], .int (.ofNat 4)], .tup [.int (.ofNat 1009), .int (.ofNat 147), .int (.ofNat 714), .int (.ofNat 1155)]), ([.str [72], .int (.ofNat 5)], .tup [.int (.ofNat 6912), .int (.ofNat 1009), .int (.ofNat 4896), .int (.ofNat 7920)]), ([.str [72], .int (.ofNat 6)], .tup [.int (.ofNat 47377), .int (.ofNat 6912), .int (.ofNat 33552), .int (.ofNat 54288)]), ([.str [72], .int (.ofNat 7)], .tup [.int (.ofNat 324723), .int (.ofNat 47377), .int (.ofNat 229971), .int (.ofNat 372099)]), ([.str [72], .int (.ofNat 8)], .tup [.int (.ofNat 2225686), .int (.ofNat 324723), .int (.ofNat 1576239), .int (.ofNat 2550408)]), ([.str [72], .int (.ofNat 9)], .tup [.int (.ofNat 15255075), .int (.ofNat 2225686), .int (.ofNat 10803705), .int (.ofNat 17480760)]), ([.str [72], .int (.ofNat 10)], .tup [.int (.ofNat 104559841), .int (.ofNat 15255075), .int (.ofNat 74049690), .int (.ofNat 119814915)]), ([.str [72], .int (.ofNat 11)], .tup [.int (.ofNat 716663808), .int (.ofNat 104559841), .int (.ofNat 507544128), .int (.ofNat 821223648)]), ([.str [72], .int (.ofNat 12)], .tup [.int (.ofNat 4912086817), .int (.ofNat 716663808), .int (.ofNat 3478759200), .int (.ofNat 5628750624)]), ([.str [72], .int (.ofNat 13)], .tup [.int (.ofNat 33667943907), .int (.ofNat 4912086817), .int (.ofNat 23843770275), .int (.ofNat 38580030723)]), ([.str [72], .int (.ofNat 14)], .tup [.int (.ofNat 230763520534), .int (.ofNat 33667943907), .int (.ofNat 163427632719), .int (.ofNat 264431464440)]), ([.str [72], .int (.ofNat 15)], .tup [.int (.ofNat 1581676699827), .int (.ofNat 230763520534), .int (.ofNat 1120149658761), .int (.ofNat 1812440220360)]), ([.str [72], .int (.ofNat 16)], .tup [.int (.ofNat 10840973378257), .int (.ofNat 1581676699827), .int (.ofNat 7677619978602), .int (.ofNat 12422650078083)]), ([.str [72], .int (.ofNat 17)], .tup [.int (.ofNat 74305136947968), .int (.ofNat 10840973378257), .int (.ofNat 52623190191456), .int (.ofNat 85146110326224)]), ([.str [72], .int (.ofNat 18)], .tup [.int (.ofNat 509294985257521), .int (.ofNat 74305136947968), .int (.ofNat 360684711361584), .int (.ofNat 583600122205488)]), ([.str [72], .int (.ofNat 19)], .tup [.int (.ofNat 3490759759854675), .int (.ofNat 509294985257521), .int (.ofNat 2472169789339635), .int (.ofNat 4000054745112195)]), ([.str [72], .int (.ofNat 20)], .tup [.int (.ofNat 23926023333725206), .int (.ofNat 3490759759854675), .int (.ofNat 16944503814015855), .int (.ofNat 27416783093579880)]), ([.str [72], .int (.ofNat 21)], .tup [.int (.ofNat 163991403576221763), .int (.ofNat 23926023333725206), .int (.ofNat 116139356908771353), .int (.ofNat 187917426909946968)]), ([.str [72], .int (.ofNat 22)], .tup [.int (.ofNat 1124013801699827137), .int (.ofNat 163991403576221763), .int (.ofNat 796030994547383610), .int (.ofNat 1288005205276048899)]), ([.str [72], .int (.ofNat 23)], .tup [.int (.ofNat 7704105208322568192), .int (.ofNat 1124013801699827137), .int (.ofNat 5456077604922913920), .int (.ofNat 8828119010022395328)]), ([.str [72], .int (.ofNat 24)], .tup [.int (.ofNat 52804722656558150209), .int (.ofNat 7704105208322568192), .int (.ofNat 37396512239913013824), .int (.ofNat 60508827864880718400)]), ([.str [72], .int (.ofNat 25)], .tup [.int (.ofNat 361928953387584483267), .int (.ofNat 52804722656558150209), .int (.ofNat 256319508074468182851), .int (.ofNat 414733676044142633475)]), ([.str [72], .int (.ofNat 26)], .tup [.int (.ofNat 2480697951056533232662), .int (.ofNat 361928953387584483267), .int (.ofNat 1756840044281364266127), .int (.ofNat 2842626904444117715928)]), ([.str [72], .int (.ofNat 27)], .tup [.int (.ofNat 17002956704008148145363), .int (.ofNat 2480697951056533232662), .int (.ofNat 12041560801895081680041), .int (.ofNat 19483654655064681378024)]), ([.str [72], .int (.ofNat 28)], .tup [.int (.ofNat 116539998977000503784881), .int (.ofNat 17002956704008148145363), .int (.ofNat 82534085568984207494154), .int (.ofNat 133542955681008651930243)]), ([.str [72], .int (.ofNat 29)], .tup [.int (.ofNat 798777036134995378348800), .int (.ofNat 116539998977000503784881), .int (.ofNat 565697038180994370779040), .int (.ofNat 915317035111995882133680)]), ([.str [84], .int (.ofNat 0)], .tup [.int (.ofNat 0), .int (.ofNat 1), .int (.ofNat 0), .int (.ofNat 0)]), ([.str [84], .int (.ofNat 1)], .tup [.int (.ofNat 1), .int (.ofNat 0), .int (.ofNat 0), .int (.ofNat 0)]), ([.str [84], .int (.ofNat 2)], .tup [.int (.ofNat 3), .int (.ofNat 1), .int (.ofNat 3), .int (.ofNat 3)]), ([.str [84], .int (.ofNat 3)], .tup [.int (.ofNat 22), .int (.ofNat 3), .int (.ofNat 15), .int (.ofNat 24)]), ([.str [84], .int (.ofNat 4)], .tup [.int (.ofNat 147), .int (.ofNat 22), .int (.ofNat 105), .int (.ofNat 168)]), ([.str [84], .int (.ofNat 5)], .tup [.int (.ofNat 1009), .int (.ofNat 147), .int (.ofNat 714), .int (.ofNat 1155)]), ([.str [84], .int (.ofNat 6)], .tup [.int (.ofNat 6912), .int (.ofNat 1009), .int (.ofNat 4896), .int (.ofNat 7920)]), ([.str [84], .int (.ofNat 7)], .tup [.int (.ofNat 47377), .int (.ofNat 6912), .int (.ofNat 33552), .int (.ofNat 54288)]), ([.str [84], .int (.ofNat 8)], .tup [.int (.ofNat 324723), .int (.ofNat 47377), .int (.ofNat 229971), .int (.ofNat 372099)]), ([.str [84], .int (.ofNat 9)], .tup [.int (.ofNat 2225686), .int (.ofNat 324723), .int (.ofNat 1576239), .int (.ofNat 2550408)]), ([.str [84], .int (.ofNat 10)], .tup [.int (.ofNat 15255075), .int (.ofNat 2225686), .int (.ofNat 10803705), .int (.ofNat 17480760)]), ([.str [84], .int (.ofNat 11)], .tup [.int (.ofNat 104559841), .int (.ofNat 15255075), .int (.ofNat 74049690), .int (.ofNat 119814915)]), ([.str [84], .int (.ofNat 12)], .tup [.int (.ofNat 716663808), .int (.ofNat 104559841), .int (.ofNat 507544128), .int (.ofNat 821223648)]), ([.str [84], .int (.ofNat 13)], .tup [.int (.ofNat 4912086817), .int (.ofNat 716663808), .int (.ofNat 3478759200), .int (.ofNat 5628750624)]), ([.str [84], .int (.ofNat 14)], .tup [.int (.ofNat 33667943907), .int (.ofNat 4912086817), .int (.ofNat 23843770275), .int (.ofNat 38580030723)]), ([.str [84], .int (.ofNat 15)], .tup [.int (.ofNat 230763520534), .int (.ofNat 33667943907), .int (.ofNat 163427632719), .int (.ofNat 264431464440)]), ([.str [84], .int (.ofNat 16)], .tup [.int (.ofNat 1581676699827), .int (.ofNat 230763520534), .int (.ofNat 1120149658761), .int (.ofNat 1812440220360)]), ([.str [84], .int (.ofNat 17)], .tup [.int (.ofNat 10840973378257), .int (.ofNat 1581676699827), .int (.ofNat 7677619978602), .int (.ofNat 12422650078083)]), ([.str [84], .int (.ofNat 18)], .tup [.int (.ofNat 74305136947968), .int (.ofNat 10840973378257), .int (.ofNat 52623190191456), .int (.ofNat 85146110326224)]), ([.str [84], .int (.ofNat 19)], .tup [.int (.ofNat 509294985257521), .int (.ofNat 74305136947968), .int (.ofNat 360684711361584), .int (.ofNat 583600122205488)]), ([.str [84], .int (.ofNat 20)], .tup [.int (.ofNat 3490759759854675), .int (.ofNat 509294985257521), .int (.ofNat 2472169789339635), .int (.ofNat 4000054745112195)]), ([.str [84], .int (.ofNat 21)], .tup [.int (.ofNat 23926023333725206), .int (.ofNat 3490759759854675), .int (.ofNat 16944503814015855), .int (.ofNat 27416783093579880)]), ([.str [84], .int (.ofNat 22)], .tup [.int (.ofNat 163991403576221763), .int (.ofNat 23926023333725206), .int (.ofNat 116139356908771353), .int (.ofNat 187917426909946968)]), ([.str [84], .int (.ofNat 23)], .tup [.int (.ofNat 1124013801699827137), .int (.ofNat 163991403576221763), .int (.ofNat 796030994547383610), .int (.ofNat 1288005205276048899)]), ([.str [84], .int (.ofNat 24)], .tup [.int (.ofNat 7704105208322568192), .int (.ofNat 1124013801699827137), .int (.ofNat 5456077604922913920), .int (.ofNat 8828119010022395328)]), ([.str [84], .int (.ofNat 25)], .tup [.int (.ofNat 52804722656558150209), .int (.ofNat 7704105208322568192), .int (.ofNat 37396512239913013824), .int (.ofNat 60508827864880718400)]), ([.str [84], .int (.ofNat 26)], .tup [.int (.ofNat 361928953387584483267), .int (.ofNat 52804722656558150209), .int (.ofNat 256319508074468182851), .int (.ofNat 414733676044142633475)]), ([.str [84], .int (.ofNat 27)], .tup [.int (.ofNat 2480697951056533232662), .int (.ofNat 361928953387584483267), .int (.ofNat 1756840044281364266127), .int (.ofNat 2842626904444117715928)]), ([.str [84], .int (.ofNat 28)], .tup [.int (.ofNat 17002956704008148145363), .int (.ofNat 2480697951056533232662), .int (.ofNat 12041560801895081680041), .int (.ofNat 19483654655064681378024)]), ([.str [84], .int (.ofNat 29)], .tup [.int (.ofNat 116539998977000503784881), .int (.ofNat 17002956704008148145363), .int (.ofNat 82534085568984207494154), .int (.ofNat 133542955681008651930243)]), ([.str [80], .int (.ofNat 0)], .tup [.int (.ofNat 0), .int (.ofNat 0), .int (.ofNat 1), .int (.ofNat 0)]), ([.str [80], .int (.ofNat 1)], .tup [.int (.ofNat 2), .int (.ofNat 0), .int (.ofNat 1), .int (.ofNat 2)]), ([.str [80], .int (.ofNat 2)], .tup [.int (.ofNat 12), .int (.ofNat 2), .int (.ofNat 9), .int (.ofNat 14)]), ([.str [80], .int (.ofNat 3)], .tup [.int (.ofNat 84), .int (.ofNat 12), .int (.ofNat 59), .int (.ofNat 96)]), ([.str [80], .int (.ofNat 4)], .tup [.int (.ofNat 574), .int (.ofNat 84), .int (.ofNat 407), .int (.ofNat 658)]), ([.str [80], .int (.ofNat 5)], .tup [.int (.ofNat 3936), .int (.ofNat 574), .int (.ofNat 2787), .int (.ofNat 4510)]), ([.str [80], .int (.ofNat 6)], .tup [.int (.ofNat 26976), .int (.ofNat 3936), .int (.ofNat 19105), .int (.ofNat 30912)]), ([.str [80], .int (.ofNat 7)], .tup [.int (.ofNat 184898), .int (.ofNat 26976), .int (.ofNat 130945), .int (.ofNat 211874)]), ([.str [80], .int (.ofNat 8)], .tup [.int (.ofNat 1267308), .int (.ofNat 184898), .int (.ofNat 897513), .int (.ofNat 1452206)]), ([.str [80], .int (.ofNat 9)], .tup [.int (.ofNat 8686260), .int (.ofNat 1267308), .int (.ofNat 6151643), .int (.ofNat 9953568)]), ([.str [80], .int (.ofNat 10)], .tup [.int (.ofNat 59536510), .int (.ofNat 8686260), .int (.ofNat 42163991), .int (.ofNat 68222770)]), ([.str [80], .int (.ofNat 11)], .tup [.int (.ofNat 408069312), .int (.ofNat 59536510), .int (.ofNat 288996291), .int (.ofNat 467605822)]), ([.str [80], .int (.ofNat 12)], .tup [.int (.ofNat 2796948672), .int (.ofNat 408069312), .int (.ofNat 1980810049), .int (.ofNat 3205017984)]), ([.str [80], .int (.ofNat 13)], .tup [.int (.ofNat 19170571394), .int (.ofNat 2796948672), .int (.ofNat 13576674049), .int (.ofNat 21967520066)]), ([.str [80], .int (.ofNat 14)], .tup [.int (.ofNat 131397051084), .int (.ofNat 19170571394), .int (.ofNat 93055908297), .int (.ofNat 150567622478)]), ([.str [80], .int (.ofNat 15)], .tup [.int (.ofNat 900608786196), .int (.ofNat 131397051084), .int (.ofNat 637814684027), .int (.ofNat 1032005837280)]), ([.str [80], .int (.ofNat 16)], .tup [.int (.ofNat 6172864452286), .int (.ofNat 900608786196), .int (.ofNat 4371646879895), .int (.ofNat 7073473238482)]), ([.str [80], .int (.ofNat 17)], .tup [.int (.ofNat 42309442379808), .int (.ofNat 6172864452286), .int (.ofNat 29963713475235), .int (.ofNat 48482306832094)]), ([.str [80], .int (.ofNat 18)], .tup [.int (.ofNat 289993232206368), .int (.ofNat 42309442379808), .int (.ofNat 205374347446753), .int (.ofNat 332302674586176)]), ([.str [80], .int (.ofNat 19)], .tup [.int (.ofNat 1987643183064770), .int (.ofNat 289993232206368), .int (.ofNat 1407656718652033), .int (.ofNat 2277636415271138)]), ([.str [80], .int (.ofNat 20)], .tup [.int (.ofNat 13623509049247020), .int (.ofNat 1987643183064770), .int (.ofNat 9648222683117481), .int (.ofNat 15611152232311790)]), ([.str [80], .int (.ofNat 21)], .tup [.int (.ofNat 93376920161664372), .int (.ofNat 13623509049247020), .int (.ofNat 66129902063170331), .int (.ofNat 107000429210911392)]), ([.str [80], .int (.ofNat 22)], .tup [.int (.ofNat 640014932082403582), .int (.ofNat 93376920161664372), .int (.ofNat 453261091759074839), .int (.ofNat 733391852244067954)]), ([.str [80], .int (.ofNat 23)], .tup [.int (.ofNat 4386727604415160704), .int (.ofNat 640014932082403582), .int (.ofNat 3106697740250353539), .int (.ofNat 5026742536497564286)]), ([.str [80], .int (.ofNat 24)], .tup [.int (.ofNat 30067078298823721344), .int (.ofNat 4386727604415160704), .int (.ofNat 21293623089993399937), .int (.ofNat 34453805903238882048)]), ([.str [80], .int (.ofNat 25)], .tup [.int (.ofNat 206082820487350888706), .int (.ofNat 30067078298823721344), .int (.ofNat 145948663889703446017), .int (.ofNat 236149898786174610050)]), ([.str [80], .int (.ofNat 26)], .tup [.int (.ofNat 1412512665112632499596), .int (.ofNat 206082820487350888706), .int (.ofNat 1000347024137930722185), .int (.ofNat 1618595485599983388302)]), ([.str [80], .int (.ofNat 27)], .tup [.int (.ofNat 9681505835301076608468), .int (.ofNat 1412512665112632499596), .int (.ofNat 6856480505075811609275), .int (.ofNat 11094018500413709108064)]), ([.str [80], .int (.ofNat 28)], .tup [.int (.ofNat 66358028181994903759678), .int (.ofNat 9681505835301076608468), .int (.ofNat 46995016511392750542743), .int (.ofNat 76039534017295980368146)]), ([.str [80], .int (.ofNat 29)], .tup [.int (.ofNat 454824691438663249709280), .int (.ofNat 66358028181994903759678), .int (.ofNat 322108635074673442189923), .int (.ofNat 521182719620658153468958)]), ([.str [70], .int (.ofNat 0)], .tup [.int (.ofNat 0), .int (.ofNat 0), .int (.ofNat 0), .int (.ofNat 1)]), ([.str [70], .int (.ofNat 1)], .tup [.int (.ofNat 2), .int (.ofNat 0), .int (.ofNat 1), .int (.ofNat 3)]), ([.str [70], .int (.ofNat 2)], .tup [.int (.ofNat 14), .int (.ofNat 2), .int (.ofNat 10), .int (.ofNat 17)]), ([.str [70], .int (.ofNat 3)], .tup [.int (.ofNat 98), .int (.ofNat 14), .int (.ofNat 69), .int (.ofNat 113)]), ([.str [70], .int (.ofNat 4)], .tup [.int (.ofNat 672), .int (.ofNat 98), .int (.ofNat 476), .int (.ofNat 771)]), ([.str [70], .int (.ofNat 5)], .tup [.int (.ofNat 4608), .int (.ofNat 672), .int (.ofNat 3263), .int (.ofNat 5281)]), ([.str [70], .int (.ofNat 6)], .tup [.int (.ofNat 31584), .int (.ofNat 4608), .int (.ofNat 22368), .int (.ofNat 36193)]), ([.str [70], .int (.ofNat 7)], .tup [.int (.ofNat 216482), .int (.ofNat 31584), .int (.ofNat 153313), .int (.ofNat 248067)]), ([.str [70], .int (.ofNat 8)], .tup [.int (.ofNat 1483790), .int (.ofNat 216482), .int (.ofNat 1050826), .int (.ofNat 1700273)]), ([.str [70], .int (.ofNat 9)], .tup [.int (.ofNat 10170050), .int (.ofNat 1483790), .int (.ofNat 7202469), .int (.ofNat 11653841)]), ([.str [70], .int (.ofNat 10)], .tup [.int (.ofNat 69706560), .int (.ofNat 10170050), .int (.ofNat 49366460), .int (.ofNat 79876611)]), ([.str [70], .int (.ofNat 11)], .tup [.int (.ofNat 477775872), .int (.ofNat 69706560), .int (.ofNat 338362751), .int (.ofNat 547482433)]), ([.str [70], .int (.ofNat 12)], .tup [.int (.ofNat 3274724544), .int (.ofNat 477775872), .int (.ofNat 2319172800), .int (.ofNat 3752500417)]), ([.str [70], .int (.ofNat 13)], .tup [.int (.ofNat 22445295938), .int (.ofNat 3274724544), .int (.ofNat 15895846849), .int (.ofNat 25720020483)]), ([.str [70], .int (.ofNat 14)], .tup [.int (.ofNat 153842347022), .int (.ofNat 22445295938), .int (.ofNat 108951755146), .int (.ofNat 176287642961)]), ([.str [70], .int (.ofNat 15)], .tup [.int (.ofNat 1054451133218), .int (.ofNat 153842347022), .int (.ofNat 746766439173), .int (.ofNat 1208293480241)]), ([.str [70], .int (.ofNat 16)], .tup [.int (.ofNat 7227315585504), .int (.ofNat 1054451133218), .int (.ofNat 5118413319068), .int (.ofNat 8281766718723)]), ([.str [70], .int (.ofNat 17)], .tup [.int (.ofNat 49536757965312), .int (.ofNat 7227315585504), .int (.ofNat 35082126794303), .int (.ofNat 56764073550817)]), ([.str [70], .int (.ofNat 18)], .tup [.int (.ofNat 339529990171680), .int (.ofNat 49536757965312), .int (.ofNat 240456474241056), .int (.ofNat 389066748136993)]), ([.str [70], .int (.ofNat 19)], .tup [.int (.ofNat 2327173173236450), .int (.ofNat 339529990171680), .int (.ofNat 1648113192893089), .int (.ofNat 2666703163408131)]), ([.str [70], .int (.ofNat 20)], .tup [.int (.ofNat 15950682222483470), .int (.ofNat 2327173173236450), .int (.ofNat 11296335876010570), .int (.ofNat 18277855395719921)]), ([.str [70], .int (.ofNat 21)], .tup [.int (.ofNat 109327602384147842), .int (.ofNat 15950682222483470), .int (.ofNat 77426237939180901), .int (.ofNat 125278284606631313)]), ([.str [70], .int (.ofNat 22)], .tup [.int (.ofNat 749342534466551424), .int (.ofNat 109327602384147842), .int (.ofNat 530687329698255740), .int (.ofNat 858670136850699267)]), ([.str [70], .int (.ofNat 23)], .tup [.int (.ofNat 5136070138881712128), .int (.ofNat 749342534466551424), .int (.ofNat 3637385069948609279), .int (.ofNat 5885412673348263553)]), ([.str [70], .int (.ofNat 24)], .tup [.int (.ofNat 35203148437705433472), .int (.ofNat 5136070138881712128), .int (.ofNat 24931008159942009216), .int (.ofNat 40339218576587145601)]), ([.str [70], .int (.ofNat 25)], .tup [.int (.ofNat 241285968925056322178), .int (.ofNat 35203148437705433472), .int (.ofNat 170879672049645455233), .int (.ofNat 276489117362761755651)]), ([.str [70], .int (.ofNat 26)], .tup [.int (.ofNat 1653798634037688821774), .int (.ofNat 241285968925056322178), .int (.ofNat 1171226696187576177418), .int (.ofNat 1895084602962745143953)]), ([.str [70], .int (.ofNat 27)], .tup [.int (.ofNat 11335304469338765430242), .int (.ofNat 1653798634037688821774), .int (.ofNat 8027707201263387786693), .int (.ofNat 12989103103376454252017)]), ([.str [70], .int (.ofNat 28)], .tup [.int (.ofNat 77693332651333669189920), .int (.ofNat 11335304469338765430242), .int (.ofNat 55022723712656138329436), .int (.ofNat 89028637120672434620163)]), ([.str [70], .int (.ofNat 29)], .tup [.int (.ofNat 532518024089996918899200), .int (.ofNat 77693332651333669189920), .int (.ofNat 377131358787329580519359), .int (.ofNat 610211356741330588089121)])]
def F2 : List FD := [.dp 1 n0.length b0, .df 2 n1.length b1, .dp 0 n2.length b2, .dp 1 n3.length b3, .dp 2 n4.length b4, .prim 0 (tabE t5), .prim 0 (tabE t6), .dp 2 n7.length b7, .dp 0 n8.length b8, .dp 2 n9.length b9, .dp 3 n10.length b10, .draw, .dp 2 n12.length b12, .prim 1 (tabE t13), .dp 2 n14.length b14, .dp 1 n15.length b15, .dp 3 n16.length b16, .dp 2 n17.length b17, .dp 1 n18.length b18, .dp 2 n19.length b19, .dp 1 n20.length b20, .dp 3 n21.length b21, .prim 1 (tabE t22), .dp 1 n23.length b23, .dp 2 n24.length b24, .dp 1 n25.length b25, .dp 1 n26.length b26]
abbrev FF : List FD := F2
def TB : Tb := ⟨gls, fns, kws⟩
def body := PySem.Challenge.pw_onehat_k41_whole_shares.main.body
def top (i : Nat) : Stmt := body.getD i (.Pass ⟨0, 0, 0, 0⟩)
abbrev st0 : Stmt := top 21
def dd0 : He.DefD := ⟨("share_of_kind", none), "share_of_kind", "share_of_kind", defArgs st0, defBody st0, defScope st0, [], []⟩
theorem ok0 : okSts b0 TB n0 (defScope st0) (fun _ => true) (defBody st0) = true := by decide +kernel
theorem sc0 : FnScope n0 ["kind"] (defScope st0) := ⟨rfl, rfl, rfl, by decide +kernel, rfl, by decide +kernel, by decide +kernel⟩
abbrev st1 : Stmt := top 35
def dd1 : He.DefD := ⟨("_law_same", none), "_law_same", "_law_same", defArgs st1, defBody st1, defScope st1, [], []⟩
theorem ok1 : okSts b1 TB n1 (defScope st1) (fun _ => true) (defBody st1) = true := by decide +kernel
theorem sc1 : FnScope n1 ["found", "due"] (defScope st1) := ⟨rfl, rfl, rfl, by decide +kernel, rfl, by decide +kernel, by decide +kernel⟩
abbrev st2 : Stmt := top 24
def dd2 : He.DefD := ⟨("golden", none), "golden", "golden", defArgs st2, defBody st2, defScope st2, [], []⟩
theorem ok2 : okSts b2 TB n2 (defScope st2) (fun _ => true) (defBody st2) = true := by decide +kernel
theorem sc2 : FnScope n2 [] (defScope st2) := ⟨rfl, rfl, rfl, by decide +kernel, rfl, by decide +kernel, by decide +kernel⟩
abbrev st3 : Stmt := top 42
def dd3 : He.DefD := ⟨("_law_sum", none), "_law_sum", "_law_sum", defArgs st3, defBody st3, defScope st3, [], []⟩
theorem ok3 : okSts b3 TB n3 (defScope st3) (fun _ => true) (defBody st3) = true := by decide +kernel
theorem sc3 : FnScope n3 ["roots"] (defScope st3) := ⟨rfl, rfl, rfl, by decide +kernel, rfl, by decide +kernel, by decide +kernel⟩
abbrev st4 : Stmt := top 40
def dd4 : He.DefD := ⟨("_law_times", none), "_law_times", "_law_times", defArgs st4, defBody st4, defScope st4, [], []⟩
theorem ok4 : okSts b4 TB n4 (defScope st4) (fun _ => true) (defBody st4) = true := by decide +kernel
theorem sc4 : FnScope n4 ["one", "other"] (defScope st4) := ⟨rfl, rfl, rfl, by decide +kernel, rfl, by decide +kernel, by decide +kernel⟩
abbrev st5 : Stmt := top 36
def dd5 : He.DefD := ⟨("_law_l_kids", none), "_law_l_kids", "_law_l_kids", defArgs st5, defBody st5, defScope st5, [], []⟩
theorem ok5 : okSts b5 TB n5 (defScope st5) (fun _ => true) (defBody st5) = true := by decide +kernel
theorem sc5 : FnScope n5 ["kind"] (defScope st5) := ⟨rfl, rfl, rfl, by decide +kernel, rfl, by decide +kernel, by decide +kernel⟩
abbrev st6 : Stmt := top 37
def dd6 : He.DefD := ⟨("_law_l_zero", none), "_law_l_zero", "_law_l_zero", defArgs st6, defBody st6, defScope st6, [], []⟩
theorem ok6 : okSts b6 TB n6 (defScope st6) (fun _ => true) (defBody st6) = true := by decide +kernel
theorem sc6 : FnScope n6 ["kind"] (defScope st6) := ⟨rfl, rfl, rfl, by decide +kernel, rfl, by decide +kernel, by decide +kernel⟩
abbrev st7 : Stmt := top 22
def dd7 : He.DefD := ⟨("share_of_label", none), "share_of_label", "share_of_label", defArgs st7, defBody st7, defScope st7, [], []⟩
theorem ok7 : okSts b7 TB n7 (defScope st7) (fun _ => true) (defBody st7) = true := by decide +kernel
theorem sc7 : FnScope n7 ["kind", "index"] (defScope st7) := ⟨rfl, rfl, rfl, by decide +kernel, rfl, by decide +kernel, by decide +kernel⟩
abbrev st8 : Stmt := top 23
def dd8 : He.DefD := ⟨("share_turned", none), "share_turned", "share_turned", defArgs st8, defBody st8, defScope st8, [], []⟩
theorem ok8 : okSts b8 TB n8 (defScope st8) (fun _ => true) (defBody st8) = true := by decide +kernel
theorem sc8 : FnScope n8 [] (defScope st8) := ⟨rfl, rfl, rfl, by decide +kernel, rfl, by decide +kernel, by decide +kernel⟩
abbrev st9 : Stmt := top 30
def dd9 : He.DefD := ⟨("hat_counts", none), "hat_counts", "hat_counts", defArgs st9, defBody st9, defScope st9, [], []⟩
theorem ok9 : okSts b9 TB n9 (defScope st9) (fun _ => true) (defBody st9) = true := by decide +kernel
theorem sc9 : FnScope n9 ["kind", "n"] (defScope st9) := ⟨rfl, rfl, rfl, by decide +kernel, rfl, by decide +kernel, by decide +kernel⟩
abbrev st10 : Stmt := top 43
def dd10 : He.DefD := ⟨("_law_near", none), "_law_near", "_law_near", defArgs st10, defBody st10, defScope st10, [], []⟩
theorem ok10 : okSts b10 TB n10 (defScope st10) (fun _ => true) (defBody st10) = true := by decide +kernel
theorem sc10 : FnScope n10 ["root", "many", "whole"] (defScope st10) := ⟨rfl, rfl, rfl, by decide +kernel, rfl, by decide +kernel, by decide +kernel⟩
abbrev st11 : Stmt := top 33
def dd11 : He.DefD := ⟨("_law_draw", none), "_law_draw", "_law_draw", defArgs st11, defBody st11, defScope st11, [], []⟩
theorem ok11 : okSts bD TbD nD (defScope st11) (fun _ => true) (defBody st11) = true := by decide +kernel
theorem sc11 : FnScope nD ["stream", "many"] (defScope st11) := ⟨rfl, rfl, rfl, by decide +kernel, rfl, by decide +kernel, by decide +kernel⟩
abbrev st12 : Stmt := top 34
def dd12 : He.DefD := ⟨("_law_pick", none), "_law_pick", "_law_pick", defArgs st12, defBody st12, defScope st12, [], []⟩
theorem ok12 : okSts b12 TB n12 (defScope st12) (fun _ => true) (defBody st12) = true := by decide +kernel
theorem sc12 : FnScope n12 ["stream", "things"] (defScope st12) := ⟨rfl, rfl, rfl, by decide +kernel, rfl, by decide +kernel, by decide +kernel⟩
abbrev st13 : Stmt := top 38
def dd13 : He.DefD := ⟨("_law_l_counts", none), "_law_l_counts", "_law_l_counts", defArgs st13, defBody st13, defScope st13, [], []⟩
theorem ok13 : okSts b13 TB n13 (defScope st13) (fun _ => true) (defBody st13) = true := by decide +kernel
theorem sc13 : FnScope n13 ["kind", "n"] (defScope st13) := ⟨rfl, rfl, rfl, by decide +kernel, rfl, by decide +kernel, by decide +kernel⟩
abbrev st14 : Stmt := top 39
def dd14 : He.DefD := ⟨("_law_l_many", none), "_law_l_many", "_law_l_many", defArgs st14, defBody st14, defScope st14, [], []⟩
theorem ok14 : okSts b14 TB n14 (defScope st14) (fun _ => true) (defBody st14) = true := by decide +kernel
theorem sc14 : FnScope n14 ["kind", "n"] (defScope st14) := ⟨rfl, rfl, rfl, by decide +kernel, rfl, by decide +kernel, by decide +kernel⟩
abbrev st15 : Stmt := top 10
def dd15 : He.DefD := ⟨("need_kind", none), "need_kind", "need_kind", defArgs st15, defBody st15, defScope st15, [], []⟩
theorem ok15 : okSts b15 TB n15 (defScope st15) (fun _ => true) (defBody st15) = true := by decide +kernel
theorem sc15 : FnScope n15 ["kind"] (defScope st15) := ⟨rfl, rfl, rfl, by decide +kernel, rfl, by decide +kernel, by decide +kernel⟩
abbrev st16 : Stmt := top 41
def dd16 : He.DefD := ⟨("_law_lowest", none), "_law_lowest", "_law_lowest", defArgs st16, defBody st16, defScope st16, [], []⟩
theorem ok16 : okSts b16 TB n16 (defScope st16) (fun _ => true) (defBody st16) = true := by decide +kernel
theorem sc16 : FnScope n16 ["x", "y", "z"] (defScope st16) := ⟨rfl, rfl, rfl, by decide +kernel, rfl, by decide +kernel, by decide +kernel⟩
abbrev st17 : Stmt := top 20
def dd17 : He.DefD := ⟨("product_by", none), "product_by", "product_by", defArgs st17, defBody st17, defScope st17, [], []⟩
theorem ok17 : okSts b17 TB n17 (defScope st17) (fun _ => true) (defBody st17) = true := by decide +kernel
theorem sc17 : FnScope n17 ["one", "other"] (defScope st17) := ⟨rfl, rfl, rfl, by decide +kernel, rfl, by decide +kernel, by decide +kernel⟩
abbrev st18 : Stmt := top 17
def dd18 : He.DefD := ⟨("is_whole_shares", none), "is_whole", "is_whole", defArgs st18, defBody st18, defScope st18, [], []⟩
theorem ok18 : okSts b18 TB n18 (defScope st18) (fun _ => true) (defBody st18) = true := by decide +kernel
theorem sc18 : FnScope n18 ["thing"] (defScope st18) := ⟨rfl, rfl, rfl, by decide +kernel, rfl, by decide +kernel, by decide +kernel⟩
abbrev st19 : Stmt := top 29
def dd19 : He.DefD := ⟨("hats_by", none), "hats_by", "hats_by", defArgs st19, defBody st19, defScope st19, [], []⟩
theorem ok19 : okSts b19 TB n19 (defScope st19) (fun _ => true) (defBody st19) = true := by decide +kernel
theorem sc19 : FnScope n19 ["kind", "n"] (defScope st19) := ⟨rfl, rfl, rfl, by decide +kernel, rfl, by decide +kernel, by decide +kernel⟩
abbrev st20 : Stmt := top 11
def dd20 : He.DefD := ⟨("need_level", none), "need_level", "need_level", defArgs st20, defBody st20, defScope st20, [], []⟩
theorem ok20 : okSts b20 TB n20 (defScope st20) (fun _ => true) (defBody st20) = true := by decide +kernel
theorem sc20 : FnScope n20 ["n"] (defScope st20) := ⟨rfl, rfl, rfl, by decide +kernel, rfl, by decide +kernel, by decide +kernel⟩
abbrev st21 : Stmt := top 19
def dd21 : He.DefD := ⟨("lowest", none), "lowest", "lowest", defArgs st21, defBody st21, defScope st21, [], []⟩
theorem ok21 : okSts b21 TB n21 (defScope st21) (fun _ => true) (defBody st21) = true := by decide +kernel
theorem sc21 : FnScope n21 ["x", "y", "z"] (defScope st21) := ⟨rfl, rfl, rfl, by decide +kernel, rfl, by decide +kernel, by decide +kernel⟩
abbrev st22 : Stmt := top 28
def dd22 : He.DefD := ⟨("groups_counted", none), "groups_counted", "groups_counted", defArgs st22, defBody st22, defScope st22, [], []⟩
theorem ok22 : okSts b22 TB n22 (defScope st22) (fun _ => true) (defBody st22) = true := by decide +kernel
theorem sc22 : FnScope n22 ["kind", "n"] (defScope st22) := ⟨rfl, rfl, rfl, by decide +kernel, rfl, by decide +kernel, by decide +kernel⟩
abbrev st23 : Stmt := top 3
def dd23 : He.DefD := ⟨("is_number", none), "is_number", "is_number", defArgs st23, defBody st23, defScope st23, [], []⟩
theorem ok23 : okSts b23 TB n23 (defScope st23) (fun _ => true) (defBody st23) = true := by decide +kernel
theorem sc23 : FnScope n23 ["thing"] (defScope st23) := ⟨rfl, rfl, rfl, by decide +kernel, rfl, by decide +kernel, by decide +kernel⟩
abbrev st24 : Stmt := top 16
def dd24 : He.DefD := ⟨("divisor", none), "divisor", "divisor", defArgs st24, defBody st24, defScope st24, [], []⟩
theorem ok24 : okSts b24 TB n24 (defScope st24) (fun _ => true) (defBody st24) = true := by decide +kernel
theorem sc24 : FnScope n24 ["one", "other"] (defScope st24) := ⟨rfl, rfl, rfl, by decide +kernel, rfl, by decide +kernel, by decide +kernel⟩
abbrev st25 : Stmt := top 27
def dd25 : He.DefD := ⟨("led_down", none), "led_down", "led_down", defArgs st25, defBody st25, defScope st25, [], []⟩
theorem ok25 : okSts b25 TB n25 (defScope st25) (fun _ => true) (defBody st25) = true := by decide +kernel
theorem sc25 : FnScope n25 ["numbers"] (defScope st25) := ⟨rfl, rfl, rfl, by decide +kernel, rfl, by decide +kernel, by decide +kernel⟩
abbrev st26 : Stmt := top 1
def dd26 : He.DefD := ⟨("is_whole_basics", none), "is_whole", "is_whole", defArgs st26, defBody st26, defScope st26, [], []⟩
theorem ok26 : okSts b26 TB n26 (defScope st26) (fun _ => true) (defBody st26) = true := by decide +kernel
theorem sc26 : FnScope n26 ["thing"] (defScope st26) := ⟨rfl, rfl, rfl, by decide +kernel, rfl, by decide +kernel, by decide +kernel⟩
abbrev stS : Stmt := top 32
def ddS : He.DefD := ⟨("_law_stream", none), "_law_stream", "_law_stream", defArgs stS, defBody stS, defScope stS, [], []⟩
theorem scS : FnScope ["script"] ["script"] (defScope stS) := ⟨rfl, rfl, rfl, by decide +kernel, rfl, by decide +kernel, by decide +kernel⟩
abbrev stL : Stmt := top 44
def ddL : He.DefD := ⟨("law", none), "law", "law", defArgs stL, defBody stL, defScope stL, [], []⟩
theorem scL : FnScope nL ["script"] (defScope stL) := ⟨rfl, rfl, rfl, by decide +kernel, rfl, by decide +kernel, by decide +kernel⟩
def fn : List He.DefD := [dd0, dd1, dd2, dd3, dd4, dd5, dd6, dd7, dd8, dd9, dd10, dd11, dd12, dd13, dd14, dd15, dd16, dd17, dd18, dd19, dd20, dd21, dd22, dd23, dd24, dd25, dd26, ddS, ddL]
def fa : List He.Fa := (fns.map fun q => He.Fa.glo q.1) ++ [.glo "_law_stream", .glo "law"] ++ freeN.map He.Fa.free
end K41

set_option Elab.async false
set_option linter.all false
set_option maxRecDepth 100000
set_option maxHeartbeats 0
namespace K41
open Ev PySem PySem.Spec PyProof.Rows L2
abbrev R : PySem.W.OpenRow := PySem.W.OpenLaw.row PySem.Challenge.rw_onehat_k41_whole_shares
def nameOf : Stmt → Option PySem.Str
  | .FunctionDef n .. => some n
  | .ClassDef n .. => some n
  | .Assign [.Name n _] _ _ => some n
  | _ => none
def lawAt : Nat := body.length - 1
def loose : List PySem.Str := ((body.take lawAt).filterMap nameOf).filter (fun n => n != ("__name__" : PySem.Str))
abbrev hk : PySem.W.Hook := hookL 4 fa fn gls GG
def ob (s : PySem.W.SharedT) : He.AlT × Bool := obsE 4 fa fn (tabsOf gls GG) (fun K => glsB K gls GG) (HandSHeadRun.getT s)
theorem ob_eq (s : PySem.W.SharedT) : ob s = hk.obs s.abs := obsE_eq (HandSHeadRun.getT_eq s)
theorem runF (w : World) : HandSHeadRun.RunEq R (PySem.W.view R.prog [lawAt]) hk ob 6000 loose (w.withFollow "special-get-raises" false) := by
  intro os
  kernel_rfl
theorem runT (w : World) : HandSHeadRun.RunEq R (PySem.W.view R.prog [lawAt]) hk ob 6000 loose (w.withFollow "special-get-raises" true) := by
  intro os
  kernel_rfl
theorem run (w : World) : HandSHeadRun.RunEq R (PySem.W.view R.prog [lawAt]) hk ob 6000 loose w := PySem.W.byRow2 "special-get-raises" runF runT w
end K41

set_option Elab.async false
set_option linter.all false
set_option maxRecDepth 100000
set_option maxHeartbeats 0
namespace K41
open Ev PySem PySem.Spec PyProof.Rows L2
section
variable {P : Program} {w : World} {K : PySem.W.Frag} {h : Heap} {mg : Str → Option Value} {base : Heap}
abbrev Dd (K : PySem.W.Frag) (w : World) (z l : Addr) (b : Nat) : Gd := Dof K (fun _ => 0) (kdOf K w) z l b
abbrev Wo (P : Program) (w : World) (K : PySem.W.Frag) (mg : Str → Option Value) (base : Heap) : Wd := ⟨P, w, K, mg, base⟩
theorem nodbg (i : Nat) (x : Str) (n : Nat) (h : TB.fn[i]? = some (x, n)) : (x == ("__debug__" : Str)) = false := by
  have : TB.fn.all (fun q => !(q.1 == ("__debug__" : Str))) = true := by decide +kernel
  have := List.all_eq_true.mp this _ (List.mem_of_getElem? h)
  simpa using this
theorem bs (hd : Hd fa fn gls GG w K h mg) (z l : Addr) (b : Nat) : Base (Dd K w z l b) (Wo P w K mg base) TB GG := base_ok hd rfl (fun x hx => List.mem_append_right _ (List.mem_map_of_mem hx)) nodbg _ Dof_ok rfl rfl
theorem fact0 (hd : Hd fa fn gls GG w K h mg) (z l : Addr) {b : Nat} (hb : b < 2 ^ 39) {F : List FD} (e : F[0]? = some (.dp 1 n0.length b0)) : ∃ f fd ps, Fact (Dd K w z l b) (Wo P w K mg base) TB F 0 "share_of_kind" 1 f fd ps := by
  obtain ⟨fd, Fu⟩ := hd.c.d.def_ 0 (d := dd0) rfl
  refine ⟨_, fd, ["kind"], rfl, He.glo_ok hd.X hd.ns (hd.c.d.fact 0 rfl), Fu.kp, Fu.bindsN fun _ _ _ _ _ _ us hl => match us, hl with | [_], _ => rfl, fun ks ix hk => ?_, ?_⟩
  · have hk : (ks = (["kind"] : List PySem.Str) ∧ ix = [0]) := by simpa [TB, kws] using hk
    rcases hk with ⟨rfl, rfl⟩
    · exact FunD.kbn (n := 0) Fu fun _ _ _ _ _ _ us ws hu hw => match us, ws, hu, hw with | [], [_], _, _ => rfl
  · exact .inl ⟨b0, n0, _, _, _, _, _, .inr e, Fu, sc0, ok0⟩
theorem fact1 (hd : Hd fa fn gls GG w K h mg) (z l : Addr) {b : Nat} (hb : b < 2 ^ 39) {F : List FD} (e : F[1]? = some (.df 2 n1.length b1)) : ∃ f fd ps, Fact (Dd K w z l b) (Wo P w K mg base) TB F 1 "_law_same" 2 f fd ps := by
  obtain ⟨fd, Fu⟩ := hd.c.d.def_ 1 (d := dd1) rfl
  refine ⟨_, fd, ["found", "due"], rfl, He.glo_ok hd.X hd.ns (hd.c.d.fact 1 rfl), Fu.kp, Fu.bindsN fun _ _ _ _ _ _ us hl => match us, hl with | [_, _], _ => rfl, fun ks ix hk => ?_, ?_⟩
  · exact absurd hk (by simp [TB, kws])
  · exact .inl ⟨b1, n1, _, _, _, _, _, .inl e, Fu, sc1, ok1⟩
theorem fact2 (hd : Hd fa fn gls GG w K h mg) (z l : Addr) {b : Nat} (hb : b < 2 ^ 39) {F : List FD} (e : F[2]? = some (.dp 0 n2.length b2)) : ∃ f fd ps, Fact (Dd K w z l b) (Wo P w K mg base) TB F 2 "golden" 0 f fd ps := by
  obtain ⟨fd, Fu⟩ := hd.c.d.def_ 2 (d := dd2) rfl
  refine ⟨_, fd, [], rfl, He.glo_ok hd.X hd.ns (hd.c.d.fact 2 rfl), Fu.kp, Fu.bindsN fun _ _ _ _ _ _ us hl => match us, hl with | [], _ => rfl, fun ks ix hk => ?_, ?_⟩
  · exact absurd hk (by simp [TB, kws])
  · exact .inl ⟨b2, n2, _, _, _, _, _, .inr e, Fu, sc2, ok2⟩
theorem fact3 (hd : Hd fa fn gls GG w K h mg) (z l : Addr) {b : Nat} (hb : b < 2 ^ 39) {F : List FD} (e : F[3]? = some (.dp 1 n3.length b3)) : ∃ f fd ps, Fact (Dd K w z l b) (Wo P w K mg base) TB F 3 "_law_sum" 1 f fd ps := by
  obtain ⟨fd, Fu⟩ := hd.c.d.def_ 3 (d := dd3) rfl
  refine ⟨_, fd, ["roots"], rfl, He.glo_ok hd.X hd.ns (hd.c.d.fact 3 rfl), Fu.kp, Fu.bindsN fun _ _ _ _ _ _ us hl => match us, hl with | [_], _ => rfl, fun ks ix hk => ?_, ?_⟩
  · exact absurd hk (by simp [TB, kws])
  · exact .inl ⟨b3, n3, _, _, _, _, _, .inr e, Fu, sc3, ok3⟩
theorem fact4 (hd : Hd fa fn gls GG w K h mg) (z l : Addr) {b : Nat} (hb : b < 2 ^ 39) {F : List FD} (e : F[4]? = some (.dp 2 n4.length b4)) : ∃ f fd ps, Fact (Dd K w z l b) (Wo P w K mg base) TB F 4 "_law_times" 2 f fd ps := by
  obtain ⟨fd, Fu⟩ := hd.c.d.def_ 4 (d := dd4) rfl
  refine ⟨_, fd, ["one", "other"], rfl, He.glo_ok hd.X hd.ns (hd.c.d.fact 4 rfl), Fu.kp, Fu.bindsN fun _ _ _ _ _ _ us hl => match us, hl with | [_, _], _ => rfl, fun ks ix hk => ?_, ?_⟩
  · exact absurd hk (by simp [TB, kws])
  · exact .inl ⟨b4, n4, _, _, _, _, _, .inr e, Fu, sc4, ok4⟩
theorem fact5 (hd : Hd fa fn gls GG w K h mg) (z l : Addr) {b : Nat} (hb : b < 2 ^ 39) {F : List FD} (e : F[5]? = some (.dp 1 n5.length b5)) : ∃ f fd ps, Fact (Dd K w z l b) (Wo P w K mg base) TB F 5 "_law_l_kids" 1 f fd ps := by
  obtain ⟨fd, Fu⟩ := hd.c.d.def_ 5 (d := dd5) rfl
  refine ⟨_, fd, ["kind"], rfl, He.glo_ok hd.X hd.ns (hd.c.d.fact 5 rfl), Fu.kp, Fu.bindsN fun _ _ _ _ _ _ us hl => match us, hl with | [_], _ => rfl, fun ks ix hk => ?_, ?_⟩
  · exact absurd hk (by simp [TB, kws])
  · exact .inl ⟨b5, n5, _, _, _, _, _, .inr e, Fu, sc5, ok5⟩
theorem fact6 (hd : Hd fa fn gls GG w K h mg) (z l : Addr) {b : Nat} (hb : b < 2 ^ 39) {F : List FD} (e : F[6]? = some (.dp 1 n6.length b6)) : ∃ f fd ps, Fact (Dd K w z l b) (Wo P w K mg base) TB F 6 "_law_l_zero" 1 f fd ps := by
  obtain ⟨fd, Fu⟩ := hd.c.d.def_ 6 (d := dd6) rfl
  refine ⟨_, fd, ["kind"], rfl, He.glo_ok hd.X hd.ns (hd.c.d.fact 6 rfl), Fu.kp, Fu.bindsN fun _ _ _ _ _ _ us hl => match us, hl with | [_], _ => rfl, fun ks ix hk => ?_, ?_⟩
  · exact absurd hk (by simp [TB, kws])
  · exact .inl ⟨b6, n6, _, _, _, _, _, .inr e, Fu, sc6, ok6⟩
theorem fact7 (hd : Hd fa fn gls GG w K h mg) (z l : Addr) {b : Nat} (hb : b < 2 ^ 39) {F : List FD} (e : F[7]? = some (.dp 2 n7.length b7)) : ∃ f fd ps, Fact (Dd K w z l b) (Wo P w K mg base) TB F 7 "share_of_label" 2 f fd ps := by
  obtain ⟨fd, Fu⟩ := hd.c.d.def_ 7 (d := dd7) rfl
  refine ⟨_, fd, ["kind", "index"], rfl, He.glo_ok hd.X hd.ns (hd.c.d.fact 7 rfl), Fu.kp, Fu.bindsN fun _ _ _ _ _ _ us hl => match us, hl with | [_, _], _ => rfl, fun ks ix hk => ?_, ?_⟩
  · have hk : (ks = (["index", "kind"] : List PySem.Str) ∧ ix = [1, 0]) := by simpa [TB, kws] using hk
    rcases hk with ⟨rfl, rfl⟩
    · exact FunD.kbn (n := 0) Fu fun _ _ _ _ _ _ us ws hu hw => match us, ws, hu, hw with | [], [_, _], _, _ => rfl
  · exact .inl ⟨b7, n7, _, _, _, _, _, .inr e, Fu, sc7, ok7⟩
theorem fact8 (hd : Hd fa fn gls GG w K h mg) (z l : Addr) {b : Nat} (hb : b < 2 ^ 39) {F : List FD} (e : F[8]? = some (.dp 0 n8.length b8)) : ∃ f fd ps, Fact (Dd K w z l b) (Wo P w K mg base) TB F 8 "share_turned" 0 f fd ps := by
  obtain ⟨fd, Fu⟩ := hd.c.d.def_ 8 (d := dd8) rfl
  refine ⟨_, fd, [], rfl, He.glo_ok hd.X hd.ns (hd.c.d.fact 8 rfl), Fu.kp, Fu.bindsN fun _ _ _ _ _ _ us hl => match us, hl with | [], _ => rfl, fun ks ix hk => ?_, ?_⟩
  · exact absurd hk (by simp [TB, kws])
  · exact .inl ⟨b8, n8, _, _, _, _, _, .inr e, Fu, sc8, ok8⟩
theorem fact9 (hd : Hd fa fn gls GG w K h mg) (z l : Addr) {b : Nat} (hb : b < 2 ^ 39) {F : List FD} (e : F[9]? = some (.dp 2 n9.length b9)) : ∃ f fd ps, Fact (Dd K w z l b) (Wo P w K mg base) TB F 9 "hat_counts" 2 f fd ps := by
  obtain ⟨fd, Fu⟩ := hd.c.d.def_ 9 (d := dd9) rfl
  refine ⟨_, fd, ["kind", "n"], rfl, He.glo_ok hd.X hd.ns (hd.c.d.fact 9 rfl), Fu.kp, Fu.bindsN fun _ _ _ _ _ _ us hl => match us, hl with | [_, _], _ => rfl, fun ks ix hk => ?_, ?_⟩
  · exact absurd hk (by simp [TB, kws])
  · exact .inl ⟨b9, n9, _, _, _, _, _, .inr e, Fu, sc9, ok9⟩
theorem fact10 (hd : Hd fa fn gls GG w K h mg) (z l : Addr) {b : Nat} (hb : b < 2 ^ 39) {F : List FD} (e : F[10]? = some (.dp 3 n10.length b10)) : ∃ f fd ps, Fact (Dd K w z l b) (Wo P w K mg base) TB F 10 "_law_near" 3 f fd ps := by
  obtain ⟨fd, Fu⟩ := hd.c.d.def_ 10 (d := dd10) rfl
  refine ⟨_, fd, ["root", "many", "whole"], rfl, He.glo_ok hd.X hd.ns (hd.c.d.fact 10 rfl), Fu.kp, Fu.bindsN fun _ _ _ _ _ _ us hl => match us, hl with | [_, _, _], _ => rfl, fun ks ix hk => ?_, ?_⟩
  · exact absurd hk (by simp [TB, kws])
  · exact .inl ⟨b10, n10, _, _, _, _, _, .inr e, Fu, sc10, ok10⟩
theorem fact11 (hd : Hd fa fn gls GG w K h mg) (z l : Addr) {b : Nat} (hb : b < 2 ^ 39) {F : List FD} (e : F[11]? = some .draw) : ∃ f fd ps, Fact (Dd K w z l b) (Wo P w K mg base) TB F 11 "_law_draw" 2 f fd ps := by
  obtain ⟨fd, Fu⟩ := hd.c.d.def_ 11 (d := dd11) rfl
  refine ⟨_, fd, ["stream", "many"], rfl, He.glo_ok hd.X hd.ns (hd.c.d.fact 11 rfl), Fu.kp, Fu.bindsN fun _ _ _ _ _ _ us hl => match us, hl with | [_, _], _ => rfl, fun ks ix hk => ?_, ?_⟩
  · exact absurd hk (by simp [TB, kws])
  · exact .inr (.inr ⟨e, rfl, fun d => draw_ok (W := Wo P w K mg base) hb rfl (bs (P := P) (base := base) hd z l b).free Fu sc11 ok11 d⟩)
theorem fact12 (hd : Hd fa fn gls GG w K h mg) (z l : Addr) {b : Nat} (hb : b < 2 ^ 39) {F : List FD} (e : F[12]? = some (.dp 2 n12.length b12)) : ∃ f fd ps, Fact (Dd K w z l b) (Wo P w K mg base) TB F 12 "_law_pick" 2 f fd ps := by
  obtain ⟨fd, Fu⟩ := hd.c.d.def_ 12 (d := dd12) rfl
  refine ⟨_, fd, ["stream", "things"], rfl, He.glo_ok hd.X hd.ns (hd.c.d.fact 12 rfl), Fu.kp, Fu.bindsN fun _ _ _ _ _ _ us hl => match us, hl with | [_, _], _ => rfl, fun ks ix hk => ?_, ?_⟩
  · exact absurd hk (by simp [TB, kws])
  · exact .inl ⟨b12, n12, _, _, _, _, _, .inr e, Fu, sc12, ok12⟩
theorem fact13 (hd : Hd fa fn gls GG w K h mg) (z l : Addr) {b : Nat} (hb : b < 2 ^ 39) {F : List FD} (e : F[13]? = some (.dp 2 n13.length b13)) : ∃ f fd ps, Fact (Dd K w z l b) (Wo P w K mg base) TB F 13 "_law_l_counts" 2 f fd ps := by
  obtain ⟨fd, Fu⟩ := hd.c.d.def_ 13 (d := dd13) rfl
  refine ⟨_, fd, ["kind", "n"], rfl, He.glo_ok hd.X hd.ns (hd.c.d.fact 13 rfl), Fu.kp, Fu.bindsN fun _ _ _ _ _ _ us hl => match us, hl with | [_, _], _ => rfl, fun ks ix hk => ?_, ?_⟩
  · exact absurd hk (by simp [TB, kws])
  · exact .inl ⟨b13, n13, _, _, _, _, _, .inr e, Fu, sc13, ok13⟩
theorem fact14 (hd : Hd fa fn gls GG w K h mg) (z l : Addr) {b : Nat} (hb : b < 2 ^ 39) {F : List FD} (e : F[14]? = some (.dp 2 n14.length b14)) : ∃ f fd ps, Fact (Dd K w z l b) (Wo P w K mg base) TB F 14 "_law_l_many" 2 f fd ps := by
  obtain ⟨fd, Fu⟩ := hd.c.d.def_ 14 (d := dd14) rfl
  refine ⟨_, fd, ["kind", "n"], rfl, He.glo_ok hd.X hd.ns (hd.c.d.fact 14 rfl), Fu.kp, Fu.bindsN fun _ _ _ _ _ _ us hl => match us, hl with | [_, _], _ => rfl, fun ks ix hk => ?_, ?_⟩
  · exact absurd hk (by simp [TB, kws])
  · exact .inl ⟨b14, n14, _, _, _, _, _, .inr e, Fu, sc14, ok14⟩
theorem fact15 (hd : Hd fa fn gls GG w K h mg) (z l : Addr) {b : Nat} (hb : b < 2 ^ 39) {F : List FD} (e : F[15]? = some (.dp 1 n15.length b15)) : ∃ f fd ps, Fact (Dd K w z l b) (Wo P w K mg base) TB F 15 "need_kind" 1 f fd ps := by
  obtain ⟨fd, Fu⟩ := hd.c.d.def_ 15 (d := dd15) rfl
  refine ⟨_, fd, ["kind"], rfl, He.glo_ok hd.X hd.ns (hd.c.d.fact 15 rfl), Fu.kp, Fu.bindsN fun _ _ _ _ _ _ us hl => match us, hl with | [_], _ => rfl, fun ks ix hk => ?_, ?_⟩
  · exact absurd hk (by simp [TB, kws])
  · exact .inl ⟨b15, n15, _, _, _, _, _, .inr e, Fu, sc15, ok15⟩
theorem fact16 (hd : Hd fa fn gls GG w K h mg) (z l : Addr) {b : Nat} (hb : b < 2 ^ 39) {F : List FD} (e : F[16]? = some (.dp 3 n16.length b16)) : ∃ f fd ps, Fact (Dd K w z l b) (Wo P w K mg base) TB F 16 "_law_lowest" 3 f fd ps := by
  obtain ⟨fd, Fu⟩ := hd.c.d.def_ 16 (d := dd16) rfl
  refine ⟨_, fd, ["x", "y", "z"], rfl, He.glo_ok hd.X hd.ns (hd.c.d.fact 16 rfl), Fu.kp, Fu.bindsN fun _ _ _ _ _ _ us hl => match us, hl with | [_, _, _], _ => rfl, fun ks ix hk => ?_, ?_⟩
  · exact absurd hk (by simp [TB, kws])
  · exact .inl ⟨b16, n16, _, _, _, _, _, .inr e, Fu, sc16, ok16⟩
theorem fact17 (hd : Hd fa fn gls GG w K h mg) (z l : Addr) {b : Nat} (hb : b < 2 ^ 39) {F : List FD} (e : F[17]? = some (.dp 2 n17.length b17)) : ∃ f fd ps, Fact (Dd K w z l b) (Wo P w K mg base) TB F 17 "product_by" 2 f fd ps := by
  obtain ⟨fd, Fu⟩ := hd.c.d.def_ 17 (d := dd17) rfl
  refine ⟨_, fd, ["one", "other"], rfl, He.glo_ok hd.X hd.ns (hd.c.d.fact 17 rfl), Fu.kp, Fu.bindsN fun _ _ _ _ _ _ us hl => match us, hl with | [_, _], _ => rfl, fun ks ix hk => ?_, ?_⟩
  · exact absurd hk (by simp [TB, kws])
  · exact .inl ⟨b17, n17, _, _, _, _, _, .inr e, Fu, sc17, ok17⟩
theorem fact18 (hd : Hd fa fn gls GG w K h mg) (z l : Addr) {b : Nat} (hb : b < 2 ^ 39) {F : List FD} (e : F[18]? = some (.dp 1 n18.length b18)) : ∃ f fd ps, Fact (Dd K w z l b) (Wo P w K mg base) TB F 18 "is_whole_shares" 1 f fd ps := by
  obtain ⟨fd, Fu⟩ := hd.c.d.def_ 18 (d := dd18) rfl
  refine ⟨_, fd, ["thing"], rfl, He.glo_ok hd.X hd.ns (hd.c.d.fact 18 rfl), Fu.kp, Fu.bindsN fun _ _ _ _ _ _ us hl => match us, hl with | [_], _ => rfl, fun ks ix hk => ?_, ?_⟩
  · exact absurd hk (by simp [TB, kws])
  · exact .inl ⟨b18, n18, _, _, _, _, _, .inr e, Fu, sc18, ok18⟩
theorem fact19 (hd : Hd fa fn gls GG w K h mg) (z l : Addr) {b : Nat} (hb : b < 2 ^ 39) {F : List FD} (e : F[19]? = some (.dp 2 n19.length b19)) : ∃ f fd ps, Fact (Dd K w z l b) (Wo P w K mg base) TB F 19 "hats_by" 2 f fd ps := by
  obtain ⟨fd, Fu⟩ := hd.c.d.def_ 19 (d := dd19) rfl
  refine ⟨_, fd, ["kind", "n"], rfl, He.glo_ok hd.X hd.ns (hd.c.d.fact 19 rfl), Fu.kp, Fu.bindsN fun _ _ _ _ _ _ us hl => match us, hl with | [_, _], _ => rfl, fun ks ix hk => ?_, ?_⟩
  · exact absurd hk (by simp [TB, kws])
  · exact .inl ⟨b19, n19, _, _, _, _, _, .inr e, Fu, sc19, ok19⟩
theorem fact20 (hd : Hd fa fn gls GG w K h mg) (z l : Addr) {b : Nat} (hb : b < 2 ^ 39) {F : List FD} (e : F[20]? = some (.dp 1 n20.length b20)) : ∃ f fd ps, Fact (Dd K w z l b) (Wo P w K mg base) TB F 20 "need_level" 1 f fd ps := by
  obtain ⟨fd, Fu⟩ := hd.c.d.def_ 20 (d := dd20) rfl
  refine ⟨_, fd, ["n"], rfl, He.glo_ok hd.X hd.ns (hd.c.d.fact 20 rfl), Fu.kp, Fu.bindsN fun _ _ _ _ _ _ us hl => match us, hl with | [_], _ => rfl, fun ks ix hk => ?_, ?_⟩
  · exact absurd hk (by simp [TB, kws])
  · exact .inl ⟨b20, n20, _, _, _, _, _, .inr e, Fu, sc20, ok20⟩
theorem fact21 (hd : Hd fa fn gls GG w K h mg) (z l : Addr) {b : Nat} (hb : b < 2 ^ 39) {F : List FD} (e : F[21]? = some (.dp 3 n21.length b21)) : ∃ f fd ps, Fact (Dd K w z l b) (Wo P w K mg base) TB F 21 "lowest" 3 f fd ps := by
  obtain ⟨fd, Fu⟩ := hd.c.d.def_ 21 (d := dd21) rfl
  refine ⟨_, fd, ["x", "y", "z"], rfl, He.glo_ok hd.X hd.ns (hd.c.d.fact 21 rfl), Fu.kp, Fu.bindsN fun _ _ _ _ _ _ us hl => match us, hl with | [_, _, _], _ => rfl, fun ks ix hk => ?_, ?_⟩
  · exact absurd hk (by simp [TB, kws])
  · exact .inl ⟨b21, n21, _, _, _, _, _, .inr e, Fu, sc21, ok21⟩
theorem fact22 (hd : Hd fa fn gls GG w K h mg) (z l : Addr) {b : Nat} (hb : b < 2 ^ 39) {F : List FD} (e : F[22]? = some (.dp 2 n22.length b22)) : ∃ f fd ps, Fact (Dd K w z l b) (Wo P w K mg base) TB F 22 "groups_counted" 2 f fd ps := by
  obtain ⟨fd, Fu⟩ := hd.c.d.def_ 22 (d := dd22) rfl
  refine ⟨_, fd, ["kind", "n"], rfl, He.glo_ok hd.X hd.ns (hd.c.d.fact 22 rfl), Fu.kp, Fu.bindsN fun _ _ _ _ _ _ us hl => match us, hl with | [_, _], _ => rfl, fun ks ix hk => ?_, ?_⟩
  · exact absurd hk (by simp [TB, kws])
  · exact .inl ⟨b22, n22, _, _, _, _, _, .inr e, Fu, sc22, ok22⟩
theorem fact23 (hd : Hd fa fn gls GG w K h mg) (z l : Addr) {b : Nat} (hb : b < 2 ^ 39) {F : List FD} (e : F[23]? = some (.dp 1 n23.length b23)) : ∃ f fd ps, Fact (Dd K w z l b) (Wo P w K mg base) TB F 23 "is_number" 1 f fd ps := by
  obtain ⟨fd, Fu⟩ := hd.c.d.def_ 23 (d := dd23) rfl
  refine ⟨_, fd, ["thing"], rfl, He.glo_ok hd.X hd.ns (hd.c.d.fact 23 rfl), Fu.kp, Fu.bindsN fun _ _ _ _ _ _ us hl => match us, hl with | [_], _ => rfl, fun ks ix hk => ?_, ?_⟩
  · exact absurd hk (by simp [TB, kws])
  · exact .inl ⟨b23, n23, _, _, _, _, _, .inr e, Fu, sc23, ok23⟩
theorem fact24 (hd : Hd fa fn gls GG w K h mg) (z l : Addr) {b : Nat} (hb : b < 2 ^ 39) {F : List FD} (e : F[24]? = some (.dp 2 n24.length b24)) : ∃ f fd ps, Fact (Dd K w z l b) (Wo P w K mg base) TB F 24 "divisor" 2 f fd ps := by
  obtain ⟨fd, Fu⟩ := hd.c.d.def_ 24 (d := dd24) rfl
  refine ⟨_, fd, ["one", "other"], rfl, He.glo_ok hd.X hd.ns (hd.c.d.fact 24 rfl), Fu.kp, Fu.bindsN fun _ _ _ _ _ _ us hl => match us, hl with | [_, _], _ => rfl, fun ks ix hk => ?_, ?_⟩
  · exact absurd hk (by simp [TB, kws])
  · exact .inl ⟨b24, n24, _, _, _, _, _, .inr e, Fu, sc24, ok24⟩
theorem fact25 (hd : Hd fa fn gls GG w K h mg) (z l : Addr) {b : Nat} (hb : b < 2 ^ 39) {F : List FD} (e : F[25]? = some (.dp 1 n25.length b25)) : ∃ f fd ps, Fact (Dd K w z l b) (Wo P w K mg base) TB F 25 "led_down" 1 f fd ps := by
  obtain ⟨fd, Fu⟩ := hd.c.d.def_ 25 (d := dd25) rfl
  refine ⟨_, fd, ["numbers"], rfl, He.glo_ok hd.X hd.ns (hd.c.d.fact 25 rfl), Fu.kp, Fu.bindsN fun _ _ _ _ _ _ us hl => match us, hl with | [_], _ => rfl, fun ks ix hk => ?_, ?_⟩
  · exact absurd hk (by simp [TB, kws])
  · exact .inl ⟨b25, n25, _, _, _, _, _, .inr e, Fu, sc25, ok25⟩
theorem fact26 (hd : Hd fa fn gls GG w K h mg) (z l : Addr) {b : Nat} (hb : b < 2 ^ 39) {F : List FD} (e : F[26]? = some (.dp 1 n26.length b26)) : ∃ f fd ps, Fact (Dd K w z l b) (Wo P w K mg base) TB F 26 "is_whole_basics" 1 f fd ps := by
  obtain ⟨fd, Fu⟩ := hd.c.d.def_ 26 (d := dd26) rfl
  refine ⟨_, fd, ["thing"], rfl, He.glo_ok hd.X hd.ns (hd.c.d.fact 26 rfl), Fu.kp, Fu.bindsN fun _ _ _ _ _ _ us hl => match us, hl with | [_], _ => rfl, fun ks ix hk => ?_, ?_⟩
  · exact absurd hk (by simp [TB, kws])
  · exact .inl ⟨b26, n26, _, _, _, _, _, .inr e, Fu, sc26, ok26⟩
theorem facts0 (hd : Hd fa fn gls GG w K h mg) (z l : Addr) {b : Nat} (hb : b < 2 ^ 39) : ∀ (i : Nat) x n, TB.fn[i]? = some (x, n) → ∃ f fd ps, Fact (Dd K w z l b) (Wo P w K mg base) TB F0 i x n f fd ps
  | 0, _, _, e => by cases e; exact fact0 hd z l hb rfl
  | 1, _, _, e => by cases e; exact fact1 hd z l hb rfl
  | 2, _, _, e => by cases e; exact fact2 hd z l hb rfl
  | 3, _, _, e => by cases e; exact fact3 hd z l hb rfl
  | 4, _, _, e => by cases e; exact fact4 hd z l hb rfl
  | 5, _, _, e => by cases e; exact fact5 hd z l hb rfl
  | 6, _, _, e => by cases e; exact fact6 hd z l hb rfl
  | 7, _, _, e => by cases e; exact fact7 hd z l hb rfl
  | 8, _, _, e => by cases e; exact fact8 hd z l hb rfl
  | 9, _, _, e => by cases e; exact fact9 hd z l hb rfl
  | 10, _, _, e => by cases e; exact fact10 hd z l hb rfl
  | 11, _, _, e => by cases e; exact fact11 hd z l hb rfl
  | 12, _, _, e => by cases e; exact fact12 hd z l hb rfl
  | 13, _, _, e => by cases e; exact fact13 hd z l hb rfl
  | 14, _, _, e => by cases e; exact fact14 hd z l hb rfl
  | 15, _, _, e => by cases e; exact fact15 hd z l hb rfl
  | 16, _, _, e => by cases e; exact fact16 hd z l hb rfl
  | 17, _, _, e => by cases e; exact fact17 hd z l hb rfl
  | 18, _, _, e => by cases e; exact fact18 hd z l hb rfl
  | 19, _, _, e => by cases e; exact fact19 hd z l hb rfl
  | 20, _, _, e => by cases e; exact fact20 hd z l hb rfl
  | 21, _, _, e => by cases e; exact fact21 hd z l hb rfl
  | 22, _, _, e => by cases e; exact fact22 hd z l hb rfl
  | 23, _, _, e => by cases e; exact fact23 hd z l hb rfl
  | 24, _, _, e => by cases e; exact fact24 hd z l hb rfl
  | 25, _, _, e => by cases e; exact fact25 hd z l hb rfl
  | 26, _, _, e => by cases e; exact fact26 hd z l hb rfl
  | _ + 27, _, _, e => by simp [TB, fns] at e
theorem row5_0 (L : LH) (k : KV) : callE 300 GG F0 1 5 [.str [72]] L k = k (.vl [.tup [.str [72], .int (.ofNat 0), .tup [.int (.ofNat 0), .int (.ofNat 0)], .tup [.int (.ofNat 0), .int (.ofNat 0)]], .tup [.str [72], .int (.ofNat 0), .tup [.int (.negSucc 0), .int (.ofNat 3)], .tup [.int (.negSucc 1), .int (.ofNat 7)]], .tup [.str [72], .int (.ofNat 4), .tup [.int (.negSucc 3), .int (.ofNat 3)], .tup [.int (.negSucc 10), .int (.ofNat 8)]], .tup [.str [84], .int (.ofNat 5), .tup [.int (.negSucc 1), .int (.ofNat 3)], .tup [.int (.negSucc 4), .int (.ofNat 6)]], .tup [.str [80], .int (.ofNat 5), .tup [.int (.negSucc 3), .int (.ofNat 2)], .tup [.int (.negSucc 9), .int (.ofNat 4)]], .tup [.str [70], .int (.ofNat 5), .tup [.int (.negSucc 0), .int (.ofNat 0)], .tup [.int (.negSucc 2), .int (.negSucc 0)]], .tup [.str [80], .int (.ofNat 1), .tup [.int (.ofNat 1), .int (.ofNat 0)], .tup [.int (.ofNat 3), .int (.ofNat 1)]], .tup [.str [70], .int (.ofNat 1), .tup [.int (.ofNat 0), .int (.ofNat 3)], .tup [.int (.ofNat 1), .int (.ofNat 8)]], .tup [.str [80], .int (.ofNat 0), .tup [.int (.negSucc 3), .int (.ofNat 5)], .tup [.int (.negSucc 8), .int (.ofNat 12)]], .tup [.str [70], .int (.ofNat 3), .tup [.int (.negSucc 3), .int (.ofNat 4)], .tup [.int (.negSucc 11), .int (.ofNat 12)]]]) L := by kernel_rfl
theorem row5_1 (L : LH) (k : KV) : callE 300 GG F0 1 5 [.str [84]] L k = k (.vl [.tup [.str [72], .int (.ofNat 0), .tup [.int (.ofNat 0), .int (.ofNat 0)], .tup [.int (.ofNat 0), .int (.ofNat 0)]]]) L := by kernel_rfl
theorem row5_2 (L : LH) (k : KV) : callE 300 GG F0 1 5 [.str [80]] L k = k (.vl [.tup [.str [70], .int (.ofNat 5), .tup [.int (.negSucc 0), .int (.ofNat 0)], .tup [.int (.negSucc 2), .int (.negSucc 0)]], .tup [.str [72], .int (.ofNat 0), .tup [.int (.ofNat 0), .int (.ofNat 0)], .tup [.int (.ofNat 0), .int (.ofNat 0)]], .tup [.str [80], .int (.ofNat 1), .tup [.int (.ofNat 1), .int (.ofNat 0)], .tup [.int (.ofNat 3), .int (.ofNat 1)]], .tup [.str [72], .int (.ofNat 1), .tup [.int (.ofNat 3), .int (.ofNat 1)], .tup [.int (.ofNat 8), .int (.ofNat 3)]], .tup [.str [70], .int (.ofNat 2), .tup [.int (.ofNat 3), .int (.ofNat 2)], .tup [.int (.ofNat 7), .int (.ofNat 7)]]]) L := by kernel_rfl
theorem row5_3 (L : LH) (k : KV) : callE 300 GG F0 1 5 [.str [70]] L k = k (.vl [.tup [.str [70], .int (.ofNat 5), .tup [.int (.negSucc 0), .int (.ofNat 0)], .tup [.int (.negSucc 2), .int (.negSucc 0)]], .tup [.str [72], .int (.ofNat 0), .tup [.int (.ofNat 0), .int (.ofNat 0)], .tup [.int (.ofNat 0), .int (.ofNat 0)]], .tup [.str [80], .int (.ofNat 1), .tup [.int (.ofNat 1), .int (.ofNat 0)], .tup [.int (.ofNat 3), .int (.ofNat 1)]], .tup [.str [72], .int (.ofNat 1), .tup [.int (.ofNat 3), .int (.ofNat 1)], .tup [.int (.ofNat 8), .int (.ofNat 3)]], .tup [.str [70], .int (.ofNat 0), .tup [.int (.ofNat 3), .int (.ofNat 0)], .tup [.int (.ofNat 9), .int (.negSucc 0)]], .tup [.str [70], .int (.ofNat 2), .tup [.int (.ofNat 3), .int (.ofNat 2)], .tup [.int (.ofNat 7), .int (.ofNat 7)]]]) L := by kernel_rfl
theorem rows5 : RowsOk 300 GG F0 1 5 t5 := ⟨row5_0, ⟨row5_1, ⟨row5_2, ⟨row5_3, True.intro⟩⟩⟩⟩
theorem row6_0 (L : LH) (k : KV) : callE 300 GG F0 1 6 [.str [72]] L k = k (.vl [.tup [.int (.ofNat 0), .int (.ofNat 0), .int (.ofNat 0), .int (.ofNat 0)], .tup [.int (.negSucc 0), .int (.ofNat 2), .int (.ofNat 0), .int (.ofNat 0)], .tup [.int (.negSucc 0), .int (.ofNat 1), .int (.ofNat 4), .int (.ofNat 0)], .tup [.int (.ofNat 0), .int (.ofNat 1), .int (.ofNat 3), .int (.ofNat 1)]]) L := by kernel_rfl
theorem row6_1 (L : LH) (k : KV) : callE 300 GG F0 1 6 [.str [84]] L k = k (.vl [.tup [.int (.ofNat 0), .int (.ofNat 0), .int (.ofNat 0), .int (.ofNat 0)]]) L := by kernel_rfl
theorem row6_2 (L : LH) (k : KV) : callE 300 GG F0 1 6 [.str [80]] L k = k (.vl [.tup [.int (.ofNat 1), .int (.ofNat 0), .int (.ofNat 1), .int (.ofNat 0)], .tup [.int (.ofNat 0), .int (.ofNat 0), .int (.ofNat 0), .int (.ofNat 0)]]) L := by kernel_rfl
theorem row6_3 (L : LH) (k : KV) : callE 300 GG F0 1 6 [.str [70]] L k = k (.vl [.tup [.int (.ofNat 1), .int (.ofNat 0), .int (.ofNat 1), .int (.ofNat 0)], .tup [.int (.ofNat 0), .int (.ofNat 0), .int (.ofNat 0), .int (.ofNat 0)]]) L := by kernel_rfl
theorem rows6 : RowsOk 300 GG F0 1 6 t6 := ⟨row6_0, ⟨row6_1, ⟨row6_2, ⟨row6_3, True.intro⟩⟩⟩⟩
theorem facts1 (hd : Hd fa fn gls GG w K h mg) (z l : Addr) {b : Nat} (hb : b < 2 ^ 39) : ∀ (i : Nat) x n, TB.fn[i]? = some (x, n) → ∃ f fd ps, Fact (Dd K w z l b) (Wo P w K mg base) TB F1 i x n f fd ps
  | 0, _, _, e => by cases e; exact fact0 hd z l hb rfl
  | 1, _, _, e => by cases e; exact fact1 hd z l hb rfl
  | 2, _, _, e => by cases e; exact fact2 hd z l hb rfl
  | 3, _, _, e => by cases e; exact fact3 hd z l hb rfl
  | 4, _, _, e => by cases e; exact fact4 hd z l hb rfl
  | 5, _, _, e => by
    obtain ⟨f, fd, ps, fc⟩ := facts0 (P := P) (base := base) hd z l hb 5 _ _ e
    exact ⟨f, fd, ps, prim_ok (Wn := 300) (dm := 0) (bs (P := P) (base := base) hd z l b) (facts0 (P := P) (base := base) hd z l hb) e fc (tab_ok rows5) rfl⟩
  | 6, _, _, e => by
    obtain ⟨f, fd, ps, fc⟩ := facts0 (P := P) (base := base) hd z l hb 6 _ _ e
    exact ⟨f, fd, ps, prim_ok (Wn := 300) (dm := 0) (bs (P := P) (base := base) hd z l b) (facts0 (P := P) (base := base) hd z l hb) e fc (tab_ok rows6) rfl⟩
  | 7, _, _, e => by cases e; exact fact7 hd z l hb rfl
  | 8, _, _, e => by cases e; exact fact8 hd z l hb rfl
  | 9, _, _, e => by cases e; exact fact9 hd z l hb rfl
  | 10, _, _, e => by cases e; exact fact10 hd z l hb rfl
  | 11, _, _, e => by cases e; exact fact11 hd z l hb rfl
  | 12, _, _, e => by cases e; exact fact12 hd z l hb rfl
  | 13, _, _, e => by cases e; exact fact13 hd z l hb rfl
  | 14, _, _, e => by cases e; exact fact14 hd z l hb rfl
  | 15, _, _, e => by cases e; exact fact15 hd z l hb rfl
  | 16, _, _, e => by cases e; exact fact16 hd z l hb rfl
  | 17, _, _, e => by cases e; exact fact17 hd z l hb rfl
  | 18, _, _, e => by cases e; exact fact18 hd z l hb rfl
  | 19, _, _, e => by cases e; exact fact19 hd z l hb rfl
  | 20, _, _, e => by cases e; exact fact20 hd z l hb rfl
  | 21, _, _, e => by cases e; exact fact21 hd z l hb rfl
  | 22, _, _, e => by cases e; exact fact22 hd z l hb rfl
  | 23, _, _, e => by cases e; exact fact23 hd z l hb rfl
  | 24, _, _, e => by cases e; exact fact24 hd z l hb rfl
  | 25, _, _, e => by cases e; exact fact25 hd z l hb rfl
  | 26, _, _, e => by cases e; exact fact26 hd z l hb rfl
  | _ + 27, _, _, e => by simp [TB, fns] at e
theorem row13_0 (L : LH) (k : KV) : callE 300 GG F1 2 13 [.str [72], .int (.ofNat 0)] L k = k (.vl [.int (.ofNat 1), .int (.ofNat 0), .int (.ofNat 0), .int (.ofNat 0)]) L := by kernel_rfl
theorem row13_1 (L : LH) (k : KV) : callE 300 GG F1 2 13 [.str [72], .int (.ofNat 1)] L k = k (.vl [.int (.ofNat 3), .int (.ofNat 1), .int (.ofNat 3), .int (.ofNat 3)]) L := by kernel_rfl
theorem row13_2 (L : LH) (k : KV) : callE 300 GG F1 2 13 [.str [72], .int (.ofNat 2)] L k = k (.vl [.int (.ofNat 22), .int (.ofNat 3), .int (.ofNat 15), .int (.ofNat 24)]) L := by kernel_rfl
theorem row13_3 (L : LH) (k : KV) : callE 300 GG F1 2 13 [.str [72], .int (.ofNat 3)] L k = k (.vl [.int (.ofNat 147), .int (.ofNat 22), .int (.ofNat 105), .int (.ofNat 168)]) L := by kernel_rfl
theorem row13_4 (L : LH) (k : KV) : callE 300 GG F1 2 13 [.str [72], .int (.ofNat 4)] L k = k (.vl [.int (.ofNat 1009), .int (.ofNat 147), .int (.ofNat 714), .int (.ofNat 1155)]) L := by kernel_rfl
theorem row13_5 (L : LH) (k : KV) : callE 300 GG F1 2 13 [.str [72], .int (.ofNat 5)] L k = k (.vl [.int (.ofNat 6912), .int (.ofNat 1009), .int (.ofNat 4896), .int (.ofNat 7920)]) L := by kernel_rfl
theorem row13_6 (L : LH) (k : KV) : callE 300 GG F1 2 13 [.str [72], .int (.ofNat 6)] L k = k (.vl [.int (.ofNat 47377), .int (.ofNat 6912), .int (.ofNat 33552), .int (.ofNat 54288)]) L := by kernel_rfl
theorem row13_7 (L : LH) (k : KV) : callE 300 GG F1 2 13 [.str [72], .int (.ofNat 7)] L k = k (.vl [.int (.ofNat 324723), .int (.ofNat 47377), .int (.ofNat 229971), .int (.ofNat 372099)]) L := by kernel_rfl
theorem row13_8 (L : LH) (k : KV) : callE 300 GG F1 2 13 [.str [72], .int (.ofNat 8)] L k = k (.vl [.int (.ofNat 2225686), .int (.ofNat 324723), .int (.ofNat 1576239), .int (.ofNat 2550408)]) L := by kernel_rfl
theorem row13_9 (L : LH) (k : KV) : callE 300 GG F1 2 13 [.str [72], .int (.ofNat 9)] L k = k (.vl [.int (.ofNat 15255075), .int (.ofNat 2225686), .int (.ofNat 10803705), .int (.ofNat 17480760)]) L := by kernel_rfl
theorem row13_10 (L : LH) (k : KV) : callE 300 GG F1 2 13 [.str [72], .int (.ofNat 10)] L k = k (.vl [.int (.ofNat 104559841), .int (.ofNat 15255075), .int (.ofNat 74049690), .int (.ofNat 119814915)]) L := by kernel_rfl
theorem row13_11 (L : LH) (k : KV) : callE 300 GG F1 2 13 [.str [72], .int (.ofNat 11)] L k = k (.vl [.int (.ofNat 716663808), .int (.ofNat 104559841), .int (.ofNat 507544128), .int (.ofNat 821223648)]) L := by kernel_rfl
theorem row13_12 (L : LH) (k : KV) : callE 300 GG F1 2 13 [.str [72], .int (.ofNat 12)] L k = k (.vl [.int (.ofNat 4912086817), .int (.ofNat 716663808), .int (.ofNat 3478759200), .int (.ofNat 5628750624)]) L := by kernel_rfl
theorem row13_13 (L : LH) (k : KV) : callE 300 GG F1 2 13 [.str [72], .int (.ofNat 13)] L k = k (.vl [.int (.ofNat 33667943907), .int (.ofNat 4912086817), .int (.ofNat 23843770275), .int (.ofNat 38580030723)]) L := by kernel_rfl
theorem row13_14 (L : LH) (k : KV) : callE 300 GG F1 2 13 [.str [72], .int (.ofNat 14)] L k = k (.vl [.int (.ofNat 230763520534), .int (.ofNat 33667943907), .int (.ofNat 163427632719), .int (.ofNat 264431464440)]) L := by kernel_rfl
theorem row13_15 (L : LH) (k : KV) : callE 300 GG F1 2 13 [.str [72], .int (.ofNat 15)] L k = k (.vl [.int (.ofNat 1581676699827), .int (.ofNat 230763520534), .int (.ofNat 1120149658761), .int (.ofNat 1812440220360)]) L := by kernel_rfl
theorem row13_16 (L : LH) (k : KV) : callE 300 GG F1 2 13 [.str [72], .int (.ofNat 16)] L k = k (.vl [.int (.ofNat 10840973378257), .int (.ofNat 1581676699827), .int (.ofNat 7677619978602), .int (.ofNat 12422650078083)]) L := by kernel_rfl
theorem row13_17 (L : LH) (k : KV) : callE 300 GG F1 2 13 [.str [72], .int (.ofNat 17)] L k = k (.vl [.int (.ofNat 74305136947968), .int (.ofNat 10840973378257), .int (.ofNat 52623190191456), .int (.ofNat 85146110326224)]) L := by kernel_rfl
theorem row13_18 (L : LH) (k : KV) : callE 300 GG F1 2 13 [.str [72], .int (.ofNat 18)] L k = k (.vl [.int (.ofNat 509294985257521), .int (.ofNat 74305136947968), .int (.ofNat 360684711361584), .int (.ofNat 583600122205488)]) L := by kernel_rfl
theorem row13_19 (L : LH) (k : KV) : callE 300 GG F1 2 13 [.str [72], .int (.ofNat 19)] L k = k (.vl [.int (.ofNat 3490759759854675), .int (.ofNat 509294985257521), .int (.ofNat 2472169789339635), .int (.ofNat 4000054745112195)]) L := by kernel_rfl
theorem row13_20 (L : LH) (k : KV) : callE 300 GG F1 2 13 [.str [72], .int (.ofNat 20)] L k = k (.vl [.int (.ofNat 23926023333725206), .int (.ofNat 3490759759854675), .int (.ofNat 16944503814015855), .int (.ofNat 27416783093579880)]) L := by kernel_rfl
theorem row13_21 (L : LH) (k : KV) : callE 300 GG F1 2 13 [.str [72], .int (.ofNat 21)] L k = k (.vl [.int (.ofNat 163991403576221763), .int (.ofNat 23926023333725206), .int (.ofNat 116139356908771353), .int (.ofNat 187917426909946968)]) L := by kernel_rfl
theorem row13_22 (L : LH) (k : KV) : callE 300 GG F1 2 13 [.str [72], .int (.ofNat 22)] L k = k (.vl [.int (.ofNat 1124013801699827137), .int (.ofNat 163991403576221763), .int (.ofNat 796030994547383610), .int (.ofNat 1288005205276048899)]) L := by kernel_rfl
theorem row13_23 (L : LH) (k : KV) : callE 300 GG F1 2 13 [.str [72], .int (.ofNat 23)] L k = k (.vl [.int (.ofNat 7704105208322568192), .int (.ofNat 1124013801699827137), .int (.ofNat 5456077604922913920), .int (.ofNat 8828119010022395328)]) L := by kernel_rfl
theorem row13_24 (L : LH) (k : KV) : callE 300 GG F1 2 13 [.str [72], .int (.ofNat 24)] L k = k (.vl [.int (.ofNat 52804722656558150209), .int (.ofNat 7704105208322568192), .int (.ofNat 37396512239913013824), .int (.ofNat 60508827864880718400)]) L := by kernel_rfl
theorem row13_25 (L : LH) (k : KV) : callE 300 GG F1 2 13 [.str [72], .int (.ofNat 25)] L k = k (.vl [.int (.ofNat 361928953387584483267), .int (.ofNat 52804722656558150209), .int (.ofNat 256319508074468182851), .int (.ofNat 414733676044142633475)]) L := by kernel_rfl
theorem row13_26 (L : LH) (k : KV) : callE 300 GG F1 2 13 [.str [72], .int (.ofNat 26)] L k = k (.vl [.int (.ofNat 2480697951056533232662), .int (.ofNat 361928953387584483267), .int (.ofNat 1756840044281364266127), .int (.ofNat 2842626904444117715928)]) L := by kernel_rfl
theorem row13_27 (L : LH) (k : KV) : callE 300 GG F1 2 13 [.str [72], .int (.ofNat 27)] L k = k (.vl [.int (.ofNat 17002956704008148145363), .int (.ofNat 2480697951056533232662), .int (.ofNat 12041560801895081680041), .int (.ofNat 19483654655064681378024)]) L := by kernel_rfl
theorem row13_28 (L : LH) (k : KV) : callE 300 GG F1 2 13 [.str [72], .int (.ofNat 28)] L k = k (.vl [.int (.ofNat 116539998977000503784881), .int (.ofNat 17002956704008148145363), .int (.ofNat 82534085568984207494154), .int (.ofNat 133542955681008651930243)]) L := by kernel_rfl
theorem row13_29 (L : LH) (k : KV) : callE 300 GG F1 2 13 [.str [72], .int (.ofNat 29)] L k = k (.vl [.int (.ofNat 798777036134995378348800), .int (.ofNat 116539998977000503784881), .int (.ofNat 565697038180994370779040), .int (.ofNat 915317035111995882133680)]) L := by kernel_rfl
theorem row13_30 (L : LH) (k : KV) : callE 300 GG F1 2 13 [.str [84], .int (.ofNat 0)] L k = k (.vl [.int (.ofNat 0), .int (.ofNat 1), .int (.ofNat 0), .int (.ofNat 0)]) L := by kernel_rfl
theorem row13_31 (L : LH) (k : KV) : callE 300 GG F1 2 13 [.str [84], .int (.ofNat 1)] L k = k (.vl [.int (.ofNat 1), .int (.ofNat 0), .int (.ofNat 0), .int (.ofNat 0)]) L := by kernel_rfl
theorem row13_32 (L : LH) (k : KV) : callE 300 GG F1 2 13 [.str [84], .int (.ofNat 2)] L k = k (.vl [.int (.ofNat 3), .int (.ofNat 1), .int (.ofNat 3), .int (.ofNat 3)]) L := by kernel_rfl
theorem row13_33 (L : LH) (k : KV) : callE 300 GG F1 2 13 [.str [84], .int (.ofNat 3)] L k = k (.vl [.int (.ofNat 22), .int (.ofNat 3), .int (.ofNat 15), .int (.ofNat 24)]) L := by kernel_rfl
theorem row13_34 (L : LH) (k : KV) : callE 300 GG F1 2 13 [.str [84], .int (.ofNat 4)] L k = k (.vl [.int (.ofNat 147), .int (.ofNat 22), .int (.ofNat 105), .int (.ofNat 168)]) L := by kernel_rfl
theorem row13_35 (L : LH) (k : KV) : callE 300 GG F1 2 13 [.str [84], .int (.ofNat 5)] L k = k (.vl [.int (.ofNat 1009), .int (.ofNat 147), .int (.ofNat 714), .int (.ofNat 1155)]) L := by kernel_rfl
theorem row13_36 (L : LH) (k : KV) : callE 300 GG F1 2 13 [.str [84], .int (.ofNat 6)] L k = k (.vl [.int (.ofNat 6912), .int (.ofNat 1009), .int (.ofNat 4896), .int (.ofNat 7920)]) L := by kernel_rfl
theorem row13_37 (L : LH) (k : KV) : callE 300 GG F1 2 13 [.str [84], .int (.ofNat 7)] L k = k (.vl [.int (.ofNat 47377), .int (.ofNat 6912), .int (.ofNat 33552), .int (.ofNat 54288)]) L := by kernel_rfl
theorem row13_38 (L : LH) (k : KV) : callE 300 GG F1 2 13 [.str [84], .int (.ofNat 8)] L k = k (.vl [.int (.ofNat 324723), .int (.ofNat 47377), .int (.ofNat 229971), .int (.ofNat 372099)]) L := by kernel_rfl
theorem row13_39 (L : LH) (k : KV) : callE 300 GG F1 2 13 [.str [84], .int (.ofNat 9)] L k = k (.vl [.int (.ofNat 2225686), .int (.ofNat 324723), .int (.ofNat 1576239), .int (.ofNat 2550408)]) L := by kernel_rfl
theorem row13_40 (L : LH) (k : KV) : callE 300 GG F1 2 13 [.str [84], .int (.ofNat 10)] L k = k (.vl [.int (.ofNat 15255075), .int (.ofNat 2225686), .int (.ofNat 10803705), .int (.ofNat 17480760)]) L := by kernel_rfl
theorem row13_41 (L : LH) (k : KV) : callE 300 GG F1 2 13 [.str [84], .int (.ofNat 11)] L k = k (.vl [.int (.ofNat 104559841), .int (.ofNat 15255075), .int (.ofNat 74049690), .int (.ofNat 119814915)]) L := by kernel_rfl
theorem row13_42 (L : LH) (k : KV) : callE 300 GG F1 2 13 [.str [84], .int (.ofNat 12)] L k = k (.vl [.int (.ofNat 716663808), .int (.ofNat 104559841), .int (.ofNat 507544128), .int (.ofNat 821223648)]) L := by kernel_rfl
theorem row13_43 (L : LH) (k : KV) : callE 300 GG F1 2 13 [.str [84], .int (.ofNat 13)] L k = k (.vl [.int (.ofNat 4912086817), .int (.ofNat 716663808), .int (.ofNat 3478759200), .int (.ofNat 5628750624)]) L := by kernel_rfl
theorem row13_44 (L : LH) (k : KV) : callE 300 GG F1 2 13 [.str [84], .int (.ofNat 14)] L k = k (.vl [.int (.ofNat 33667943907), .int (.ofNat 4912086817), .int (.ofNat 23843770275), .int (.ofNat 38580030723)]) L := by kernel_rfl
theorem row13_45 (L : LH) (k : KV) : callE 300 GG F1 2 13 [.str [84], .int (.ofNat 15)] L k = k (.vl [.int (.ofNat 230763520534), .int (.ofNat 33667943907), .int (.ofNat 163427632719), .int (.ofNat 264431464440)]) L := by kernel_rfl
theorem row13_46 (L : LH) (k : KV) : callE 300 GG F1 2 13 [.str [84], .int (.ofNat 16)] L k = k (.vl [.int (.ofNat 1581676699827), .int (.ofNat 230763520534), .int (.ofNat 1120149658761), .int (.ofNat 1812440220360)]) L := by kernel_rfl
theorem row13_47 (L : LH) (k : KV) : callE 300 GG F1 2 13 [.str [84], .int (.ofNat 17)] L k = k (.vl [.int (.ofNat 10840973378257), .int (.ofNat 1581676699827), .int (.ofNat 7677619978602), .int (.ofNat 12422650078083)]) L := by kernel_rfl
theorem row13_48 (L : LH) (k : KV) : callE 300 GG F1 2 13 [.str [84], .int (.ofNat 18)] L k = k (.vl [.int (.ofNat 74305136947968), .int (.ofNat 10840973378257), .int (.ofNat 52623190191456), .int (.ofNat 85146110326224)]) L := by kernel_rfl
theorem row13_49 (L : LH) (k : KV) : callE 300 GG F1 2 13 [.str [84], .int (.ofNat 19)] L k = k (.vl [.int (.ofNat 509294985257521), .int (.ofNat 74305136947968), .int (.ofNat 360684711361584), .int (.ofNat 583600122205488)]) L := by kernel_rfl
theorem row13_50 (L : LH) (k : KV) : callE 300 GG F1 2 13 [.str [84], .int (.ofNat 20)] L k = k (.vl [.int (.ofNat 3490759759854675), .int (.ofNat 509294985257521), .int (.ofNat 2472169789339635), .int (.ofNat 4000054745112195)]) L := by kernel_rfl
theorem row13_51 (L : LH) (k : KV) : callE 300 GG F1 2 13 [.str [84], .int (.ofNat 21)] L k = k (.vl [.int (.ofNat 23926023333725206), .int (.ofNat 3490759759854675), .int (.ofNat 16944503814015855), .int (.ofNat 27416783093579880)]) L := by kernel_rfl
theorem row13_52 (L : LH) (k : KV) : callE 300 GG F1 2 13 [.str [84], .int (.ofNat 22)] L k = k (.vl [.int (.ofNat 163991403576221763), .int (.ofNat 23926023333725206), .int (.ofNat 116139356908771353), .int (.ofNat 187917426909946968)]) L := by kernel_rfl
theorem row13_53 (L : LH) (k : KV) : callE 300 GG F1 2 13 [.str [84], .int (.ofNat 23)] L k = k (.vl [.int (.ofNat 1124013801699827137), .int (.ofNat 163991403576221763), .int (.ofNat 796030994547383610), .int (.ofNat 1288005205276048899)]) L := by kernel_rfl
theorem row13_54 (L : LH) (k : KV) : callE 300 GG F1 2 13 [.str [84], .int (.ofNat 24)] L k = k (.vl [.int (.ofNat 7704105208322568192), .int (.ofNat 1124013801699827137), .int (.ofNat 5456077604922913920), .int (.ofNat 8828119010022395328)]) L := by kernel_rfl
theorem row13_55 (L : LH) (k : KV) : callE 300 GG F1 2 13 [.str [84], .int (.ofNat 25)] L k = k (.vl [.int (.ofNat 52804722656558150209), .int (.ofNat 7704105208322568192), .int (.ofNat 37396512239913013824), .int (.ofNat 60508827864880718400)]) L := by kernel_rfl
theorem row13_56 (L : LH) (k : KV) : callE 300 GG F1 2 13 [.str [84], .int (.ofNat 26)] L k = k (.vl [.int (.ofNat 361928953387584483267), .int (.ofNat 52804722656558150209), .int (.ofNat 256319508074468182851), .int (.ofNat 414733676044142633475)]) L := by kernel_rfl
theorem row13_57 (L : LH) (k : KV) : callE 300 GG F1 2 13 [.str [84], .int (.ofNat 27)] L k = k (.vl [.int (.ofNat 2480697951056533232662), .int (.ofNat 361928953387584483267), .int (.ofNat 1756840044281364266127), .int (.ofNat 2842626904444117715928)]) L := by kernel_rfl
theorem row13_58 (L : LH) (k : KV) : callE 300 GG F1 2 13 [.str [84], .int (.ofNat 28)] L k = k (.vl [.int (.ofNat 17002956704008148145363), .int (.ofNat 2480697951056533232662), .int (.ofNat 12041560801895081680041), .int (.ofNat 19483654655064681378024)]) L := by kernel_rfl
theorem row13_59 (L : LH) (k : KV) : callE 300 GG F1 2 13 [.str [84], .int (.ofNat 29)] L k = k (.vl [.int (.ofNat 116539998977000503784881), .int (.ofNat 17002956704008148145363), .int (.ofNat 82534085568984207494154), .int (.ofNat 133542955681008651930243)]) L := by kernel_rfl
theorem row13_60 (L : LH) (k : KV) : callE 300 GG F1 2 13 [.str [80], .int (.ofNat 0)] L k = k (.vl [.int (.ofNat 0), .int (.ofNat 0), .int (.ofNat 1), .int (.ofNat 0)]) L := by kernel_rfl
theorem row13_61 (L : LH) (k : KV) : callE 300 GG F1 2 13 [.str [80], .int (.ofNat 1)] L k = k (.vl [.int (.ofNat 2), .int (.ofNat 0), .int (.ofNat 1), .int (.ofNat 2)]) L := by kernel_rfl
theorem row13_62 (L : LH) (k : KV) : callE 300 GG F1 2 13 [.str [80], .int (.ofNat 2)] L k = k (.vl [.int (.ofNat 12), .int (.ofNat 2), .int (.ofNat 9), .int (.ofNat 14)]) L := by kernel_rfl
theorem row13_63 (L : LH) (k : KV) : callE 300 GG F1 2 13 [.str [80], .int (.ofNat 3)] L k = k (.vl [.int (.ofNat 84), .int (.ofNat 12), .int (.ofNat 59), .int (.ofNat 96)]) L := by kernel_rfl
theorem row13_64 (L : LH) (k : KV) : callE 300 GG F1 2 13 [.str [80], .int (.ofNat 4)] L k = k (.vl [.int (.ofNat 574), .int (.ofNat 84), .int (.ofNat 407), .int (.ofNat 658)]) L := by kernel_rfl
theorem row13_65 (L : LH) (k : KV) : callE 300 GG F1 2 13 [.str [80], .int (.ofNat 5)] L k = k (.vl [.int (.ofNat 3936), .int (.ofNat 574), .int (.ofNat 2787), .int (.ofNat 4510)]) L := by kernel_rfl
theorem row13_66 (L : LH) (k : KV) : callE 300 GG F1 2 13 [.str [80], .int (.ofNat 6)] L k = k (.vl [.int (.ofNat 26976), .int (.ofNat 3936), .int (.ofNat 19105), .int (.ofNat 30912)]) L := by kernel_rfl
theorem row13_67 (L : LH) (k : KV) : callE 300 GG F1 2 13 [.str [80], .int (.ofNat 7)] L k = k (.vl [.int (.ofNat 184898), .int (.ofNat 26976), .int (.ofNat 130945), .int (.ofNat 211874)]) L := by kernel_rfl
theorem row13_68 (L : LH) (k : KV) : callE 300 GG F1 2 13 [.str [80], .int (.ofNat 8)] L k = k (.vl [.int (.ofNat 1267308), .int (.ofNat 184898), .int (.ofNat 897513), .int (.ofNat 1452206)]) L := by kernel_rfl
theorem row13_69 (L : LH) (k : KV) : callE 300 GG F1 2 13 [.str [80], .int (.ofNat 9)] L k = k (.vl [.int (.ofNat 8686260), .int (.ofNat 1267308), .int (.ofNat 6151643), .int (.ofNat 9953568)]) L := by kernel_rfl
theorem row13_70 (L : LH) (k : KV) : callE 300 GG F1 2 13 [.str [80], .int (.ofNat 10)] L k = k (.vl [.int (.ofNat 59536510), .int (.ofNat 8686260), .int (.ofNat 42163991), .int (.ofNat 68222770)]) L := by kernel_rfl
theorem row13_71 (L : LH) (k : KV) : callE 300 GG F1 2 13 [.str [80], .int (.ofNat 11)] L k = k (.vl [.int (.ofNat 408069312), .int (.ofNat 59536510), .int (.ofNat 288996291), .int (.ofNat 467605822)]) L := by kernel_rfl
theorem row13_72 (L : LH) (k : KV) : callE 300 GG F1 2 13 [.str [80], .int (.ofNat 12)] L k = k (.vl [.int (.ofNat 2796948672), .int (.ofNat 408069312), .int (.ofNat 1980810049), .int (.ofNat 3205017984)]) L := by kernel_rfl
theorem row13_73 (L : LH) (k : KV) : callE 300 GG F1 2 13 [.str [80], .int (.ofNat 13)] L k = k (.vl [.int (.ofNat 19170571394), .int (.ofNat 2796948672), .int (.ofNat 13576674049), .int (.ofNat 21967520066)]) L := by kernel_rfl
theorem row13_74 (L : LH) (k : KV) : callE 300 GG F1 2 13 [.str [80], .int (.ofNat 14)] L k = k (.vl [.int (.ofNat 131397051084), .int (.ofNat 19170571394), .int (.ofNat 93055908297), .int (.ofNat 150567622478)]) L := by kernel_rfl
theorem row13_75 (L : LH) (k : KV) : callE 300 GG F1 2 13 [.str [80], .int (.ofNat 15)] L k = k (.vl [.int (.ofNat 900608786196), .int (.ofNat 131397051084), .int (.ofNat 637814684027), .int (.ofNat 1032005837280)]) L := by kernel_rfl
theorem row13_76 (L : LH) (k : KV) : callE 300 GG F1 2 13 [.str [80], .int (.ofNat 16)] L k = k (.vl [.int (.ofNat 6172864452286), .int (.ofNat 900608786196), .int (.ofNat 4371646879895), .int (.ofNat 7073473238482)]) L := by kernel_rfl
theorem row13_77 (L : LH) (k : KV) : callE 300 GG F1 2 13 [.str [80], .int (.ofNat 17)] L k = k (.vl [.int (.ofNat 42309442379808), .int (.ofNat 6172864452286), .int (.ofNat 29963713475235), .int (.ofNat 48482306832094)]) L := by kernel_rfl
theorem row13_78 (L : LH) (k : KV) : callE 300 GG F1 2 13 [.str [80], .int (.ofNat 18)] L k = k (.vl [.int (.ofNat 289993232206368), .int (.ofNat 42309442379808), .int (.ofNat 205374347446753), .int (.ofNat 332302674586176)]) L := by kernel_rfl
theorem row13_79 (L : LH) (k : KV) : callE 300 GG F1 2 13 [.str [80], .int (.ofNat 19)] L k = k (.vl [.int (.ofNat 1987643183064770), .int (.ofNat 289993232206368), .int (.ofNat 1407656718652033), .int (.ofNat 2277636415271138)]) L := by kernel_rfl
theorem row13_80 (L : LH) (k : KV) : callE 300 GG F1 2 13 [.str [80], .int (.ofNat 20)] L k = k (.vl [.int (.ofNat 13623509049247020), .int (.ofNat 1987643183064770), .int (.ofNat 9648222683117481), .int (.ofNat 15611152232311790)]) L := by kernel_rfl
theorem row13_81 (L : LH) (k : KV) : callE 300 GG F1 2 13 [.str [80], .int (.ofNat 21)] L k = k (.vl [.int (.ofNat 93376920161664372), .int (.ofNat 13623509049247020), .int (.ofNat 66129902063170331), .int (.ofNat 107000429210911392)]) L := by kernel_rfl
theorem row13_82 (L : LH) (k : KV) : callE 300 GG F1 2 13 [.str [80], .int (.ofNat 22)] L k = k (.vl [.int (.ofNat 640014932082403582), .int (.ofNat 93376920161664372), .int (.ofNat 453261091759074839), .int (.ofNat 733391852244067954)]) L := by kernel_rfl
theorem row13_83 (L : LH) (k : KV) : callE 300 GG F1 2 13 [.str [80], .int (.ofNat 23)] L k = k (.vl [.int (.ofNat 4386727604415160704), .int (.ofNat 640014932082403582), .int (.ofNat 3106697740250353539), .int (.ofNat 5026742536497564286)]) L := by kernel_rfl
theorem row13_84 (L : LH) (k : KV) : callE 300 GG F1 2 13 [.str [80], .int (.ofNat 24)] L k = k (.vl [.int (.ofNat 30067078298823721344), .int (.ofNat 4386727604415160704), .int (.ofNat 21293623089993399937), .int (.ofNat 34453805903238882048)]) L := by kernel_rfl
theorem row13_85 (L : LH) (k : KV) : callE 300 GG F1 2 13 [.str [80], .int (.ofNat 25)] L k = k (.vl [.int (.ofNat 206082820487350888706), .int (.ofNat 30067078298823721344), .int (.ofNat 145948663889703446017), .int (.ofNat 236149898786174610050)]) L := by kernel_rfl
theorem row13_86 (L : LH) (k : KV) : callE 300 GG F1 2 13 [.str [80], .int (.ofNat 26)] L k = k (.vl [.int (.ofNat 1412512665112632499596), .int (.ofNat 206082820487350888706), .int (.ofNat 1000347024137930722185), .int (.ofNat 1618595485599983388302)]) L := by kernel_rfl
theorem row13_87 (L : LH) (k : KV) : callE 300 GG F1 2 13 [.str [80], .int (.ofNat 27)] L k = k (.vl [.int (.ofNat 9681505835301076608468), .int (.ofNat 1412512665112632499596), .int (.ofNat 6856480505075811609275), .int (.ofNat 11094018500413709108064)]) L := by kernel_rfl
theorem row13_88 (L : LH) (k : KV) : callE 300 GG F1 2 13 [.str [80], .int (.ofNat 28)] L k = k (.vl [.int (.ofNat 66358028181994903759678), .int (.ofNat 9681505835301076608468), .int (.ofNat 46995016511392750542743), .int (.ofNat 76039534017295980368146)]) L := by kernel_rfl
theorem row13_89 (L : LH) (k : KV) : callE 300 GG F1 2 13 [.str [80], .int (.ofNat 29)] L k = k (.vl [.int (.ofNat 454824691438663249709280), .int (.ofNat 66358028181994903759678), .int (.ofNat 322108635074673442189923), .int (.ofNat 521182719620658153468958)]) L := by kernel_rfl
theorem row13_90 (L : LH) (k : KV) : callE 300 GG F1 2 13 [.str [70], .int (.ofNat 0)] L k = k (.vl [.int (.ofNat 0), .int (.ofNat 0), .int (.ofNat 0), .int (.ofNat 1)]) L := by kernel_rfl
theorem row13_91 (L : LH) (k : KV) : callE 300 GG F1 2 13 [.str [70], .int (.ofNat 1)] L k = k (.vl [.int (.ofNat 2), .int (.ofNat 0), .int (.ofNat 1), .int (.ofNat 3)]) L := by kernel_rfl
theorem row13_92 (L : LH) (k : KV) : callE 300 GG F1 2 13 [.str [70], .int (.ofNat 2)] L k = k (.vl [.int (.ofNat 14), .int (.ofNat 2), .int (.ofNat 10), .int (.ofNat 17)]) L := by kernel_rfl
theorem row13_93 (L : LH) (k : KV) : callE 300 GG F1 2 13 [.str [70], .int (.ofNat 3)] L k = k (.vl [.int (.ofNat 98), .int (.ofNat 14), .int (.ofNat 69), .int (.ofNat 113)]) L := by kernel_rfl
theorem row13_94 (L : LH) (k : KV) : callE 300 GG F1 2 13 [.str [70], .int (.ofNat 4)] L k = k (.vl [.int (.ofNat 672), .int (.ofNat 98), .int (.ofNat 476), .int (.ofNat 771)]) L := by kernel_rfl
theorem row13_95 (L : LH) (k : KV) : callE 300 GG F1 2 13 [.str [70], .int (.ofNat 5)] L k = k (.vl [.int (.ofNat 4608), .int (.ofNat 672), .int (.ofNat 3263), .int (.ofNat 5281)]) L := by kernel_rfl
theorem row13_96 (L : LH) (k : KV) : callE 300 GG F1 2 13 [.str [70], .int (.ofNat 6)] L k = k (.vl [.int (.ofNat 31584), .int (.ofNat 4608), .int (.ofNat 22368), .int (.ofNat 36193)]) L := by kernel_rfl
theorem row13_97 (L : LH) (k : KV) : callE 300 GG F1 2 13 [.str [70], .int (.ofNat 7)] L k = k (.vl [.int (.ofNat 216482), .int (.ofNat 31584), .int (.ofNat 153313), .int (.ofNat 248067)]) L := by kernel_rfl
theorem row13_98 (L : LH) (k : KV) : callE 300 GG F1 2 13 [.str [70], .int (.ofNat 8)] L k = k (.vl [.int (.ofNat 1483790), .int (.ofNat 216482), .int (.ofNat 1050826), .int (.ofNat 1700273)]) L := by kernel_rfl
theorem row13_99 (L : LH) (k : KV) : callE 300 GG F1 2 13 [.str [70], .int (.ofNat 9)] L k = k (.vl [.int (.ofNat 10170050), .int (.ofNat 1483790), .int (.ofNat 7202469), .int (.ofNat 11653841)]) L := by kernel_rfl
theorem row13_100 (L : LH) (k : KV) : callE 300 GG F1 2 13 [.str [70], .int (.ofNat 10)] L k = k (.vl [.int (.ofNat 69706560), .int (.ofNat 10170050), .int (.ofNat 49366460), .int (.ofNat 79876611)]) L := by kernel_rfl
theorem row13_101 (L : LH) (k : KV) : callE 300 GG F1 2 13 [.str [70], .int (.ofNat 11)] L k = k (.vl [.int (.ofNat 477775872), .int (.ofNat 69706560), .int (.ofNat 338362751), .int (.ofNat 547482433)]) L := by kernel_rfl
theorem row13_102 (L : LH) (k : KV) : callE 300 GG F1 2 13 [.str [70], .int (.ofNat 12)] L k = k (.vl [.int (.ofNat 3274724544), .int (.ofNat 477775872), .int (.ofNat 2319172800), .int (.ofNat 3752500417)]) L := by kernel_rfl
theorem row13_103 (L : LH) (k : KV) : callE 300 GG F1 2 13 [.str [70], .int (.ofNat 13)] L k = k (.vl [.int (.ofNat 22445295938), .int (.ofNat 3274724544), .int (.ofNat 15895846849), .int (.ofNat 25720020483)]) L := by kernel_rfl
theorem row13_104 (L : LH) (k : KV) : callE 300 GG F1 2 13 [.str [70], .int (.ofNat 14)] L k = k (.vl [.int (.ofNat 153842347022), .int (.ofNat 22445295938), .int (.ofNat 108951755146), .int (.ofNat 176287642961)]) L := by kernel_rfl
theorem row13_105 (L : LH) (k : KV) : callE 300 GG F1 2 13 [.str [70], .int (.ofNat 15)] L k = k (.vl [.int (.ofNat 1054451133218), .int (.ofNat 153842347022), .int (.ofNat 746766439173), .int (.ofNat 1208293480241)]) L := by kernel_rfl
theorem row13_106 (L : LH) (k : KV) : callE 300 GG F1 2 13 [.str [70], .int (.ofNat 16)] L k = k (.vl [.int (.ofNat 7227315585504), .int (.ofNat 1054451133218), .int (.ofNat 5118413319068), .int (.ofNat 8281766718723)]) L := by kernel_rfl
theorem row13_107 (L : LH) (k : KV) : callE 300 GG F1 2 13 [.str [70], .int (.ofNat 17)] L k = k (.vl [.int (.ofNat 49536757965312), .int (.ofNat 7227315585504), .int (.ofNat 35082126794303), .int (.ofNat 56764073550817)]) L := by kernel_rfl
theorem row13_108 (L : LH) (k : KV) : callE 300 GG F1 2 13 [.str [70], .int (.ofNat 18)] L k = k (.vl [.int (.ofNat 339529990171680), .int (.ofNat 49536757965312), .int (.ofNat 240456474241056), .int (.ofNat 389066748136993)]) L := by kernel_rfl
theorem row13_109 (L : LH) (k : KV) : callE 300 GG F1 2 13 [.str [70], .int (.ofNat 19)] L k = k (.vl [.int (.ofNat 2327173173236450), .int (.ofNat 339529990171680), .int (.ofNat 1648113192893089), .int (.ofNat 2666703163408131)]) L := by kernel_rfl
theorem row13_110 (L : LH) (k : KV) : callE 300 GG F1 2 13 [.str [70], .int (.ofNat 20)] L k = k (.vl [.int (.ofNat 15950682222483470), .int (.ofNat 2327173173236450), .int (.ofNat 11296335876010570), .int (.ofNat 18277855395719921)]) L := by kernel_rfl
theorem row13_111 (L : LH) (k : KV) : callE 300 GG F1 2 13 [.str [70], .int (.ofNat 21)] L k = k (.vl [.int (.ofNat 109327602384147842), .int (.ofNat 15950682222483470), .int (.ofNat 77426237939180901), .int (.ofNat 125278284606631313)]) L := by kernel_rfl
theorem row13_112 (L : LH) (k : KV) : callE 300 GG F1 2 13 [.str [70], .int (.ofNat 22)] L k = k (.vl [.int (.ofNat 749342534466551424), .int (.ofNat 109327602384147842), .int (.ofNat 530687329698255740), .int (.ofNat 858670136850699267)]) L := by kernel_rfl
theorem row13_113 (L : LH) (k : KV) : callE 300 GG F1 2 13 [.str [70], .int (.ofNat 23)] L k = k (.vl [.int (.ofNat 5136070138881712128), .int (.ofNat 749342534466551424), .int (.ofNat 3637385069948609279), .int (.ofNat 5885412673348263553)]) L := by kernel_rfl
theorem row13_114 (L : LH) (k : KV) : callE 300 GG F1 2 13 [.str [70], .int (.ofNat 24)] L k = k (.vl [.int (.ofNat 35203148437705433472), .int (.ofNat 5136070138881712128), .int (.ofNat 24931008159942009216), .int (.ofNat 40339218576587145601)]) L := by kernel_rfl
theorem row13_115 (L : LH) (k : KV) : callE 300 GG F1 2 13 [.str [70], .int (.ofNat 25)] L k = k (.vl [.int (.ofNat 241285968925056322178), .int (.ofNat 35203148437705433472), .int (.ofNat 170879672049645455233), .int (.ofNat 276489117362761755651)]) L := by kernel_rfl
theorem row13_116 (L : LH) (k : KV) : callE 300 GG F1 2 13 [.str [70], .int (.ofNat 26)] L k = k (.vl [.int (.ofNat 1653798634037688821774), .int (.ofNat 241285968925056322178), .int (.ofNat 1171226696187576177418), .int (.ofNat 1895084602962745143953)]) L := by kernel_rfl
theorem row13_117 (L : LH) (k : KV) : callE 300 GG F1 2 13 [.str [70], .int (.ofNat 27)] L k = k (.vl [.int (.ofNat 11335304469338765430242), .int (.ofNat 1653798634037688821774), .int (.ofNat 8027707201263387786693), .int (.ofNat 12989103103376454252017)]) L := by kernel_rfl
theorem row13_118 (L : LH) (k : KV) : callE 300 GG F1 2 13 [.str [70], .int (.ofNat 28)] L k = k (.vl [.int (.ofNat 77693332651333669189920), .int (.ofNat 11335304469338765430242), .int (.ofNat 55022723712656138329436), .int (.ofNat 89028637120672434620163)]) L := by kernel_rfl
theorem row13_119 (L : LH) (k : KV) : callE 300 GG F1 2 13 [.str [70], .int (.ofNat 29)] L k = k (.vl [.int (.ofNat 532518024089996918899200), .int (.ofNat 77693332651333669189920), .int (.ofNat 377131358787329580519359), .int (.ofNat 610211356741330588089121)]) L := by kernel_rfl
theorem rows13 : RowsOk 300 GG F1 2 13 t13 := ⟨row13_0, ⟨row13_1, ⟨row13_2, ⟨row13_3, ⟨row13_4, ⟨row13_5, ⟨row13_6, ⟨row13_7, ⟨row13_8, ⟨row13_9, ⟨row13_10, ⟨row13_11, ⟨row13_12, ⟨row13_13, ⟨row13_14, ⟨row13_15, ⟨row13_16, ⟨row13_17, ⟨row13_18, ⟨row13_19, ⟨row13_20, ⟨row13_21, ⟨row13_22, ⟨row13_23, ⟨row13_24, ⟨row13_25, ⟨row13_26, ⟨row13_27, ⟨row13_28, ⟨row13_29, ⟨row13_30, ⟨row13_31, ⟨row13_32, ⟨row13_33, ⟨row13_34, ⟨row13_35, ⟨row13_36, ⟨row13_37, ⟨row13_38, ⟨row13_39, ⟨row13_40, ⟨row13_41, ⟨row13_42, ⟨row13_43, ⟨row13_44, ⟨row13_45, ⟨row13_46, ⟨row13_47, ⟨row13_48, ⟨row13_49, ⟨row13_50, ⟨row13_51, ⟨row13_52, ⟨row13_53, ⟨row13_54, ⟨row13_55, ⟨row13_56, ⟨row13_57, ⟨row13_58, ⟨row13_59, ⟨row13_60, ⟨row13_61, ⟨row13_62, ⟨row13_63, ⟨row13_64, ⟨row13_65, ⟨row13_66, ⟨row13_67, ⟨row13_68, ⟨row13_69, ⟨row13_70, ⟨row13_71, ⟨row13_72, ⟨row13_73, ⟨row13_74, ⟨row13_75, ⟨row13_76, ⟨row13_77, ⟨row13_78, ⟨row13_79, ⟨row13_80, ⟨row13_81, ⟨row13_82, ⟨row13_83, ⟨row13_84, ⟨row13_85, ⟨row13_86, ⟨row13_87, ⟨row13_88, ⟨row13_89, ⟨row13_90, ⟨row13_91, ⟨row13_92, ⟨row13_93, ⟨row13_94, ⟨row13_95, ⟨row13_96, ⟨row13_97, ⟨row13_98, ⟨row13_99, ⟨row13_100, ⟨row13_101, ⟨row13_102, ⟨row13_103, ⟨row13_104, ⟨row13_105, ⟨row13_106, ⟨row13_107, ⟨row13_108, ⟨row13_109, ⟨row13_110, ⟨row13_111, ⟨row13_112, ⟨row13_113, ⟨row13_114, ⟨row13_115, ⟨row13_116, ⟨row13_117, ⟨row13_118, ⟨row13_119, True.intro⟩⟩⟩⟩⟩⟩⟩⟩⟩⟩⟩⟩⟩⟩⟩⟩⟩⟩⟩⟩⟩⟩⟩⟩⟩⟩⟩⟩⟩⟩⟩⟩⟩⟩⟩⟩⟩⟩⟩⟩⟩⟩⟩⟩⟩⟩⟩⟩⟩⟩⟩⟩⟩⟩⟩⟩⟩⟩⟩⟩⟩⟩⟩⟩⟩⟩⟩⟩⟩⟩⟩⟩⟩⟩⟩⟩⟩⟩⟩⟩⟩⟩⟩⟩⟩⟩⟩⟩⟩⟩⟩⟩⟩⟩⟩⟩⟩⟩⟩⟩⟩⟩⟩⟩⟩⟩⟩⟩⟩⟩⟩⟩⟩⟩⟩⟩⟩⟩⟩⟩
theorem row22_0 (L : LH) (k : KV) : callE 300 GG F1 2 22 [.str [72], .int (.ofNat 0)] L k = k (.tup [.int (.ofNat 1), .int (.ofNat 0), .int (.ofNat 0), .int (.ofNat 0)]) L := by kernel_rfl
theorem row22_1 (L : LH) (k : KV) : callE 300 GG F1 2 22 [.str [72], .int (.ofNat 1)] L k = k (.tup [.int (.ofNat 3), .int (.ofNat 1), .int (.ofNat 3), .int (.ofNat 3)]) L := by kernel_rfl
theorem row22_2 (L : LH) (k : KV) : callE 300 GG F1 2 22 [.str [72], .int (.ofNat 2)] L k = k (.tup [.int (.ofNat 22), .int (.ofNat 3), .int (.ofNat 15), .int (.ofNat 24)]) L := by kernel_rfl
theorem row22_3 (L : LH) (k : KV) : callE 300 GG F1 2 22 [.str [72], .int (.ofNat 3)] L k = k (.tup [.int (.ofNat 147), .int (.ofNat 22), .int (.ofNat 105), .int (.ofNat 168)]) L := by kernel_rfl
theorem row22_4 (L : LH) (k : KV) : callE 300 GG F1 2 22 [.str [72], .int (.ofNat 4)] L k = k (.tup [.int (.ofNat 1009), .int (.ofNat 147), .int (.ofNat 714), .int (.ofNat 1155)]) L := by kernel_rfl
theorem row22_5 (L : LH) (k : KV) : callE 300 GG F1 2 22 [.str [72], .int (.ofNat 5)] L k = k (.tup [.int (.ofNat 6912), .int (.ofNat 1009), .int (.ofNat 4896), .int (.ofNat 7920)]) L := by kernel_rfl
theorem row22_6 (L : LH) (k : KV) : callE 300 GG F1 2 22 [.str [72], .int (.ofNat 6)] L k = k (.tup [.int (.ofNat 47377), .int (.ofNat 6912), .int (.ofNat 33552), .int (.ofNat 54288)]) L := by kernel_rfl
theorem row22_7 (L : LH) (k : KV) : callE 300 GG F1 2 22 [.str [72], .int (.ofNat 7)] L k = k (.tup [.int (.ofNat 324723), .int (.ofNat 47377), .int (.ofNat 229971), .int (.ofNat 372099)]) L := by kernel_rfl
theorem row22_8 (L : LH) (k : KV) : callE 300 GG F1 2 22 [.str [72], .int (.ofNat 8)] L k = k (.tup [.int (.ofNat 2225686), .int (.ofNat 324723), .int (.ofNat 1576239), .int (.ofNat 2550408)]) L := by kernel_rfl
theorem row22_9 (L : LH) (k : KV) : callE 300 GG F1 2 22 [.str [72], .int (.ofNat 9)] L k = k (.tup [.int (.ofNat 15255075), .int (.ofNat 2225686), .int (.ofNat 10803705), .int (.ofNat 17480760)]) L := by kernel_rfl
theorem row22_10 (L : LH) (k : KV) : callE 300 GG F1 2 22 [.str [72], .int (.ofNat 10)] L k = k (.tup [.int (.ofNat 104559841), .int (.ofNat 15255075), .int (.ofNat 74049690), .int (.ofNat 119814915)]) L := by kernel_rfl
theorem row22_11 (L : LH) (k : KV) : callE 300 GG F1 2 22 [.str [72], .int (.ofNat 11)] L k = k (.tup [.int (.ofNat 716663808), .int (.ofNat 104559841), .int (.ofNat 507544128), .int (.ofNat 821223648)]) L := by kernel_rfl
theorem row22_12 (L : LH) (k : KV) : callE 300 GG F1 2 22 [.str [72], .int (.ofNat 12)] L k = k (.tup [.int (.ofNat 4912086817), .int (.ofNat 716663808), .int (.ofNat 3478759200), .int (.ofNat 5628750624)]) L := by kernel_rfl
theorem row22_13 (L : LH) (k : KV) : callE 300 GG F1 2 22 [.str [72], .int (.ofNat 13)] L k = k (.tup [.int (.ofNat 33667943907), .int (.ofNat 4912086817), .int (.ofNat 23843770275), .int (.ofNat 38580030723)]) L := by kernel_rfl
theorem row22_14 (L : LH) (k : KV) : callE 300 GG F1 2 22 [.str [72], .int (.ofNat 14)] L k = k (.tup [.int (.ofNat 230763520534), .int (.ofNat 33667943907), .int (.ofNat 163427632719), .int (.ofNat 264431464440)]) L := by kernel_rfl
theorem row22_15 (L : LH) (k : KV) : callE 300 GG F1 2 22 [.str [72], .int (.ofNat 15)] L k = k (.tup [.int (.ofNat 1581676699827), .int (.ofNat 230763520534), .int (.ofNat 1120149658761), .int (.ofNat 1812440220360)]) L := by kernel_rfl
theorem row22_16 (L : LH) (k : KV) : callE 300 GG F1 2 22 [.str [72], .int (.ofNat 16)] L k = k (.tup [.int (.ofNat 10840973378257), .int (.ofNat 1581676699827), .int (.ofNat 7677619978602), .int (.ofNat 12422650078083)]) L := by kernel_rfl
theorem row22_17 (L : LH) (k : KV) : callE 300 GG F1 2 22 [.str [72], .int (.ofNat 17)] L k = k (.tup [.int (.ofNat 74305136947968), .int (.ofNat 10840973378257), .int (.ofNat 52623190191456), .int (.ofNat 85146110326224)]) L := by kernel_rfl
theorem row22_18 (L : LH) (k : KV) : callE 300 GG F1 2 22 [.str [72], .int (.ofNat 18)] L k = k (.tup [.int (.ofNat 509294985257521), .int (.ofNat 74305136947968), .int (.ofNat 360684711361584), .int (.ofNat 583600122205488)]) L := by kernel_rfl
theorem row22_19 (L : LH) (k : KV) : callE 300 GG F1 2 22 [.str [72], .int (.ofNat 19)] L k = k (.tup [.int (.ofNat 3490759759854675), .int (.ofNat 509294985257521), .int (.ofNat 2472169789339635), .int (.ofNat 4000054745112195)]) L := by kernel_rfl
theorem row22_20 (L : LH) (k : KV) : callE 300 GG F1 2 22 [.str [72], .int (.ofNat 20)] L k = k (.tup [.int (.ofNat 23926023333725206), .int (.ofNat 3490759759854675), .int (.ofNat 16944503814015855), .int (.ofNat 27416783093579880)]) L := by kernel_rfl
theorem row22_21 (L : LH) (k : KV) : callE 300 GG F1 2 22 [.str [72], .int (.ofNat 21)] L k = k (.tup [.int (.ofNat 163991403576221763), .int (.ofNat 23926023333725206), .int (.ofNat 116139356908771353), .int (.ofNat 187917426909946968)]) L := by kernel_rfl
theorem row22_22 (L : LH) (k : KV) : callE 300 GG F1 2 22 [.str [72], .int (.ofNat 22)] L k = k (.tup [.int (.ofNat 1124013801699827137), .int (.ofNat 163991403576221763), .int (.ofNat 796030994547383610), .int (.ofNat 1288005205276048899)]) L := by kernel_rfl
theorem row22_23 (L : LH) (k : KV) : callE 300 GG F1 2 22 [.str [72], .int (.ofNat 23)] L k = k (.tup [.int (.ofNat 7704105208322568192), .int (.ofNat 1124013801699827137), .int (.ofNat 5456077604922913920), .int (.ofNat 8828119010022395328)]) L := by kernel_rfl
theorem row22_24 (L : LH) (k : KV) : callE 300 GG F1 2 22 [.str [72], .int (.ofNat 24)] L k = k (.tup [.int (.ofNat 52804722656558150209), .int (.ofNat 7704105208322568192), .int (.ofNat 37396512239913013824), .int (.ofNat 60508827864880718400)]) L := by kernel_rfl
theorem row22_25 (L : LH) (k : KV) : callE 300 GG F1 2 22 [.str [72], .int (.ofNat 25)] L k = k (.tup [.int (.ofNat 361928953387584483267), .int (.ofNat 52804722656558150209), .int (.ofNat 256319508074468182851), .int (.ofNat 414733676044142633475)]) L := by kernel_rfl
theorem row22_26 (L : LH) (k : KV) : callE 300 GG F1 2 22 [.str [72], .int (.ofNat 26)] L k = k (.tup [.int (.ofNat 2480697951056533232662), .int (.ofNat 361928953387584483267), .int (.ofNat 1756840044281364266127), .int (.ofNat 2842626904444117715928)]) L := by kernel_rfl
theorem row22_27 (L : LH) (k : KV) : callE 300 GG F1 2 22 [.str [72], .int (.ofNat 27)] L k = k (.tup [.int (.ofNat 17002956704008148145363), .int (.ofNat 2480697951056533232662), .int (.ofNat 12041560801895081680041), .int (.ofNat 19483654655064681378024)]) L := by kernel_rfl
theorem row22_28 (L : LH) (k : KV) : callE 300 GG F1 2 22 [.str [72], .int (.ofNat 28)] L k = k (.tup [.int (.ofNat 116539998977000503784881), .int (.ofNat 17002956704008148145363), .int (.ofNat 82534085568984207494154), .int (.ofNat 133542955681008651930243)]) L := by kernel_rfl
theorem row22_29 (L : LH) (k : KV) : callE 300 GG F1 2 22 [.str [72], .int (.ofNat 29)] L k = k (.tup [.int (.ofNat 798777036134995378348800), .int (.ofNat 116539998977000503784881), .int (.ofNat 565697038180994370779040), .int (.ofNat 915317035111995882133680)]) L := by kernel_rfl
theorem row22_30 (L : LH) (k : KV) : callE 300 GG F1 2 22 [.str [84], .int (.ofNat 0)] L k = k (.tup [.int (.ofNat 0), .int (.ofNat 1), .int (.ofNat 0), .int (.ofNat 0)]) L := by kernel_rfl
theorem row22_31 (L : LH) (k : KV) : callE 300 GG F1 2 22 [.str [84], .int (.ofNat 1)] L k = k (.tup [.int (.ofNat 1), .int (.ofNat 0), .int (.ofNat 0), .int (.ofNat 0)]) L := by kernel_rfl
theorem row22_32 (L : LH) (k : KV) : callE 300 GG F1 2 22 [.str [84], .int (.ofNat 2)] L k = k (.tup [.int (.ofNat 3), .int (.ofNat 1), .int (.ofNat 3), .int (.ofNat 3)]) L := by kernel_rfl
theorem row22_33 (L : LH) (k : KV) : callE 300 GG F1 2 22 [.str [84], .int (.ofNat 3)] L k = k (.tup [.int (.ofNat 22), .int (.ofNat 3), .int (.ofNat 15), .int (.ofNat 24)]) L := by kernel_rfl
theorem row22_34 (L : LH) (k : KV) : callE 300 GG F1 2 22 [.str [84], .int (.ofNat 4)] L k = k (.tup [.int (.ofNat 147), .int (.ofNat 22), .int (.ofNat 105), .int (.ofNat 168)]) L := by kernel_rfl
theorem row22_35 (L : LH) (k : KV) : callE 300 GG F1 2 22 [.str [84], .int (.ofNat 5)] L k = k (.tup [.int (.ofNat 1009), .int (.ofNat 147), .int (.ofNat 714), .int (.ofNat 1155)]) L := by kernel_rfl
theorem row22_36 (L : LH) (k : KV) : callE 300 GG F1 2 22 [.str [84], .int (.ofNat 6)] L k = k (.tup [.int (.ofNat 6912), .int (.ofNat 1009), .int (.ofNat 4896), .int (.ofNat 7920)]) L := by kernel_rfl
theorem row22_37 (L : LH) (k : KV) : callE 300 GG F1 2 22 [.str [84], .int (.ofNat 7)] L k = k (.tup [.int (.ofNat 47377), .int (.ofNat 6912), .int (.ofNat 33552), .int (.ofNat 54288)]) L := by kernel_rfl
theorem row22_38 (L : LH) (k : KV) : callE 300 GG F1 2 22 [.str [84], .int (.ofNat 8)] L k = k (.tup [.int (.ofNat 324723), .int (.ofNat 47377), .int (.ofNat 229971), .int (.ofNat 372099)]) L := by kernel_rfl
theorem row22_39 (L : LH) (k : KV) : callE 300 GG F1 2 22 [.str [84], .int (.ofNat 9)] L k = k (.tup [.int (.ofNat 2225686), .int (.ofNat 324723), .int (.ofNat 1576239), .int (.ofNat 2550408)]) L := by kernel_rfl
theorem row22_40 (L : LH) (k : KV) : callE 300 GG F1 2 22 [.str [84], .int (.ofNat 10)] L k = k (.tup [.int (.ofNat 15255075), .int (.ofNat 2225686), .int (.ofNat 10803705), .int (.ofNat 17480760)]) L := by kernel_rfl
theorem row22_41 (L : LH) (k : KV) : callE 300 GG F1 2 22 [.str [84], .int (.ofNat 11)] L k = k (.tup [.int (.ofNat 104559841), .int (.ofNat 15255075), .int (.ofNat 74049690), .int (.ofNat 119814915)]) L := by kernel_rfl
theorem row22_42 (L : LH) (k : KV) : callE 300 GG F1 2 22 [.str [84], .int (.ofNat 12)] L k = k (.tup [.int (.ofNat 716663808), .int (.ofNat 104559841), .int (.ofNat 507544128), .int (.ofNat 821223648)]) L := by kernel_rfl
theorem row22_43 (L : LH) (k : KV) : callE 300 GG F1 2 22 [.str [84], .int (.ofNat 13)] L k = k (.tup [.int (.ofNat 4912086817), .int (.ofNat 716663808), .int (.ofNat 3478759200), .int (.ofNat 5628750624)]) L := by kernel_rfl
theorem row22_44 (L : LH) (k : KV) : callE 300 GG F1 2 22 [.str [84], .int (.ofNat 14)] L k = k (.tup [.int (.ofNat 33667943907), .int (.ofNat 4912086817), .int (.ofNat 23843770275), .int (.ofNat 38580030723)]) L := by kernel_rfl
theorem row22_45 (L : LH) (k : KV) : callE 300 GG F1 2 22 [.str [84], .int (.ofNat 15)] L k = k (.tup [.int (.ofNat 230763520534), .int (.ofNat 33667943907), .int (.ofNat 163427632719), .int (.ofNat 264431464440)]) L := by kernel_rfl
theorem row22_46 (L : LH) (k : KV) : callE 300 GG F1 2 22 [.str [84], .int (.ofNat 16)] L k = k (.tup [.int (.ofNat 1581676699827), .int (.ofNat 230763520534), .int (.ofNat 1120149658761), .int (.ofNat 1812440220360)]) L := by kernel_rfl
theorem row22_47 (L : LH) (k : KV) : callE 300 GG F1 2 22 [.str [84], .int (.ofNat 17)] L k = k (.tup [.int (.ofNat 10840973378257), .int (.ofNat 1581676699827), .int (.ofNat 7677619978602), .int (.ofNat 12422650078083)]) L := by kernel_rfl
theorem row22_48 (L : LH) (k : KV) : callE 300 GG F1 2 22 [.str [84], .int (.ofNat 18)] L k = k (.tup [.int (.ofNat 74305136947968), .int (.ofNat 10840973378257), .int (.ofNat 52623190191456), .int (.ofNat 85146110326224)]) L := by kernel_rfl
theorem row22_49 (L : LH) (k : KV) : callE 300 GG F1 2 22 [.str [84], .int (.ofNat 19)] L k = k (.tup [.int (.ofNat 509294985257521), .int (.ofNat 74305136947968), .int (.ofNat 360684711361584), .int (.ofNat 583600122205488)]) L := by kernel_rfl
theorem row22_50 (L : LH) (k : KV) : callE 300 GG F1 2 22 [.str [84], .int (.ofNat 20)] L k = k (.tup [.int (.ofNat 3490759759854675), .int (.ofNat 509294985257521), .int (.ofNat 2472169789339635), .int (.ofNat 4000054745112195)]) L := by kernel_rfl
theorem row22_51 (L : LH) (k : KV) : callE 300 GG F1 2 22 [.str [84], .int (.ofNat 21)] L k = k (.tup [.int (.ofNat 23926023333725206), .int (.ofNat 3490759759854675), .int (.ofNat 16944503814015855), .int (.ofNat 27416783093579880)]) L := by kernel_rfl
theorem row22_52 (L : LH) (k : KV) : callE 300 GG F1 2 22 [.str [84], .int (.ofNat 22)] L k = k (.tup [.int (.ofNat 163991403576221763), .int (.ofNat 23926023333725206), .int (.ofNat 116139356908771353), .int (.ofNat 187917426909946968)]) L := by kernel_rfl
theorem row22_53 (L : LH) (k : KV) : callE 300 GG F1 2 22 [.str [84], .int (.ofNat 23)] L k = k (.tup [.int (.ofNat 1124013801699827137), .int (.ofNat 163991403576221763), .int (.ofNat 796030994547383610), .int (.ofNat 1288005205276048899)]) L := by kernel_rfl
theorem row22_54 (L : LH) (k : KV) : callE 300 GG F1 2 22 [.str [84], .int (.ofNat 24)] L k = k (.tup [.int (.ofNat 7704105208322568192), .int (.ofNat 1124013801699827137), .int (.ofNat 5456077604922913920), .int (.ofNat 8828119010022395328)]) L := by kernel_rfl
theorem row22_55 (L : LH) (k : KV) : callE 300 GG F1 2 22 [.str [84], .int (.ofNat 25)] L k = k (.tup [.int (.ofNat 52804722656558150209), .int (.ofNat 7704105208322568192), .int (.ofNat 37396512239913013824), .int (.ofNat 60508827864880718400)]) L := by kernel_rfl
theorem row22_56 (L : LH) (k : KV) : callE 300 GG F1 2 22 [.str [84], .int (.ofNat 26)] L k = k (.tup [.int (.ofNat 361928953387584483267), .int (.ofNat 52804722656558150209), .int (.ofNat 256319508074468182851), .int (.ofNat 414733676044142633475)]) L := by kernel_rfl
theorem row22_57 (L : LH) (k : KV) : callE 300 GG F1 2 22 [.str [84], .int (.ofNat 27)] L k = k (.tup [.int (.ofNat 2480697951056533232662), .int (.ofNat 361928953387584483267), .int (.ofNat 1756840044281364266127), .int (.ofNat 2842626904444117715928)]) L := by kernel_rfl
theorem row22_58 (L : LH) (k : KV) : callE 300 GG F1 2 22 [.str [84], .int (.ofNat 28)] L k = k (.tup [.int (.ofNat 17002956704008148145363), .int (.ofNat 2480697951056533232662), .int (.ofNat 12041560801895081680041), .int (.ofNat 19483654655064681378024)]) L := by kernel_rfl
theorem row22_59 (L : LH) (k : KV) : callE 300 GG F1 2 22 [.str [84], .int (.ofNat 29)] L k = k (.tup [.int (.ofNat 116539998977000503784881), .int (.ofNat 17002956704008148145363), .int (.ofNat 82534085568984207494154), .int (.ofNat 133542955681008651930243)]) L := by kernel_rfl
theorem row22_60 (L : LH) (k : KV) : callE 300 GG F1 2 22 [.str [80], .int (.ofNat 0)] L k = k (.tup [.int (.ofNat 0), .int (.ofNat 0), .int (.ofNat 1), .int (.ofNat 0)]) L := by kernel_rfl
theorem row22_61 (L : LH) (k : KV) : callE 300 GG F1 2 22 [.str [80], .int (.ofNat 1)] L k = k (.tup [.int (.ofNat 2), .int (.ofNat 0), .int (.ofNat 1), .int (.ofNat 2)]) L := by kernel_rfl
theorem row22_62 (L : LH) (k : KV) : callE 300 GG F1 2 22 [.str [80], .int (.ofNat 2)] L k = k (.tup [.int (.ofNat 12), .int (.ofNat 2), .int (.ofNat 9), .int (.ofNat 14)]) L := by kernel_rfl
theorem row22_63 (L : LH) (k : KV) : callE 300 GG F1 2 22 [.str [80], .int (.ofNat 3)] L k = k (.tup [.int (.ofNat 84), .int (.ofNat 12), .int (.ofNat 59), .int (.ofNat 96)]) L := by kernel_rfl
theorem row22_64 (L : LH) (k : KV) : callE 300 GG F1 2 22 [.str [80], .int (.ofNat 4)] L k = k (.tup [.int (.ofNat 574), .int (.ofNat 84), .int (.ofNat 407), .int (.ofNat 658)]) L := by kernel_rfl
theorem row22_65 (L : LH) (k : KV) : callE 300 GG F1 2 22 [.str [80], .int (.ofNat 5)] L k = k (.tup [.int (.ofNat 3936), .int (.ofNat 574), .int (.ofNat 2787), .int (.ofNat 4510)]) L := by kernel_rfl
theorem row22_66 (L : LH) (k : KV) : callE 300 GG F1 2 22 [.str [80], .int (.ofNat 6)] L k = k (.tup [.int (.ofNat 26976), .int (.ofNat 3936), .int (.ofNat 19105), .int (.ofNat 30912)]) L := by kernel_rfl
theorem row22_67 (L : LH) (k : KV) : callE 300 GG F1 2 22 [.str [80], .int (.ofNat 7)] L k = k (.tup [.int (.ofNat 184898), .int (.ofNat 26976), .int (.ofNat 130945), .int (.ofNat 211874)]) L := by kernel_rfl
theorem row22_68 (L : LH) (k : KV) : callE 300 GG F1 2 22 [.str [80], .int (.ofNat 8)] L k = k (.tup [.int (.ofNat 1267308), .int (.ofNat 184898), .int (.ofNat 897513), .int (.ofNat 1452206)]) L := by kernel_rfl
theorem row22_69 (L : LH) (k : KV) : callE 300 GG F1 2 22 [.str [80], .int (.ofNat 9)] L k = k (.tup [.int (.ofNat 8686260), .int (.ofNat 1267308), .int (.ofNat 6151643), .int (.ofNat 9953568)]) L := by kernel_rfl
theorem row22_70 (L : LH) (k : KV) : callE 300 GG F1 2 22 [.str [80], .int (.ofNat 10)] L k = k (.tup [.int (.ofNat 59536510), .int (.ofNat 8686260), .int (.ofNat 42163991), .int (.ofNat 68222770)]) L := by kernel_rfl
theorem row22_71 (L : LH) (k : KV) : callE 300 GG F1 2 22 [.str [80], .int (.ofNat 11)] L k = k (.tup [.int (.ofNat 408069312), .int (.ofNat 59536510), .int (.ofNat 288996291), .int (.ofNat 467605822)]) L := by kernel_rfl
theorem row22_72 (L : LH) (k : KV) : callE 300 GG F1 2 22 [.str [80], .int (.ofNat 12)] L k = k (.tup [.int (.ofNat 2796948672), .int (.ofNat 408069312), .int (.ofNat 1980810049), .int (.ofNat 3205017984)]) L := by kernel_rfl
theorem row22_73 (L : LH) (k : KV) : callE 300 GG F1 2 22 [.str [80], .int (.ofNat 13)] L k = k (.tup [.int (.ofNat 19170571394), .int (.ofNat 2796948672), .int (.ofNat 13576674049), .int (.ofNat 21967520066)]) L := by kernel_rfl
theorem row22_74 (L : LH) (k : KV) : callE 300 GG F1 2 22 [.str [80], .int (.ofNat 14)] L k = k (.tup [.int (.ofNat 131397051084), .int (.ofNat 19170571394), .int (.ofNat 93055908297), .int (.ofNat 150567622478)]) L := by kernel_rfl
theorem row22_75 (L : LH) (k : KV) : callE 300 GG F1 2 22 [.str [80], .int (.ofNat 15)] L k = k (.tup [.int (.ofNat 900608786196), .int (.ofNat 131397051084), .int (.ofNat 637814684027), .int (.ofNat 1032005837280)]) L := by kernel_rfl
theorem row22_76 (L : LH) (k : KV) : callE 300 GG F1 2 22 [.str [80], .int (.ofNat 16)] L k = k (.tup [.int (.ofNat 6172864452286), .int (.ofNat 900608786196), .int (.ofNat 4371646879895), .int (.ofNat 7073473238482)]) L := by kernel_rfl
theorem row22_77 (L : LH) (k : KV) : callE 300 GG F1 2 22 [.str [80], .int (.ofNat 17)] L k = k (.tup [.int (.ofNat 42309442379808), .int (.ofNat 6172864452286), .int (.ofNat 29963713475235), .int (.ofNat 48482306832094)]) L := by kernel_rfl
theorem row22_78 (L : LH) (k : KV) : callE 300 GG F1 2 22 [.str [80], .int (.ofNat 18)] L k = k (.tup [.int (.ofNat 289993232206368), .int (.ofNat 42309442379808), .int (.ofNat 205374347446753), .int (.ofNat 332302674586176)]) L := by kernel_rfl
theorem row22_79 (L : LH) (k : KV) : callE 300 GG F1 2 22 [.str [80], .int (.ofNat 19)] L k = k (.tup [.int (.ofNat 1987643183064770), .int (.ofNat 289993232206368), .int (.ofNat 1407656718652033), .int (.ofNat 2277636415271138)]) L := by kernel_rfl
theorem row22_80 (L : LH) (k : KV) : callE 300 GG F1 2 22 [.str [80], .int (.ofNat 20)] L k = k (.tup [.int (.ofNat 13623509049247020), .int (.ofNat 1987643183064770), .int (.ofNat 9648222683117481), .int (.ofNat 15611152232311790)]) L := by kernel_rfl
theorem row22_81 (L : LH) (k : KV) : callE 300 GG F1 2 22 [.str [80], .int (.ofNat 21)] L k = k (.tup [.int (.ofNat 93376920161664372), .int (.ofNat 13623509049247020), .int (.ofNat 66129902063170331), .int (.ofNat 107000429210911392)]) L := by kernel_rfl
theorem row22_82 (L : LH) (k : KV) : callE 300 GG F1 2 22 [.str [80], .int (.ofNat 22)] L k = k (.tup [.int (.ofNat 640014932082403582), .int (.ofNat 93376920161664372), .int (.ofNat 453261091759074839), .int (.ofNat 733391852244067954)]) L := by kernel_rfl
theorem row22_83 (L : LH) (k : KV) : callE 300 GG F1 2 22 [.str [80], .int (.ofNat 23)] L k = k (.tup [.int (.ofNat 4386727604415160704), .int (.ofNat 640014932082403582), .int (.ofNat 3106697740250353539), .int (.ofNat 5026742536497564286)]) L := by kernel_rfl
theorem row22_84 (L : LH) (k : KV) : callE 300 GG F1 2 22 [.str [80], .int (.ofNat 24)] L k = k (.tup [.int (.ofNat 30067078298823721344), .int (.ofNat 4386727604415160704), .int (.ofNat 21293623089993399937), .int (.ofNat 34453805903238882048)]) L := by kernel_rfl
theorem row22_85 (L : LH) (k : KV) : callE 300 GG F1 2 22 [.str [80], .int (.ofNat 25)] L k = k (.tup [.int (.ofNat 206082820487350888706), .int (.ofNat 30067078298823721344), .int (.ofNat 145948663889703446017), .int (.ofNat 236149898786174610050)]) L := by kernel_rfl
theorem row22_86 (L : LH) (k : KV) : callE 300 GG F1 2 22 [.str [80], .int (.ofNat 26)] L k = k (.tup [.int (.ofNat 1412512665112632499596), .int (.ofNat 206082820487350888706), .int (.ofNat 1000347024137930722185), .int (.ofNat 1618595485599983388302)]) L := by kernel_rfl
theorem row22_87 (L : LH) (k : KV) : callE 300 GG F1 2 22 [.str [80], .int (.ofNat 27)] L k = k (.tup [.int (.ofNat 9681505835301076608468), .int (.ofNat 1412512665112632499596), .int (.ofNat 6856480505075811609275), .int (.ofNat 11094018500413709108064)]) L := by kernel_rfl
theorem row22_88 (L : LH) (k : KV) : callE 300 GG F1 2 22 [.str [80], .int (.ofNat 28)] L k = k (.tup [.int (.ofNat 66358028181994903759678), .int (.ofNat 9681505835301076608468), .int (.ofNat 46995016511392750542743), .int (.ofNat 76039534017295980368146)]) L := by kernel_rfl
theorem row22_89 (L : LH) (k : KV) : callE 300 GG F1 2 22 [.str [80], .int (.ofNat 29)] L k = k (.tup [.int (.ofNat 454824691438663249709280), .int (.ofNat 66358028181994903759678), .int (.ofNat 322108635074673442189923), .int (.ofNat 521182719620658153468958)]) L := by kernel_rfl
theorem row22_90 (L : LH) (k : KV) : callE 300 GG F1 2 22 [.str [70], .int (.ofNat 0)] L k = k (.tup [.int (.ofNat 0), .int (.ofNat 0), .int (.ofNat 0), .int (.ofNat 1)]) L := by kernel_rfl
theorem row22_91 (L : LH) (k : KV) : callE 300 GG F1 2 22 [.str [70], .int (.ofNat 1)] L k = k (.tup [.int (.ofNat 2), .int (.ofNat 0), .int (.ofNat 1), .int (.ofNat 3)]) L := by kernel_rfl
theorem row22_92 (L : LH) (k : KV) : callE 300 GG F1 2 22 [.str [70], .int (.ofNat 2)] L k = k (.tup [.int (.ofNat 14), .int (.ofNat 2), .int (.ofNat 10), .int (.ofNat 17)]) L := by kernel_rfl
theorem row22_93 (L : LH) (k : KV) : callE 300 GG F1 2 22 [.str [70], .int (.ofNat 3)] L k = k (.tup [.int (.ofNat 98), .int (.ofNat 14), .int (.ofNat 69), .int (.ofNat 113)]) L := by kernel_rfl
theorem row22_94 (L : LH) (k : KV) : callE 300 GG F1 2 22 [.str [70], .int (.ofNat 4)] L k = k (.tup [.int (.ofNat 672), .int (.ofNat 98), .int (.ofNat 476), .int (.ofNat 771)]) L := by kernel_rfl
theorem row22_95 (L : LH) (k : KV) : callE 300 GG F1 2 22 [.str [70], .int (.ofNat 5)] L k = k (.tup [.int (.ofNat 4608), .int (.ofNat 672), .int (.ofNat 3263), .int (.ofNat 5281)]) L := by kernel_rfl
theorem row22_96 (L : LH) (k : KV) : callE 300 GG F1 2 22 [.str [70], .int (.ofNat 6)] L k = k (.tup [.int (.ofNat 31584), .int (.ofNat 4608), .int (.ofNat 22368), .int (.ofNat 36193)]) L := by kernel_rfl
theorem row22_97 (L : LH) (k : KV) : callE 300 GG F1 2 22 [.str [70], .int (.ofNat 7)] L k = k (.tup [.int (.ofNat 216482), .int (.ofNat 31584), .int (.ofNat 153313), .int (.ofNat 248067)]) L := by kernel_rfl
theorem row22_98 (L : LH) (k : KV) : callE 300 GG F1 2 22 [.str [70], .int (.ofNat 8)] L k = k (.tup [.int (.ofNat 1483790), .int (.ofNat 216482), .int (.ofNat 1050826), .int (.ofNat 1700273)]) L := by kernel_rfl
theorem row22_99 (L : LH) (k : KV) : callE 300 GG F1 2 22 [.str [70], .int (.ofNat 9)] L k = k (.tup [.int (.ofNat 10170050), .int (.ofNat 1483790), .int (.ofNat 7202469), .int (.ofNat 11653841)]) L := by kernel_rfl
theorem row22_100 (L : LH) (k : KV) : callE 300 GG F1 2 22 [.str [70], .int (.ofNat 10)] L k = k (.tup [.int (.ofNat 69706560), .int (.ofNat 10170050), .int (.ofNat 49366460), .int (.ofNat 79876611)]) L := by kernel_rfl
theorem row22_101 (L : LH) (k : KV) : callE 300 GG F1 2 22 [.str [70], .int (.ofNat 11)] L k = k (.tup [.int (.ofNat 477775872), .int (.ofNat 69706560), .int (.ofNat 338362751), .int (.ofNat 547482433)]) L := by kernel_rfl
theorem row22_102 (L : LH) (k : KV) : callE 300 GG F1 2 22 [.str [70], .int (.ofNat 12)] L k = k (.tup [.int (.ofNat 3274724544), .int (.ofNat 477775872), .int (.ofNat 2319172800), .int (.ofNat 3752500417)]) L := by kernel_rfl
theorem row22_103 (L : LH) (k : KV) : callE 300 GG F1 2 22 [.str [70], .int (.ofNat 13)] L k = k (.tup [.int (.ofNat 22445295938), .int (.ofNat 3274724544), .int (.ofNat 15895846849), .int (.ofNat 25720020483)]) L := by kernel_rfl
theorem row22_104 (L : LH) (k : KV) : callE 300 GG F1 2 22 [.str [70], .int (.ofNat 14)] L k = k (.tup [.int (.ofNat 153842347022), .int (.ofNat 22445295938), .int (.ofNat 108951755146), .int (.ofNat 176287642961)]) L := by kernel_rfl
theorem row22_105 (L : LH) (k : KV) : callE 300 GG F1 2 22 [.str [70], .int (.ofNat 15)] L k = k (.tup [.int (.ofNat 1054451133218), .int (.ofNat 153842347022), .int (.ofNat 746766439173), .int (.ofNat 1208293480241)]) L := by kernel_rfl
theorem row22_106 (L : LH) (k : KV) : callE 300 GG F1 2 22 [.str [70], .int (.ofNat 16)] L k = k (.tup [.int (.ofNat 7227315585504), .int (.ofNat 1054451133218), .int (.ofNat 5118413319068), .int (.ofNat 8281766718723)]) L := by kernel_rfl
theorem row22_107 (L : LH) (k : KV) : callE 300 GG F1 2 22 [.str [70], .int (.ofNat 17)] L k = k (.tup [.int (.ofNat 49536757965312), .int (.ofNat 7227315585504), .int (.ofNat 35082126794303), .int (.ofNat 56764073550817)]) L := by kernel_rfl
theorem row22_108 (L : LH) (k : KV) : callE 300 GG F1 2 22 [.str [70], .int (.ofNat 18)] L k = k (.tup [.int (.ofNat 339529990171680), .int (.ofNat 49536757965312), .int (.ofNat 240456474241056), .int (.ofNat 389066748136993)]) L := by kernel_rfl
theorem row22_109 (L : LH) (k : KV) : callE 300 GG F1 2 22 [.str [70], .int (.ofNat 19)] L k = k (.tup [.int (.ofNat 2327173173236450), .int (.ofNat 339529990171680), .int (.ofNat 1648113192893089), .int (.ofNat 2666703163408131)]) L := by kernel_rfl
theorem row22_110 (L : LH) (k : KV) : callE 300 GG F1 2 22 [.str [70], .int (.ofNat 20)] L k = k (.tup [.int (.ofNat 15950682222483470), .int (.ofNat 2327173173236450), .int (.ofNat 11296335876010570), .int (.ofNat 18277855395719921)]) L := by kernel_rfl
theorem row22_111 (L : LH) (k : KV) : callE 300 GG F1 2 22 [.str [70], .int (.ofNat 21)] L k = k (.tup [.int (.ofNat 109327602384147842), .int (.ofNat 15950682222483470), .int (.ofNat 77426237939180901), .int (.ofNat 125278284606631313)]) L := by kernel_rfl
theorem row22_112 (L : LH) (k : KV) : callE 300 GG F1 2 22 [.str [70], .int (.ofNat 22)] L k = k (.tup [.int (.ofNat 749342534466551424), .int (.ofNat 109327602384147842), .int (.ofNat 530687329698255740), .int (.ofNat 858670136850699267)]) L := by kernel_rfl
theorem row22_113 (L : LH) (k : KV) : callE 300 GG F1 2 22 [.str [70], .int (.ofNat 23)] L k = k (.tup [.int (.ofNat 5136070138881712128), .int (.ofNat 749342534466551424), .int (.ofNat 3637385069948609279), .int (.ofNat 5885412673348263553)]) L := by kernel_rfl
theorem row22_114 (L : LH) (k : KV) : callE 300 GG F1 2 22 [.str [70], .int (.ofNat 24)] L k = k (.tup [.int (.ofNat 35203148437705433472), .int (.ofNat 5136070138881712128), .int (.ofNat 24931008159942009216), .int (.ofNat 40339218576587145601)]) L := by kernel_rfl
theorem row22_115 (L : LH) (k : KV) : callE 300 GG F1 2 22 [.str [70], .int (.ofNat 25)] L k = k (.tup [.int (.ofNat 241285968925056322178), .int (.ofNat 35203148437705433472), .int (.ofNat 170879672049645455233), .int (.ofNat 276489117362761755651)]) L := by kernel_rfl
theorem row22_116 (L : LH) (k : KV) : callE 300 GG F1 2 22 [.str [70], .int (.ofNat 26)] L k = k (.tup [.int (.ofNat 1653798634037688821774), .int (.ofNat 241285968925056322178), .int (.ofNat 1171226696187576177418), .int (.ofNat 1895084602962745143953)]) L := by kernel_rfl
theorem row22_117 (L : LH) (k : KV) : callE 300 GG F1 2 22 [.str [70], .int (.ofNat 27)] L k = k (.tup [.int (.ofNat 11335304469338765430242), .int (.ofNat 1653798634037688821774), .int (.ofNat 8027707201263387786693), .int (.ofNat 12989103103376454252017)]) L := by kernel_rfl
theorem row22_118 (L : LH) (k : KV) : callE 300 GG F1 2 22 [.str [70], .int (.ofNat 28)] L k = k (.tup [.int (.ofNat 77693332651333669189920), .int (.ofNat 11335304469338765430242), .int (.ofNat 55022723712656138329436), .int (.ofNat 89028637120672434620163)]) L := by kernel_rfl
theorem row22_119 (L : LH) (k : KV) : callE 300 GG F1 2 22 [.str [70], .int (.ofNat 29)] L k = k (.tup [.int (.ofNat 532518024089996918899200), .int (.ofNat 77693332651333669189920), .int (.ofNat 377131358787329580519359), .int (.ofNat 610211356741330588089121)]) L := by kernel_rfl
theorem rows22 : RowsOk 300 GG F1 2 22 t22 := ⟨row22_0, ⟨row22_1, ⟨row22_2, ⟨row22_3, ⟨row22_4, ⟨row22_5, ⟨row22_6, ⟨row22_7, ⟨row22_8, ⟨row22_9, ⟨row22_10, ⟨row22_11, ⟨row22_12, ⟨row22_13, ⟨row22_14, ⟨row22_15, ⟨row22_16, ⟨row22_17, ⟨row22_18, ⟨row22_19, ⟨row22_20, ⟨row22_21, ⟨row22_22, ⟨row22_23, ⟨row22_24, ⟨row22_25, ⟨row22_26, ⟨row22_27, ⟨row22_28, ⟨row22_29, ⟨row22_30, ⟨row22_31, ⟨row22_32, ⟨row22_33, ⟨row22_34, ⟨row22_35, ⟨row22_36, ⟨row22_37, ⟨row22_38, ⟨row22_39, ⟨row22_40, ⟨row22_41, ⟨row22_42, ⟨row22_43, ⟨row22_44, ⟨row22_45, ⟨row22_46, ⟨row22_47, ⟨row22_48, ⟨row22_49, ⟨row22_50, ⟨row22_51, ⟨row22_52, ⟨row22_53, ⟨row22_54, ⟨row22_55, ⟨row22_56, ⟨row22_57, ⟨row22_58, ⟨row22_59, ⟨row22_60, ⟨row22_61, ⟨row22_62, ⟨row22_63, ⟨row22_64, ⟨row22_65, ⟨row22_66, ⟨row22_67, ⟨row22_68, ⟨row22_69, ⟨row22_70, ⟨row22_71, ⟨row22_72, ⟨row22_73, ⟨row22_74, ⟨row22_75, ⟨row22_76, ⟨row22_77, ⟨row22_78, ⟨row22_79, ⟨row22_80, ⟨row22_81, ⟨row22_82, ⟨row22_83, ⟨row22_84, ⟨row22_85, ⟨row22_86, ⟨row22_87, ⟨row22_88, ⟨row22_89, ⟨row22_90, ⟨row22_91, ⟨row22_92, ⟨row22_93, ⟨row22_94, ⟨row22_95, ⟨row22_96, ⟨row22_97, ⟨row22_98, ⟨row22_99, ⟨row22_100, ⟨row22_101, ⟨row22_102, ⟨row22_103, ⟨row22_104, ⟨row22_105, ⟨row22_106, ⟨row22_107, ⟨row22_108, ⟨row22_109, ⟨row22_110, ⟨row22_111, ⟨row22_112, ⟨row22_113, ⟨row22_114, ⟨row22_115, ⟨row22_116, ⟨row22_117, ⟨row22_118, ⟨row22_119, True.intro⟩⟩⟩⟩⟩⟩⟩⟩⟩⟩⟩⟩⟩⟩⟩⟩⟩⟩⟩⟩⟩⟩⟩⟩⟩⟩⟩⟩⟩⟩⟩⟩⟩⟩⟩⟩⟩⟩⟩⟩⟩⟩⟩⟩⟩⟩⟩⟩⟩⟩⟩⟩⟩⟩⟩⟩⟩⟩⟩⟩⟩⟩⟩⟩⟩⟩⟩⟩⟩⟩⟩⟩⟩⟩⟩⟩⟩⟩⟩⟩⟩⟩⟩⟩⟩⟩⟩⟩⟩⟩⟩⟩⟩⟩⟩⟩⟩⟩⟩⟩⟩⟩⟩⟩⟩⟩⟩⟩⟩⟩⟩⟩⟩⟩⟩⟩⟩⟩⟩⟩
theorem facts2 (hd : Hd fa fn gls GG w K h mg) (z l : Addr) {b : Nat} (hb : b < 2 ^ 39) : ∀ (i : Nat) x n, TB.fn[i]? = some (x, n) → ∃ f fd ps, Fact (Dd K w z l b) (Wo P w K mg base) TB F2 i x n f fd ps
  | 0, _, _, e => by cases e; exact fact0 hd z l hb rfl
  | 1, _, _, e => by cases e; exact fact1 hd z l hb rfl
  | 2, _, _, e => by cases e; exact fact2 hd z l hb rfl
  | 3, _, _, e => by cases e; exact fact3 hd z l hb rfl
  | 4, _, _, e => by cases e; exact fact4 hd z l hb rfl
  | 5, _, _, e => by
    obtain ⟨f, fd, ps, fc⟩ := facts0 (P := P) (base := base) hd z l hb 5 _ _ e
    exact ⟨f, fd, ps, prim_ok (Wn := 300) (dm := 0) (bs (P := P) (base := base) hd z l b) (facts0 (P := P) (base := base) hd z l hb) e fc (tab_ok rows5) rfl⟩
  | 6, _, _, e => by
    obtain ⟨f, fd, ps, fc⟩ := facts0 (P := P) (base := base) hd z l hb 6 _ _ e
    exact ⟨f, fd, ps, prim_ok (Wn := 300) (dm := 0) (bs (P := P) (base := base) hd z l b) (facts0 (P := P) (base := base) hd z l hb) e fc (tab_ok rows6) rfl⟩
  | 7, _, _, e => by cases e; exact fact7 hd z l hb rfl
  | 8, _, _, e => by cases e; exact fact8 hd z l hb rfl
  | 9, _, _, e => by cases e; exact fact9 hd z l hb rfl
  | 10, _, _, e => by cases e; exact fact10 hd z l hb rfl
  | 11, _, _, e => by cases e; exact fact11 hd z l hb rfl
  | 12, _, _, e => by cases e; exact fact12 hd z l hb rfl
  | 13, _, _, e => by
    obtain ⟨f, fd, ps, fc⟩ := facts1 (P := P) (base := base) hd z l hb 13 _ _ e
    exact ⟨f, fd, ps, prim_ok (Wn := 300) (dm := 1) (bs (P := P) (base := base) hd z l b) (facts1 (P := P) (base := base) hd z l hb) e fc (tab_ok rows13) rfl⟩
  | 14, _, _, e => by cases e; exact fact14 hd z l hb rfl
  | 15, _, _, e => by cases e; exact fact15 hd z l hb rfl
  | 16, _, _, e => by cases e; exact fact16 hd z l hb rfl
  | 17, _, _, e => by cases e; exact fact17 hd z l hb rfl
  | 18, _, _, e => by cases e; exact fact18 hd z l hb rfl
  | 19, _, _, e => by cases e; exact fact19 hd z l hb rfl
  | 20, _, _, e => by cases e; exact fact20 hd z l hb rfl
  | 21, _, _, e => by cases e; exact fact21 hd z l hb rfl
  | 22, _, _, e => by
    obtain ⟨f, fd, ps, fc⟩ := facts1 (P := P) (base := base) hd z l hb 22 _ _ e
    exact ⟨f, fd, ps, prim_ok (Wn := 300) (dm := 1) (bs (P := P) (base := base) hd z l b) (facts1 (P := P) (base := base) hd z l hb) e fc (tab_ok rows22) rfl⟩
  | 23, _, _, e => by cases e; exact fact23 hd z l hb rfl
  | 24, _, _, e => by cases e; exact fact24 hd z l hb rfl
  | 25, _, _, e => by cases e; exact fact25 hd z l hb rfl
  | 26, _, _, e => by cases e; exact fact26 hd z l hb rfl
  | _ + 27, _, _, e => by simp [TB, fns] at e
def En0 : En := ⟨300, GG, callE 300 GG FF 40⟩
theorem wok (hd : Hd fa fn gls GG w K h mg) (z l : Addr) (b : Nat) (hb : b < 2 ^ 39) : WOk (Dd K w z l b) En0 40 (Wo P w K mg base) TB := by
  have B := bs (P := P) (base := base) hd z l b
  have F := facts2 (P := P) (base := base) hd z l hb
  exact ⟨B.K, B.ok, B.kg 40, B.free, B.glo, fun j y m hj => by
    obtain ⟨f', fd', ps', fc'⟩ := F j y m hj
    exact ⟨B.dbg j y m hj, f', fd', ps', fc'.len, fns_ok B F 40 j y m f' fd' ps' hj fc', fc'.mg, fc'.keep, fc'.binds, fc'.kb⟩⟩
theorem strm (hd : Hd fa fn gls GG w K h mg) : ∃ fd, FnOk P w K mg base CX0 40 (He.ga K "_law_stream") fd ["script"] (spStr K) ∧ mg "_law_stream" = some (.ref (He.ga K "_law_stream")) ∧ PySem.W.keepIn K (.ref (He.ga K "_law_stream")) = true ∧ Binds K fd ["script"] [] := by
  obtain ⟨fd, F⟩ := hd.c.d.def_ 27 (d := ddS) rfl
  exact ⟨fd, (stream_ok (W := Wo P w K mg base) F scS rfl (by decide +kernel) (by decide +kernel) ((bs (P := P) (base := base) hd 0 0 0).free "list" (by simp)) 0).mono (by decide), He.glo_ok hd.X hd.ns (hd.c.d.fact 27 rfl), F.kp, F.bindsN fun _ _ _ _ _ _ us hl => match us, hl with | [_], _ => rfl⟩
/-- the law's def, by a plan of its text -/
theorem lawOk (hd : Hd fa fn gls GG w K h mg) (p : Pl) (hp : okPl p TB nL (defScope stL) (fun _ => true) ((defBody stL).drop 1) = true) (hs : p.small = true) (hc : p.cnt < 2 ^ 19) (ob : p.Ob En0 (fun s => s = sl0 nL.length) fun _ => False) :
    ∃ fd, (∀ (s : Shared) (v : Value), BindsTo s fd ⟨[v], []⟩ [("script", v)]) ∧ ∀ base : Heap, FnOk P w K mg base CX0 41 (He.ga K "law") fd ["script"] (spLaw K) := by
  obtain ⟨fd, F⟩ := hd.c.d.def_ 28 (d := ddL) rfl
  have b := FunD.bindsA (ps := ["script"]) F fun _ _ _ _ _ _ us hl => match us, hl with | [_], _ => rfl
  refine ⟨fd, fun s v => b s [v] rfl, fun base => ?_⟩
  obtain ⟨fdS, G, hm, hk, hb⟩ := strm (P := P) (base := base) hd
  exact law_ok (Wo := Wo P w K mg base) (wok hd) F scL (rest := (defBody stL).drop 1) rfl rfl rfl (by decide +kernel) (by decide +kernel) (by decide +kernel) (by decide) G hm hk hb p hp hs hc ob
end
end K41

set_option Elab.async false
set_option linter.all false
set_option maxRecDepth 100000
set_option maxHeartbeats 0
namespace K41
open Ev PySem PySem.Spec PyProof.Rows L2
def fb (m : MS) : MSs := match m with
  | .for _ _ b => b
  | _ => .nil
def hd1 (m : MSs) : MSs := match m with
  | .nil => .nil
  | .cons a _ => .cons a .nil
def tl1 (m : MSs) : MSs := match m with
  | .nil => .nil
  | .cons _ r => r
def pre : MSs := .cons l0 (.cons l1 (.cons l2 (.cons l3 (.cons l4 (.cons l5 (.cons l6 (.cons l7 (.cons l8 .nil))))))))
def s0 : SL := sl0 nL.length
def sKN (k n : Nat) : SL := [none, some .opq, none, none, none, some (.str [k]), none, none, none, some (.int (.ofNat n)), none, none, none, none]
def knA (k a : Nat) : List SL := (List.range 10).map fun n => sKN k (a + n)
def kn : List SL := knA 72 0 ++ (knA 72 10 ++ (knA 72 20 ++ (knA 84 0 ++ (knA 84 10 ++ (knA 84 20 ++ (knA 80 0 ++ (knA 80 10 ++ (knA 80 20 ++ (knA 70 0 ++ (knA 70 10 ++ knA 70 20))))))))))
def bKN : List Bool := [false, true, false, false, false, true, false, false, false, true]
def b0s : List Bool := [false, true]
def bA : MSs := hd1 (fb l9)
def bR : MSs := tl1 (fb l9)
def post : MSs := .cons l10 .nil
theorem pre_ok : runP En0 pre b0s [s0] [s0] = true := by decide +kernel
theorem bA_ok : runP En0 bA bKN [s0] kn = true := by decide +kernel
theorem post_ok : runP En0 post b0s [s0] [] = true := by decide +kernel
theorem r0 : runP En0 bR b0s (knA 72 0) [s0] = true := by decide +kernel
theorem r1 : runP En0 bR b0s (knA 72 10) [s0] = true := by decide +kernel
theorem r2 : runP En0 bR b0s (knA 72 20) [s0] = true := by decide +kernel
theorem r3 : runP En0 bR b0s (knA 84 0) [s0] = true := by decide +kernel
theorem r4 : runP En0 bR b0s (knA 84 10) [s0] = true := by decide +kernel
theorem r5 : runP En0 bR b0s (knA 84 20) [s0] = true := by decide +kernel
theorem r6 : runP En0 bR b0s (knA 80 0) [s0] = true := by decide +kernel
theorem r7 : runP En0 bR b0s (knA 80 10) [s0] = true := by decide +kernel
theorem r8 : runP En0 bR b0s (knA 80 20) [s0] = true := by decide +kernel
theorem r9 : runP En0 bR b0s (knA 70 0) [s0] = true := by decide +kernel
theorem r10 : runP En0 bR b0s (knA 70 10) [s0] = true := by decide +kernel
theorem r11 : runP En0 bR b0s (knA 70 20) [s0] = true := by decide +kernel
theorem allS_app {f : SL → Bool} : ∀ {a b : List SL}, allS f a = true → allS f b = true → allS f (a ++ b) = true
  | [], _, _, h => h
  | x :: a, b, h1, h2 => by
    have h1 : (match f x with | true => allS f a | false => false) = true := h1
    show (match f x with | true => allS f (a ++ b) | false => false) = true
    cases e : f x with
    | false => rw [e] at h1; cases h1
    | true => rw [e] at h1; exact allS_app h1 h2
theorem bR_ok : runP En0 bR b0s kn [s0] = true := allS_app r0 (allS_app r1 (allS_app r2 (allS_app r3 (allS_app r4 (allS_app r5 (allS_app r6 (allS_app r7 (allS_app r8 (allS_app r9 (allS_app r10 r11))))))))))
def plan : Pl := .seg pre b0s (fun s => s ∈ [s0]) (.loop 6 8 (fun s => s ∈ [s0]) (.seg bA bKN (fun s => s ∈ kn) (.seg bR b0s (fun s => s ∈ [s0]) .nil)) (.seg post b0s (fun s => s ∈ ([] : List SL)) .nil))
theorem plan_text : okPl plan TB nL (defScope stL) (fun _ => true) ((defBody stL).drop 1) = true := by decide +kernel
theorem plan_ob : plan.Ob En0 (fun s => s = sl0 nL.length) fun _ => False := by
  obtain ⟨x1, y1, a1, b1, c1⟩ := runP_ok pre_ok
  refine ⟨⟨x1, y1, a1, b1, fun s hs => c1 s (by rw [hs]; exact List.mem_singleton.mpr rfl)⟩, fun s hs => hs, fun s hs => ?_, ⟨runP_ok bA_ok, runP_ok bR_ok, fun s hs => hs⟩, runP_ok post_ok, fun s hs => by cases hs⟩
  rw [List.mem_singleton.mp hs]
  rfl
end K41

set_option Elab.async false
set_option linter.all false
set_option maxRecDepth 100000
set_option maxHeartbeats 0
open PySem PySem.W PySem.Calls PyProof.Rows
theorem PySem.Challenge.cw_onehat_k41_whole_shares_holds : PySem.Challenge.rw_onehat_k41_whole_shares.Holds := by
  w_on; o_law
  refine HandSHeadRun.head_any (r := OpenLaw.row PySem.Challenge.rw_onehat_k41_whole_shares) (q := view K41.R.prog [K41.lawAt]) (H := K41.hk) (ob := K41.ob) (M := 6000) (loose := K41.loose) (d := HandSHeadRun.topDef (OpenLaw.row PySem.Challenge.rw_onehat_k41_whole_shares).prog K41.lawAt) (kwd := []) K41.ob_eq
    (by kernel_rfl) (fun s => by kernel_rfl) K41.run (by kernel_rfl) (by kernel_rfl) (by kernel_rfl) (by rfl) (by first | assumption | decide +kernel) (by decide +kernel) ⟨rfl, rfl, rfl, rfl, rfl, by decide +kernel⟩ ?hw ?hc
  case hw => w_witness2
  case hc =>
    refine L2.walk_ofE (l := PySem.Challenge.rw_onehat_k41_whole_shares) (n := 63) (k := 41) (x := "script") (CX := L2.CX0) rfl (by decide) (by kernel_rfl) ⟨rfl, by decide, by decide⟩ ?F (fun _ _ _ _ z => z)
    intro w mg fa h Y G hmg0
    obtain ⟨K, KX, c, ck⟩ := Y
    have hmg : mg ("law" : PySem.Str) = some (.ref fa) := by
      have e : (HandSHeadRun.topDef (OpenLaw.row PySem.Challenge.rw_onehat_k41_whole_shares).prog K41.lawAt).name = ("law" : PySem.Str) := by kernel_rfl
      rw [← e]
      exact hmg0
    have hd : Ev.Hd K41.fa K41.fn K41.gls K41.GG w K h mg := ⟨KX, G, c, ck⟩
    have ef := hmg.symm.trans (He.glo_ok KX G (c.d.fact 28 (f := .glo "law") rfl))
    cases ef
    obtain ⟨fd, hb, hF⟩ := K41.lawOk (P := (PySem.Challenge.rw_onehat_k41_whole_shares).prog) hd K41.plan K41.plan_text (by decide) (by decide) K41.plan_ob
    exact ⟨K, fd, Ev.spLaw K, KX, hb, fun H a ns hl _ hS => ⟨a, ns, rfl, hS, hl, fun _ => rfl⟩, fun base _ _ => hF base⟩
