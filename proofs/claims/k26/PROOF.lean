import PyProof.Rows.All
import Wide.All
import OpenK.AllK
import Wide.FinOn
import HandS.ForMost
import HandS.ForExc
import HandS.TryMany
import HandS.CallSlots
import HandS.Walk
import HandS.TupAny
import HandS.TupMul
import HandS.Flow
import HandS.IsInst
import HandS.Style
import KE.LtData
import HandS.Words
import HandS.WordsExc
import HandS.Zip
import HandS.ExcIs
import HandS.RaiseMore
import PySem.Challenge.RW_stretchesonce_k26_counts_by_hand_and_ref
set_option linter.all false
set_option Elab.async false
set_option maxRecDepth 100000
/-! The evaluator: values without addresses, by bare recursors (for the kernel). -/
namespace Ev
inductive MV where
  | non
  | bl (b : Bool)
  | int (i : Int)
  | str (s : List Nat)
  | tup (xs : List MV)
  | lst (xs : List MV)
  | dct (ks vs : List MV)
  | fn (i : Nat)
inductive SV where
  | u
  | v (m : MV)
  | r (k : Nat)
inductive MO where
  | lst (n : Nat) (rev : List MV)
  | dct (n : Nat) (rks rvs : List MV)
structure Sto where
  n : Nat
  l : List (Option MO)

section lists
variable {α β : Type}
noncomputable def getL (l : List α) : Nat → Option α :=
  @List.rec α (fun _ => Nat → Option α) (fun _ => none) (fun x _ ih i => @Nat.rec (fun _ => Option α) (some x) (fun j _ => ih j) i) l
noncomputable def setL (l : List α) : Nat → α → List α :=
  @List.rec α (fun _ => Nat → α → List α) (fun _ _ => []) (fun x xs ih i v => @Nat.rec (fun _ => List α) (v :: xs) (fun j _ => x :: ih j v) i) l
noncomputable def appL (l r : List α) : List α := @List.rec α (fun _ => List α) r (fun x _ ih => x :: ih) l
noncomputable def revOn (l : List α) : List α → List α := @List.rec α (fun _ => List α → List α) (fun r => r) (fun x _ ih r => ih (x :: r)) l
noncomputable def revL (l : List α) : List α := revOn l []
noncomputable def lenL (l : List α) : Nat := @List.rec α (fun _ => Nat) 0 (fun _ _ ih => Nat.succ ih) l
noncomputable def repL (n : Nat) (x : α) : List α := @Nat.rec (fun _ => List α) [] (fun _ ih => x :: ih) n
noncomputable def takeL (n : Nat) : List α → List α := @Nat.rec (fun _ => List α → List α) (fun _ => []) (fun _ ih l => @List.rec α (fun _ => List α) [] (fun x xs _ => x :: ih xs) l) n
noncomputable def dropL (n : Nat) : List α → List α := @Nat.rec (fun _ => List α → List α) (fun l => l) (fun _ ih l => @List.rec α (fun _ => List α) [] (fun _ xs _ => ih xs) l) n
noncomputable def mapL (f : α → β) (l : List α) : List β := @List.rec α (fun _ => List β) [] (fun x _ ih => f x :: ih) l
noncomputable def oR (o : Option α) (d : β) (k : α → β) : β := @Option.rec α (fun _ => β) d k o
noncomputable def bR (b : Bool) (t e : β) : β := @Bool.rec (fun _ => β) e t b
end lists

/-! ints -/
noncomputable def addI (a b : Int) : Int :=
  @Int.rec (fun _ => Int) (fun m => @Int.rec (fun _ => Int) (fun n => Int.ofNat (Nat.add m n)) (fun _ => Int.add a b) b) (fun _ => Int.add a b) a
noncomputable def subI (a b : Int) : Int := addI a (Int.neg b)
noncomputable def mulI (a b : Int) : Int :=
  @Int.rec (fun _ => Int) (fun m => @Int.rec (fun _ => Int) (fun n => Int.ofNat (Nat.mul m n)) (fun _ => Int.mul a b) b) (fun _ => Int.mul a b) a
noncomputable def ltB (a b : Int) : Bool :=
  @Int.rec (fun _ => Bool) (fun m => @Int.rec (fun _ => Bool) (fun n => Nat.blt m n) (fun _ => false) b) (fun m => @Int.rec (fun _ => Bool) (fun _ => true) (fun n => Nat.blt n m) b) a
noncomputable def leB (a b : Int) : Bool :=
  @Int.rec (fun _ => Bool) (fun m => @Int.rec (fun _ => Bool) (fun n => Nat.ble m n) (fun _ => false) b) (fun m => @Int.rec (fun _ => Bool) (fun _ => true) (fun n => Nat.ble n m) b) a
noncomputable def eqB (a b : Int) : Bool :=
  @Int.rec (fun _ => Bool) (fun m => @Int.rec (fun _ => Bool) (fun n => Nat.beq m n) (fun _ => false) b) (fun m => @Int.rec (fun _ => Bool) (fun _ => false) (fun n => Nat.beq n m) b) a
noncomputable def notB (b : Bool) : Bool := bR b false true

/-! cases of a value -/
section
variable {α : Type}
noncomputable def cNon (m : MV) (k d : α) : α := @MV.rec (fun _ => α) (fun _ => Unit) k (fun _ => d) (fun _ => d) (fun _ => d) (fun _ _ => d) (fun _ _ => d) (fun _ _ _ _ => d) (fun _ => d) () (fun _ _ _ _ => ()) m
noncomputable def cBl (m : MV) (d : α) (k : Bool → α) : α := @MV.rec (fun _ => α) (fun _ => Unit) d k (fun _ => d) (fun _ => d) (fun _ _ => d) (fun _ _ => d) (fun _ _ _ _ => d) (fun _ => d) () (fun _ _ _ _ => ()) m
noncomputable def cInt (m : MV) (d : α) (k : Int → α) : α := @MV.rec (fun _ => α) (fun _ => Unit) d (fun _ => d) k (fun _ => d) (fun _ _ => d) (fun _ _ => d) (fun _ _ _ _ => d) (fun _ => d) () (fun _ _ _ _ => ()) m
noncomputable def cStr (m : MV) (d : α) (k : List Nat → α) : α := @MV.rec (fun _ => α) (fun _ => Unit) d (fun _ => d) (fun _ => d) k (fun _ _ => d) (fun _ _ => d) (fun _ _ _ _ => d) (fun _ => d) () (fun _ _ _ _ => ()) m
noncomputable def cTup (m : MV) (d : α) (k : List MV → α) : α := @MV.rec (fun _ => α) (fun _ => Unit) d (fun _ => d) (fun _ => d) (fun _ => d) (fun xs _ => k xs) (fun _ _ => d) (fun _ _ _ _ => d) (fun _ => d) () (fun _ _ _ _ => ()) m
noncomputable def cLst (m : MV) (d : α) (k : List MV → α) : α := @MV.rec (fun _ => α) (fun _ => Unit) d (fun _ => d) (fun _ => d) (fun _ => d) (fun _ _ => d) (fun xs _ => k xs) (fun _ _ _ _ => d) (fun _ => d) () (fun _ _ _ _ => ()) m
noncomputable def cSeq (m : MV) (d : α) (k : List MV → α) : α := @MV.rec (fun _ => α) (fun _ => Unit) d (fun _ => d) (fun _ => d) (fun _ => d) (fun xs _ => k xs) (fun xs _ => k xs) (fun _ _ _ _ => d) (fun _ => d) () (fun _ _ _ _ => ()) m
noncomputable def cDct (m : MV) (d : α) (k : List MV → List MV → α) : α := @MV.rec (fun _ => α) (fun _ => Unit) d (fun _ => d) (fun _ => d) (fun _ => d) (fun _ _ => d) (fun _ _ => d) (fun ks vs _ _ => k ks vs) (fun _ => d) () (fun _ _ _ _ => ()) m
noncomputable def cFn (m : MV) (d : α) (k : Nat → α) : α := @MV.rec (fun _ => α) (fun _ => Unit) d (fun _ => d) (fun _ => d) (fun _ => d) (fun _ _ => d) (fun _ _ => d) (fun _ _ _ _ => d) k () (fun _ _ _ _ => ()) m
end

/-- a size that all lists keep -/
noncomputable def fits (n : Nat) : Bool := Nat.ble n 1000000

/-! == : none where it is not told -/
noncomputable def eqNats (a : List Nat) : List Nat → Bool :=
  @List.rec Nat (fun _ => List Nat → Bool) (fun b => @List.rec Nat (fun _ => Bool) true (fun _ _ _ => false) b) (fun x _ ih b => @List.rec Nat (fun _ => Bool) false (fun y ys _ => bR (Nat.beq x y) (ih ys) false) b) a
noncomputable def b2n (b : Bool) : Int := bR b 1 0
/-- none at a dict or a def -/
noncomputable def cPl (b : MV) (k : Option Bool) : Option Bool := @MV.rec (fun _ => Option Bool) (fun _ => Unit) k (fun _ => k) (fun _ => k) (fun _ => k) (fun _ _ => k) (fun _ _ => k) (fun _ _ _ _ => none) (fun _ => none) () (fun _ _ _ _ => ()) b
noncomputable def eqF (a : MV) : Nat → MV → Option Bool :=
  @MV.rec (fun _ => Nat → MV → Option Bool) (fun _ => Nat → List MV → Option Bool)
    (fun _ b => cPl b (some (cNon b true false)))
    (fun x _ b => cPl b (some (cBl b (cInt b false fun j => eqB (b2n x) j) fun y => bR x y (notB y))))
    (fun i _ b => cPl b (some (cBl b (cInt b false fun j => eqB i j) fun y => eqB i (b2n y))))
    (fun s _ b => cPl b (some (cStr b false fun t => eqNats s t)))
    (fun _ ih n b => cPl b (cTup b (some false) fun ys => @Nat.rec (fun _ => Option Bool) none (fun n' _ => ih n' ys) n))
    (fun _ ih n b => cPl b (cLst b (some false) fun ys => @Nat.rec (fun _ => Option Bool) none (fun n' _ => ih n' ys) n))
    (fun ks _ _ _ _ b => cDct b none fun ks' _ => @List.rec MV (fun _ => Option Bool) (some (@List.rec MV (fun _ => Bool) true (fun _ _ _ => false) ks')) (fun _ _ _ => @List.rec MV (fun _ => Option Bool) (some false) (fun _ _ _ => none) ks') ks)
    (fun _ _ _ => none)
    (fun _ b => @List.rec MV (fun _ => Option Bool) (some true) (fun _ _ _ => some false) b)
    (fun _ _ ihx ihxs n b => @List.rec MV (fun _ => Option Bool) (some false) (fun y ys _ => oR (ihx n y) none fun r => oR (ihxs n ys) none fun r' => some (bR r r' false)) b)
    a
noncomputable def eqsF (a : List MV) : Nat → List MV → Option Bool :=
  @MV.rec_1 (fun _ => Nat → MV → Option Bool) (fun _ => Nat → List MV → Option Bool)
    (fun _ b => cPl b (some (cNon b true false)))
    (fun x _ b => cPl b (some (cBl b (cInt b false fun j => eqB (b2n x) j) fun y => bR x y (notB y))))
    (fun i _ b => cPl b (some (cBl b (cInt b false fun j => eqB i j) fun y => eqB i (b2n y))))
    (fun s _ b => cPl b (some (cStr b false fun t => eqNats s t)))
    (fun _ ih n b => cPl b (cTup b (some false) fun ys => @Nat.rec (fun _ => Option Bool) none (fun n' _ => ih n' ys) n))
    (fun _ ih n b => cPl b (cLst b (some false) fun ys => @Nat.rec (fun _ => Option Bool) none (fun n' _ => ih n' ys) n))
    (fun ks _ _ _ _ b => cDct b none fun ks' _ => @List.rec MV (fun _ => Option Bool) (some (@List.rec MV (fun _ => Bool) true (fun _ _ _ => false) ks')) (fun _ _ _ => @List.rec MV (fun _ => Option Bool) (some false) (fun _ _ _ => none) ks') ks)
    (fun _ _ _ => none)
    (fun _ b => @List.rec MV (fun _ => Option Bool) (some true) (fun _ _ _ => some false) b)
    (fun _ _ ihx ihxs n b => @List.rec MV (fun _ => Option Bool) (some false) (fun y ys _ => oR (ihx n y) none fun r => oR (ihxs n ys) none fun r' => some (bR r r' false)) b)
    a
noncomputable def eqM (a b : MV) : Option Bool := eqF a 60 b

noncomputable def truM (m : MV) : Option Bool :=
  @MV.rec (fun _ => Option Bool) (fun _ => Unit) (some false) (fun b => some b) (fun i => some (notB (eqB i 0)))
    (fun s => some (@List.rec Nat (fun _ => Bool) false (fun _ _ _ => true) s)) (fun xs _ => some (@List.rec MV (fun _ => Bool) false (fun _ _ _ => true) xs)) (fun xs _ => some (@List.rec MV (fun _ => Bool) false (fun _ _ _ => true) xs))
    (fun ks _ _ _ => some (@List.rec MV (fun _ => Bool) false (fun _ _ _ => true) ks)) (fun _ => none) () (fun _ _ _ _ => ()) m

noncomputable def ltNats (a : List Nat) : List Nat → Bool :=
  @List.rec Nat (fun _ => List Nat → Bool) (fun b => @List.rec Nat (fun _ => Bool) false (fun _ _ _ => true) b) (fun x _ ih b => @List.rec Nat (fun _ => Bool) false (fun y ys _ => bR (Nat.beq x y) (ih ys) (Nat.blt x y)) b) a
/-- a < b: ints; tuples item by item (all items are looked at) -/
noncomputable def ltF (a : MV) : Nat → MV → Option Bool :=
  @MV.rec (fun _ => Nat → MV → Option Bool) (fun _ => Nat → List MV → Option Bool)
    (fun _ _ => none) (fun _ _ _ => none)
    (fun i _ b => cInt b none fun j => some (ltB i j))
    (fun s _ b => cStr b none fun t => some (ltNats s t))
    (fun _ ih n b => cTup b none fun ys => @Nat.rec (fun _ => Option Bool) none (fun n' _ => ih n' ys) n)
    (fun _ _ _ _ => none) (fun _ _ _ _ _ _ => none) (fun _ _ _ => none)
    (fun _ b => @List.rec MV (fun _ => Option Bool) (some false) (fun _ _ _ => some true) b)
    (fun x _ ihx ihxs n b => @List.rec MV (fun _ => Option Bool) (some false) (fun y ys _ => oR (eqF x n y) none fun r => oR (bR r (some false) (ihx n y)) none fun q => oR (ihxs n ys) none fun r' => some (bR r r' q)) b)
    a
noncomputable def ltsF (a : List MV) : Nat → List MV → Option Bool :=
  @MV.rec_1 (fun _ => Nat → MV → Option Bool) (fun _ => Nat → List MV → Option Bool)
    (fun _ _ => none) (fun _ _ _ => none)
    (fun i _ b => cInt b none fun j => some (ltB i j))
    (fun s _ b => cStr b none fun t => some (ltNats s t))
    (fun _ ih n b => cTup b none fun ys => @Nat.rec (fun _ => Option Bool) none (fun n' _ => ih n' ys) n)
    (fun _ _ _ _ => none) (fun _ _ _ _ _ _ => none) (fun _ _ _ => none)
    (fun _ b => @List.rec MV (fun _ => Option Bool) (some false) (fun _ _ _ => some true) b)
    (fun x _ ihx ihxs n b => @List.rec MV (fun _ => Option Bool) (some false) (fun y ys _ => oR (eqF x n y) none fun r => oR (bR r (some false) (ihx n y)) none fun q => oR (ihxs n ys) none fun r' => some (bR r r' q)) b)
    a
noncomputable def ltM (a b : MV) : Option Bool := ltF a 60 b
noncomputable def leM (a b : MV) : Option Bool := cInt a none fun i => cInt b none fun j => some (leB i j)
noncomputable def gtM (a b : MV) : Option Bool := cInt a none fun i => cInt b none fun j => some (ltB j i)
/-- x in a list: the first item that is equal -/
noncomputable def inL (x : MV) (l : List MV) : Option Bool := @List.rec MV (fun _ => Option Bool) (some false) (fun y _ ih => oR (eqM y x) none fun r => oR ih none fun q => some (bR r true q)) l
/-- the value of a key -/
noncomputable def lookD (ks : List MV) : List MV → MV → Option (Option MV) :=
  @List.rec MV (fun _ => List MV → MV → Option (Option MV)) (fun _ _ => some none)
    (fun k _ ih vs x => @List.rec MV (fun _ => Option (Option MV)) none (fun v vs' _ => oR (eqM k x) none fun r => bR r (some (some v)) (ih vs' x)) vs) ks
/-- the place of a text in another one at its head -/
noncomputable def preN (a : List Nat) : List Nat → Bool :=
  @List.rec Nat (fun _ => List Nat → Bool) (fun _ => true) (fun x _ ih b => @List.rec Nat (fun _ => Bool) false (fun y ys _ => bR (Nat.beq x y) (ih ys) false) b) a

inductive Bop where | add | sub | mul | fdiv | mod | pow
inductive Cop where | eq | ne | lt | le | gt | ge | isin | notin
inductive Ty where | int | bool | str | list | tuple | dict

noncomputable def mkT (l : List MV) : Option MV := bR (fits (lenL l)) (some (.tup l)) none
noncomputable def mkL (l : List MV) : Option MV := bR (fits (lenL l)) (some (.lst l)) none
noncomputable def small (i : Int) : Bool := bR (ltB (-18446744073709551616) i) (ltB i 18446744073709551616) false
noncomputable def addM (a b : MV) : Option MV :=
  @MV.rec (fun _ => Option MV) (fun _ => Unit) none (fun _ => none) (fun i => cInt b none fun j => some (.int (addI i j)))
    (fun s => cStr b none fun t => bR (fits (lenL (appL s t))) (some (.str (appL s t))) none) (fun xs _ => cTup b none fun ys => mkT (appL xs ys)) (fun xs _ => cLst b none fun ys => mkL (appL xs ys)) (fun _ _ _ _ => none) (fun _ => none) () (fun _ _ _ _ => ()) a
noncomputable def subM (a b : MV) : Option MV := cInt a none fun i => cInt b none fun j => some (.int (subI i j))
noncomputable def repM (k : Int) (l : List MV) : List MV := @Nat.rec (fun _ => List MV) [] (fun _ ih => appL l ih) k.toNat
noncomputable def mulM (a b : MV) : Option MV :=
  cInt a (cLst a (cTup a none fun l => cInt b none fun k => bR (leB 1 k) (bR (leB k 1000) (bR (Nat.ble (lenL l) 1000) (@List.rec MV (fun _ => Option MV) none (fun _ _ _ => some (.tup (repM k l))) l) none) none) none)
      fun l => cInt b none fun k => bR (leB (-1000) k) (bR (leB k 1000) (bR (fits (Nat.mul (lenL l) k.toNat)) (some (.lst (repM k l))) none) none) none)
    fun i => cInt b none fun j => bR (small i) (some (.int (mulI i j))) (bR (small j) (some (.int (mulI i j))) none)
noncomputable def fdivM (a b : MV) : Option MV := cInt a none fun i => cInt b none fun j => bR (ltB 0 j) (bR (ltB j 1073741824) (some (.int (Int.ediv i j))) none) none
noncomputable def modM (a b : MV) : Option MV := cInt a none fun i => cInt b none fun j => bR (ltB 0 j) (some (.int (Int.emod i j))) none
noncomputable def powM (a b : MV) : Option MV := cInt a none fun i => cInt b none fun j => bR (leB 0 j) (bR (leB j 1000) (bR (small i) (some (.int (Int.pow i j.toNat))) none) none) none
noncomputable def binM (o : Bop) (a b : MV) : Option MV := @Bop.rec (fun _ => Option MV) (addM a b) (subM a b) (mulM a b) (fdivM a b) (modM a b) (powM a b) o
noncomputable def inM (x c : MV) : Option Bool :=
  @MV.rec (fun _ => Option Bool) (fun _ => Unit) none (fun _ => none) (fun _ => none) (fun _ => none) (fun l _ => inL x l) (fun l _ => inL x l)
    (fun ks vs _ _ => oR (lookD ks vs x) none fun o => some (oR o false fun _ => true)) (fun _ => none) () (fun _ _ _ _ => ()) c
noncomputable def notO (o : Option Bool) : Option Bool := oR o none fun b => some (notB b)
noncomputable def cmpB (o : Cop) (a b : MV) : Option Bool := @Cop.rec (fun _ => Option Bool) (eqM a b) (notO (eqM a b)) (ltM a b) (leM a b) (gtM a b) (leM b a) (inM a b) (notO (inM a b)) o
noncomputable def cmpM (o : Cop) (a b : MV) : Option MV := oR (cmpB o a b) none fun r => some (.bl r)

noncomputable def isTy (t : Ty) (m : MV) : Bool :=
  @Ty.rec (fun _ => Bool) (cInt m (cBl m false fun _ => true) fun _ => true) (cBl m false fun _ => true) (cStr m false fun _ => true) (cLst m false fun _ => true) (cTup m false fun _ => true) (cDct m false fun _ _ => true) t
noncomputable def isiM (ts : List Ty) (m : MV) : Bool := @List.rec Ty (fun _ => Bool) false (fun t _ ih => bR (isTy t m) true ih) ts

/-- a place, from behind below 0 -/
noncomputable def ixN (n : Nat) (i : Int) : Option Nat :=
  @Int.rec (fun _ => Option Nat) (fun k => bR (Nat.blt k n) (some k) none) (fun k => bR (Nat.blt k n) (some (Nat.sub n (Nat.succ k))) none) i
noncomputable def idxM (a b : MV) : Option MV :=
  cSeq a (cStr a (cDct a none fun ks vs => oR (lookD ks vs b) none fun o => o) fun s => cInt b none fun i => oR (ixN (lenL s) i) none fun k => oR (getL s k) none fun c => some (.str [c]))
    fun l => cInt b none fun i => oR (ixN (lenL l) i) none fun k => getL l k
/-- the place that a slice's part tells -/
noncomputable def cutN (n d : Nat) (o : Option Int) : Nat :=
  oR o d fun i => @Int.rec (fun _ => Nat) (fun k => bR (Nat.ble k n) k n) (fun k => Nat.sub n (Nat.succ k)) i
noncomputable def cutL {α : Type} (l : List α) (lo hi : Option Int) : List α := takeL (Nat.sub (cutN (lenL l) (lenL l) hi) (cutN (lenL l) 0 lo)) (dropL (cutN (lenL l) 0 lo) l)

/-! results -/
inductive RE where
  | bad
  | val (v : SV) (S : Sto)
  | exc (c : Nat) (as : List MV) (S : Sto)
inductive RA where
  | bad
  | vals (vs : List SV) (S : Sto)
  | exc (c : Nat) (as : List MV) (S : Sto)
inductive RI where
  | bad
  | its (ms : List MV) (S : Sto)
  | exc (c : Nat) (as : List MV) (S : Sto)
inductive RS where
  | bad
  | nxt (σ : List SV) (S : Sto)
  | ret (v : SV) (S : Sto)
  | brk (σ : List SV) (S : Sto)
  | cnt (σ : List SV) (S : Sto)
  | exc (c : Nat) (as : List MV) (σ : List SV) (S : Sto)

noncomputable def bE (r : RE) (k : SV → Sto → RE) : RE := @RE.rec (fun _ => RE) .bad k RE.exc r
noncomputable def bEA (r : RE) (k : SV → Sto → RA) : RA := @RE.rec (fun _ => RA) .bad k RA.exc r
noncomputable def bEI (r : RE) (k : SV → Sto → RI) : RI := @RE.rec (fun _ => RI) .bad k RI.exc r
noncomputable def bES (σ : List SV) (r : RE) (k : SV → Sto → RS) : RS := @RE.rec (fun _ => RS) .bad k (fun c as S => RS.exc c as σ S) r
noncomputable def bA (r : RA) (k : List SV → Sto → RE) : RE := @RA.rec (fun _ => RE) .bad k RE.exc r
noncomputable def bAA (r : RA) (k : List SV → Sto → RA) : RA := @RA.rec (fun _ => RA) .bad k RA.exc r
noncomputable def bAI (r : RA) (k : List SV → Sto → RI) : RI := @RA.rec (fun _ => RI) .bad k RI.exc r
noncomputable def bAS (σ : List SV) (r : RA) (k : List SV → Sto → RS) : RS := @RA.rec (fun _ => RS) .bad k (fun c as S => RS.exc c as σ S) r
noncomputable def bI (r : RI) (k : List MV → Sto → RE) : RE := @RI.rec (fun _ => RE) .bad k RE.exc r
noncomputable def bIS (σ : List SV) (r : RI) (k : List MV → Sto → RS) : RS := @RI.rec (fun _ => RS) .bad k (fun c as S => RS.exc c as σ S) r

/-! the store -/
noncomputable def Sto.get (S : Sto) (k : Nat) : Option MO :=
  @Sto.rec (fun _ => Option MO) (fun n l => bR (Nat.blt k n) (oR (getL l (Nat.sub n (Nat.succ k))) none fun o => o) none) S
noncomputable def Sto.put (S : Sto) (k : Nat) (o : Option MO) : Sto := @Sto.rec (fun _ => Sto) (fun n l => bR (Nat.blt k n) ⟨n, setL l (Nat.sub n (Nat.succ k)) o⟩ ⟨n, l⟩) S
noncomputable def Sto.push (S : Sto) (o : MO) : Sto := @Sto.rec (fun _ => Sto) (fun n l => ⟨Nat.succ n, some o :: l⟩) S
noncomputable def emp : Sto := ⟨0, []⟩
noncomputable def peekO (o : MO) : MV := @MO.rec (fun _ => MV) (fun _ l => .lst (revL l)) (fun _ ks vs => .dct (revL ks) (revL vs)) o
noncomputable def peek (S : Sto) (s : SV) : Option MV := @SV.rec (fun _ => Option MV) none some (fun k => oR (S.get k) none fun o => some (peekO o)) s
noncomputable def pk (S : Sto) (s : SV) (k : MV → RE) : RE := oR (peek S s) .bad k
noncomputable def asV (s : SV) : Option MV := @SV.rec (fun _ => Option MV) none some (fun _ => none) s
noncomputable def oE (o : Option MV) (S : Sto) : RE := oR o .bad fun m => .val (.v m) S
noncomputable def asVs (l : List SV) : Option (List MV) := @List.rec SV (fun _ => Option (List MV)) (some []) (fun s _ ih => oR (asV s) none fun m => oR ih none fun ms => some (m :: ms)) l
noncomputable def pks (S : Sto) (l : List SV) : Option (List MV) := @List.rec SV (fun _ => Option (List MV)) (some []) (fun s _ ih => oR (peek S s) none fun m => oR ih none fun ms => some (m :: ms)) l
/-- a new list: one that may be changed, or a value -/
noncomputable def newL (own : Bool) (rev : List MV) (S : Sto) : RE :=
  bR (fits (lenL rev)) (bR own (.val (.r S.n) (S.push (.lst (lenL rev) rev))) (.val (.v (.lst (revL rev))) S)) .bad
end Ev

/-! The evaluator: expressions, statements, defs. -/
namespace Ev
inductive Tg where
  | name (i : Nat)
  | tup (ts : List Tg)
inductive Prim where
  | len | tuple | list (own : Bool) | all | any | sum | max1 | max2 | min1 | min2 | abs | int | sorted | sortedSet | lenSet | dict (own : Bool) | index | get1 | get2 | range1 (tup : Bool) | range2 (tup : Bool) | zip (tup : Bool)
mutual
inductive E where
  | var (i : Nat)
  | frz (i : Nat)
  | lit (m : MV)
  | glob (g : Nat)
  | bin (o : Bop) (a b : E)
  | neg (a : E)
  | not (a : E)
  | and (a b : E)
  | or (a b : E)
  | cmp (o : Cop) (a b : E)
  | isN (no : Bool) (a : E)
  | chain (o p : Cop) (a b c : E)
  | ite (c a b : E)
  | call (f : Nat) (as : Es)
  | callK (f : Nat) (as ks : Es) (perm : List Nat)
  | pr (p : Prim) (as : Es)
  | tup (as : Es)
  | lst (own : Bool) (as : Es)
  | comp (own : Bool) (vs : List Nat) (t : Tg) (it : It) (c : Oe) (e : E)
  | idx (a b : E)
  | slc (a : E) (lo hi : Oe)
  | rev (a : E)
  | isi (ts : List Ty) (a : E)
inductive Es where
  | nil
  | cons (e : E) (r : Es)
inductive Oe where
  | no
  | yes (e : E)
inductive It where
  | seq (e : E)
  | rng (as : Es)
  | enum (e : E)
  | zip (a b : E)
end

/-- calls of defs, as they are at a lower depth -/
abbrev Calls := Nat → List SV → Sto → RE
abbrev FE := List SV → Sto → RE
abbrev FA := List SV → Sto → RA
abbrev FO := List SV → Sto → RE
abbrev FI := List SV → Sto → RI
structure Cfg where
  call : Calls
  globs : List MV

/-! targets, by values -/
noncomputable def bindT (t : Tg) : MV → List SV → Option (List SV) :=
  @Tg.rec (fun _ => MV → List SV → Option (List SV)) (fun _ => List MV → List SV → Option (List SV))
    (fun i m σ => some (setL σ i (.v m)))
    (fun _ ih m σ => cTup m none fun ms => ih ms σ)
    (fun ms σ => @List.rec MV (fun _ => Option (List SV)) (some σ) (fun _ _ _ => none) ms)
    (fun _ _ iht ihts ms σ => @List.rec MV (fun _ => Option (List SV)) none (fun m ms' _ => oR (iht m σ) none fun σ' => ihts ms' σ') ms)
    t
noncomputable def bindTs (ts : List Tg) : List MV → List SV → Option (List SV) :=
  @Tg.rec_1 (fun _ => MV → List SV → Option (List SV)) (fun _ => List MV → List SV → Option (List SV))
    (fun i m σ => some (setL σ i (.v m)))
    (fun _ ih m σ => cTup m none fun ms => ih ms σ)
    (fun ms σ => @List.rec MV (fun _ => Option (List SV)) (some σ) (fun _ _ _ => none) ms)
    (fun _ _ iht ihts ms σ => @List.rec MV (fun _ => Option (List SV)) none (fun m ms' _ => oR (iht m σ) none fun σ' => ihts ms' σ') ms)
    ts

/-! calls -/
noncomputable def xfer (S : Sto) (r : RE) : RE :=
  @RE.rec (fun _ => RE) .bad
    (fun v S' => @SV.rec (fun _ => RE) .bad (fun m => .val (.v m) S) (fun k => oR (S'.get k) .bad fun o => .val (.r S.n) (S.push o)) v)
    (fun c as _ => .exc c as S) r
noncomputable def doCall (C : Cfg) (f : Nat) (vs : List SV) (S : Sto) : RE :=
  oR (asVs vs) (C.call f vs S) fun _ => xfer S (C.call f vs emp)
noncomputable def permL (vs : List SV) (perm : List Nat) : List SV := mapL (fun i => oR (getL vs i) .u fun s => s) perm

/-! builtins, by values -/
noncomputable def one (l : List MV) (k : MV → Option MV) : Option MV := @List.rec MV (fun _ => Option MV) none (fun x r _ => @List.rec MV (fun _ => Option MV) (k x) (fun _ _ _ => none) r) l
noncomputable def two (l : List MV) (k : MV → MV → Option MV) : Option MV := @List.rec MV (fun _ => Option MV) none (fun x r _ => one r (k x)) l
noncomputable def three (l : List MV) (k : MV → MV → MV → Option MV) : Option MV := @List.rec MV (fun _ => Option MV) none (fun x r _ => two r (k x)) l
noncomputable def lenM (m : MV) : Option MV := cSeq m (cStr m (cDct m none fun ks _ => some (.int (Int.ofNat (lenL ks)))) fun s => some (.int (Int.ofNat (lenL s)))) fun l => some (.int (Int.ofNat (lenL l)))
noncomputable def allBl (l : List MV) : Option Bool := @List.rec MV (fun _ => Option Bool) (some true) (fun x _ ih => cBl x none fun b => oR ih none fun r => some (bR b r false)) l
noncomputable def anyBl (l : List MV) : Option Bool := @List.rec MV (fun _ => Option Bool) (some false) (fun x _ ih => cBl x none fun b => oR ih none fun r => some (bR b true r)) l
noncomputable def sumI (l : List MV) : Option Int := @List.rec MV (fun _ => Option Int) (some 0) (fun x _ ih => cInt x none fun i => oR ih none fun r => some (addI i r)) l
noncomputable def maxI (l : List MV) : Int → Option Int := @List.rec MV (fun _ => Int → Option Int) (fun m => some m) (fun x _ ih m => cInt x none fun i => ih (bR (ltB m i) i m)) l
noncomputable def minI (l : List MV) : Int → Option Int := @List.rec MV (fun _ => Int → Option Int) (fun m => some m) (fun x _ ih m => cInt x none fun i => ih (bR (ltB i m) i m)) l
noncomputable def ofI (o : Option Int) : Option MV := oR o none fun i => some (.int i)
noncomputable def ofB (o : Option Bool) : Option MV := oR o none fun b => some (.bl b)
noncomputable def exM (l : List MV) (f : List MV → Int → Option Int) : Option MV := @List.rec MV (fun _ => Option MV) none (fun x r _ => cInt x none fun i => ofI (f r i)) l
/-- n ints from lo on -/
noncomputable def upI (n : Nat) : Int → Int → List MV := @Nat.rec (fun _ => Int → Int → List MV) (fun _ _ => []) (fun _ ih lo c => .int lo :: ih (addI lo c) c) n
noncomputable def lowHigh (lo hi : Int) : Nat := @Int.rec (fun _ => Nat) (fun k => k) (fun _ => 0) (subI hi lo)
noncomputable def near62 (i : Int) : Bool := bR (ltB (-1000000) i) (ltB i 1000000) false
noncomputable def rng2M (lo hi : Int) : Option (List MV) := bR (near62 lo) (bR (near62 hi) (some (upI (lowHigh lo hi) lo 1)) none) none
/-- insertion into a list in order -/
noncomputable def insM (x : MV) (l : List MV) : Option (List MV) :=
  @List.rec MV (fun _ => Option (List MV)) (some [x]) (fun y ys ih => oR (ltM y x) none fun r => bR r (oR ih none fun zs => some (y :: zs)) (some (x :: y :: ys))) l
noncomputable def sortM (l : List MV) : Option (List MV) := @List.rec MV (fun _ => Option (List MV)) (some []) (fun x _ ih => oR ih none fun zs => insM x zs) l
/-- each once, the first of equal ones -/
noncomputable def nubM (l : List MV) : List MV → Option (List MV) :=
  @List.rec MV (fun _ => List MV → Option (List MV)) (fun acc => some (revL acc)) (fun x _ ih acc => oR (inL x acc) none fun r => bR r (ih acc) (ih (x :: acc))) l
noncomputable def iterM (m : MV) : Option (List MV) := cSeq m (cDct m none fun ks _ => some ks) some
noncomputable def pairsM (l : List MV) : Option (List MV × List MV) := @List.rec MV (fun _ => Option (List MV × List MV)) (some ([], [])) (fun x _ ih => cSeq x none fun p => oR (getL p 0) none fun a => oR (getL p 1) none fun b => oR ih none fun q => some (a :: q.1, b :: q.2)) l
noncomputable def zipM (a : List MV) : List MV → List MV := @List.rec MV (fun _ => List MV → List MV) (fun _ => []) (fun x _ ih b => @List.rec MV (fun _ => List MV) [] (fun y ys _ => .tup [x, y] :: ih ys) b) a
noncomputable def enumM (l : List MV) : Nat → List MV := @List.rec MV (fun _ => Nat → List MV) (fun _ => []) (fun x _ ih k => .tup [.int (Int.ofNat k), x] :: ih (Nat.succ k)) l
noncomputable def findM (x : MV) (l : List MV) : Nat → Option Nat := @List.rec MV (fun _ => Nat → Option Nat) (fun _ => none) (fun y _ ih k => oR (eqM y x) none fun r => bR r (some k) (ih (Nat.succ k))) l

noncomputable def primM (p : Prim) (l : List MV) (S : Sto) : RE :=
  @Prim.rec (fun _ => RE)
    (oE (one l lenM) S)
    (oE (one l fun x => oR (iterM x) none fun ms => some (.tup ms)) S)
    (fun own => oR (@List.rec MV (fun _ => Option (List MV)) none (fun x r _ => @List.rec MV (fun _ => Option (List MV)) (iterM x) (fun _ _ _ => none) r) l) .bad fun ms => newL own (revL ms) S)
    (oE (one l fun x => cLst x none fun ms => ofB (allBl ms)) S)
    (oE (one l fun x => cLst x none fun ms => ofB (anyBl ms)) S)
    (oE (one l fun x => cLst x none fun ms => ofI (sumI ms)) S)
    (oE (one l fun x => cLst x none fun ms => exM ms maxI) S)
    (oE (two l fun x y => exM [x, y] maxI) S)
    (oE (one l fun x => cLst x none fun ms => exM ms minI) S)
    (oE (two l fun x y => exM [x, y] minI) S)
    (oE (one l fun x => cInt x none fun i => some (.int (bR (ltB i 0) (Int.neg i) i))) S)
    (oE (one l fun x => cInt x (cBl x none fun b => some (.int (b2n b))) fun i => some (.int i)) S)
    (oE (one l fun x => oR (iterM x) none fun ms => oR (sortM ms) none fun zs => some (.lst zs)) S)
    (oE (one l fun x => cSeq x none fun ms => oR (nubM ms []) none fun us => oR (sortM us) none fun zs => some (.lst zs)) S)
    (oE (one l fun x => cSeq x none fun ms => oR (nubM ms []) none fun us => some (.int (Int.ofNat (lenL us)))) S)
    (fun own => .bad)
    (oE (two l fun x y => cSeq x none fun ms => oR (findM y ms 0) none fun k => some (.int (Int.ofNat k))) S)
    (oE (two l fun d k => cDct d none fun ks vs => oR (lookD ks vs k) none fun o => some (oR o .non fun v => v)) S)
    (oE (three l fun d k y => cDct d none fun ks vs => oR (lookD ks vs k) none fun o => some (oR o y fun v => v)) S)
    (fun tup => oE (one l fun x => cInt x none fun j => oR (rng2M 0 j) none fun ms => some (bR tup (.tup ms) (.lst ms))) S)
    (fun tup => oE (two l fun x y => cInt x none fun i => cInt y none fun j => oR (rng2M i j) none fun ms => some (bR tup (.tup ms) (.lst ms))) S)
    (fun tup => oE (two l fun x y => cSeq x none fun a => cSeq y none fun b => some (bR tup (.tup (zipM a b)) (.lst (zipM a b)))) S)
    p

/-! handlers of expressions -/
noncomputable def xVar (i : Nat) (σ : List SV) (S : Sto) : RE := oR (getL σ i) .bad fun s => @SV.rec (fun _ => RE) .bad (fun m => .val (.v m) S) (fun k => oR (S.get k) .bad fun _ => .val (.r k) S) s
noncomputable def xFrz (i : Nat) (σ : List SV) (S : Sto) : RE := oR (getL σ i) .bad fun s => @SV.rec (fun _ => RE) .bad (fun m => .val (.v m) S) (fun k => oR (S.get k) .bad fun o => .val (.v (peekO o)) (S.put k none)) s
noncomputable def xGlob (C : Cfg) (g : Nat) (S : Sto) : RE := oE (getL C.globs g) S
noncomputable def xBin (o : Bop) (fa fb : FE) (σ : List SV) (S : Sto) : RE := bE (fa σ S) fun x S1 => bE (fb σ S1) fun y S2 => pk S2 x fun a => pk S2 y fun b => oE (binM o a b) S2
noncomputable def xCmp (o : Cop) (fa fb : FE) (σ : List SV) (S : Sto) : RE := bE (fa σ S) fun x S1 => bE (fb σ S1) fun y S2 => pk S2 x fun a => pk S2 y fun b => oE (cmpM o a b) S2
noncomputable def xNeg (fa : FE) (σ : List SV) (S : Sto) : RE := bE (fa σ S) fun x S1 => pk S1 x fun a => cInt a .bad fun i => .val (.v (.int (Int.neg i))) S1
noncomputable def tru (S : Sto) (x : SV) (k : Bool → RE) : RE := pk S x fun a => oR (truM a) .bad k
noncomputable def xNot (fa : FE) (σ : List SV) (S : Sto) : RE := bE (fa σ S) fun x S1 => tru S1 x fun b => .val (.v (.bl (notB b))) S1
noncomputable def xAnd (fa fb : FE) (σ : List SV) (S : Sto) : RE := bE (fa σ S) fun x S1 => tru S1 x fun b => bR b (fb σ S1) (.val x S1)
noncomputable def xOr (fa fb : FE) (σ : List SV) (S : Sto) : RE := bE (fa σ S) fun x S1 => tru S1 x fun b => bR b (.val x S1) (fb σ S1)
noncomputable def xIsN (no : Bool) (fa : FE) (σ : List SV) (S : Sto) : RE := bE (fa σ S) fun x S1 => pk S1 x fun a => .val (.v (.bl (bR no (notB (cNon a true false)) (cNon a true false)))) S1
noncomputable def xChain (o p : Cop) (fa fb fc : FE) (σ : List SV) (S : Sto) : RE :=
  bE (fa σ S) fun x S1 => bE (fb σ S1) fun y S2 => pk S2 x fun a => pk S2 y fun b => oR (cmpB o a b) .bad fun r => bR r (bE (fc σ S2) fun z S3 => pk S3 y fun b' => pk S3 z fun c => oE (cmpM p b' c) S3) (.val (.v (.bl false)) S2)
noncomputable def xIte (fc fa fb : FE) (σ : List SV) (S : Sto) : RE := bE (fc σ S) fun x S1 => tru S1 x fun b => bR b (fa σ S1) (fb σ S1)
noncomputable def xCall (C : Cfg) (f : Nat) (fas : FA) (σ : List SV) (S : Sto) : RE := bA (fas σ S) fun vs S1 => doCall C f vs S1
noncomputable def xCallK (C : Cfg) (f : Nat) (perm : List Nat) (fas fks : FA) (σ : List SV) (S : Sto) : RE := bA (fas σ S) fun vs S1 => bA (fks σ S1) fun ws S2 => doCall C f (permL (appL vs ws) perm) S2
noncomputable def xPr (p : Prim) (fas : FA) (σ : List SV) (S : Sto) : RE := bA (fas σ S) fun vs S1 => oR (pks S1 vs) .bad fun ms => primM p ms S1
noncomputable def xTup (fas : FA) (σ : List SV) (S : Sto) : RE := bA (fas σ S) fun vs S1 => oR (asVs vs) .bad fun ms => oE (mkT ms) S1
noncomputable def xLst (own : Bool) (fas : FA) (σ : List SV) (S : Sto) : RE := bA (fas σ S) fun vs S1 => oR (asVs vs) .bad fun ms => newL own (revL ms) S1
noncomputable def xIdx (fa fb : FE) (σ : List SV) (S : Sto) : RE := bE (fa σ S) fun x S1 => bE (fb σ S1) fun y S2 => pk S2 x fun a => pk S2 y fun b => oE (idxM a b) S2
noncomputable def wipeL (σ : List SV) (vs : List Nat) : List SV := @List.rec Nat (fun _ => List SV) σ (fun v _ ih => setL ih v .u) vs
/-- one turn after another; a raise inside is not served -/
noncomputable def compGo (t : Tg) (fc : Option FE) (fe : FE) (σ : List SV) (ms : List MV) : List MV → Sto → RI :=
  @List.rec MV (fun _ => List MV → Sto → RI) (fun rev S => .its rev S)
    (fun m _ ih rev S => oR (bindT t m σ) .bad fun σ2 =>
      let go : Sto → RI := fun S1 => @RE.rec (fun _ => RI) .bad (fun v S2 => oR (asV v) .bad fun y => ih (y :: rev) S2) (fun _ _ _ => .bad) (fe σ2 S1)
      oR fc (go S) fun f => @RE.rec (fun _ => RI) .bad (fun c S1 => oR (peek S1 c) .bad fun a => oR (truM a) .bad fun b => bR b (go S1) (ih rev S1)) (fun _ _ _ => .bad) (f σ2 S))
    ms
noncomputable def xComp (own : Bool) (vs : List Nat) (t : Tg) (fi : FI) (fc : Option FE) (fe : FE) (σ : List SV) (S : Sto) : RE :=
  bI (fi σ S) fun ms S1 => bR (fits (lenL ms)) (@RI.rec (fun _ => RE) .bad (fun rev S2 => newL own rev S2) (fun _ _ _ => .bad) (compGo t fc fe (wipeL σ vs) ms [] S1)) .bad
noncomputable def intO (fo : Option FE) (σ : List SV) (S : Sto) (k : Option Int → Sto → RE) : RE := oR fo (k none S) fun f => bE (f σ S) fun x S1 => pk S1 x fun a => cInt a .bad fun i => k (some i) S1
noncomputable def slcM (a : MV) (lo hi : Option Int) : Option MV := cTup a (cLst a none fun l => some (.lst (cutL l lo hi))) fun l => some (.tup (cutL l lo hi))
noncomputable def xSlc (fa : FE) (fl fh : Option FE) (σ : List SV) (S : Sto) : RE := bE (fa σ S) fun x S1 => intO fl σ S1 fun lo S2 => intO fh σ S2 fun hi S3 => pk S3 x fun a => oE (slcM a lo hi) S3
noncomputable def revM (a : MV) : Option MV := cTup a (cLst a (cStr a none fun s => some (.str (revL s))) fun l => some (.lst (revL l))) fun l => some (.tup (revL l))
noncomputable def xRev (fa : FE) (σ : List SV) (S : Sto) : RE := bE (fa σ S) fun x S1 => pk S1 x fun a => oE (revM a) S1
/-- not a function -/
noncomputable def noFn (m : MV) : Bool := @MV.rec (fun _ => Bool) (fun _ => Unit) true (fun _ => true) (fun _ => true) (fun _ => true) (fun _ _ => true) (fun _ _ => true) (fun _ _ _ _ => true) (fun _ => false) () (fun _ _ _ _ => ()) m
noncomputable def xIsi (ts : List Ty) (fa : FE) (σ : List SV) (S : Sto) : RE := bE (fa σ S) fun x S1 => pk S1 x fun a => bR (noFn a) (.val (.v (.bl (isiM ts a))) S1) .bad
noncomputable def xCons (fa : FE) (fr : FA) (σ : List SV) (S : Sto) : RA := bEA (fa σ S) fun x S1 => bAA (fr σ S1) fun xs S2 => .vals (x :: xs) S2
noncomputable def oI (o : Option (List MV)) (S : Sto) : RI := oR o .bad fun ms => .its ms S
noncomputable def itSeq (fa : FE) (σ : List SV) (S : Sto) : RI := bEI (fa σ S) fun x S1 => oR (asV x) .bad fun a => oI (cSeq a none some) S1
noncomputable def itRng (fas : FA) (σ : List SV) (S : Sto) : RI :=
  bAI (fas σ S) fun vs S1 => oR (asVs vs) .bad fun ms => @List.rec MV (fun _ => RI) .bad (fun a r _ => cInt a .bad fun i =>
    @List.rec MV (fun _ => RI) (oI (rng2M 0 i) S1) (fun b r' _ => cInt b .bad fun j => @List.rec MV (fun _ => RI) (oI (rng2M i j) S1) (fun _ _ _ => .bad) r') r) ms
noncomputable def itEnum (fa : FE) (σ : List SV) (S : Sto) : RI := bEI (fa σ S) fun x S1 => oR (asV x) .bad fun a => oI (cLst a none fun l => some (enumM l 0)) S1
noncomputable def itZip (fa fb : FE) (σ : List SV) (S : Sto) : RI := bEI (fa σ S) fun x S1 => bEI (fb σ S1) fun y S2 => oR (asV x) .bad fun a => oR (asV y) .bad fun b => oI (cLst a (cTup a none fun l => cTup b none fun m => some (zipM l m)) fun l => cLst b none fun m => some (zipM l m)) S2

section
variable (C : Cfg)
noncomputable def evE (e : E) : FE :=
  @E.rec (fun _ => FE) (fun _ => FA) (fun _ => FO × Option FE) (fun _ => FI)
    (fun i => xVar i) (fun i => xFrz i) (fun m _ S => .val (.v m) S) (fun g _ S => xGlob C g S)
    (fun o _ _ fa fb => xBin o fa fb) (fun _ fa => xNeg fa) (fun _ fa => xNot fa) (fun _ _ fa fb => xAnd fa fb) (fun _ _ fa fb => xOr fa fb)
    (fun o _ _ fa fb => xCmp o fa fb) (fun no _ fa => xIsN no fa) (fun o p _ _ _ fa fb fc => xChain o p fa fb fc) (fun _ _ _ fc fa fb => xIte fc fa fb)
    (fun f _ fas => xCall C f fas) (fun f _ _ perm fas fks => xCallK C f perm fas fks) (fun p _ fas => xPr p fas) (fun _ fas => xTup fas) (fun own _ fas => xLst own fas)
    (fun own vs t _ _ _ fi fc fe => xComp own vs t fi fc.2 fe)
    (fun _ _ fa fb => xIdx fa fb) (fun _ _ _ fa fl fh => xSlc fa fl.2 fh.2) (fun _ fa => xRev fa) (fun ts _ fa => xIsi ts fa)
    (fun _ S => .vals [] S) (fun _ _ fa fr => xCons fa fr)
    (fun _ S => .val (.v .non) S, none) (fun _ fa => (fa, some fa))
    (fun _ fa => itSeq fa) (fun _ fas => itRng fas) (fun _ fa => itEnum fa) (fun _ _ fa fb => itZip fa fb)
    e
noncomputable def evEs (e : Es) : FA :=
  @Es.rec (fun _ => FE) (fun _ => FA) (fun _ => FO × Option FE) (fun _ => FI)
    (fun i => xVar i) (fun i => xFrz i) (fun m _ S => .val (.v m) S) (fun g _ S => xGlob C g S)
    (fun o _ _ fa fb => xBin o fa fb) (fun _ fa => xNeg fa) (fun _ fa => xNot fa) (fun _ _ fa fb => xAnd fa fb) (fun _ _ fa fb => xOr fa fb)
    (fun o _ _ fa fb => xCmp o fa fb) (fun no _ fa => xIsN no fa) (fun o p _ _ _ fa fb fc => xChain o p fa fb fc) (fun _ _ _ fc fa fb => xIte fc fa fb)
    (fun f _ fas => xCall C f fas) (fun f _ _ perm fas fks => xCallK C f perm fas fks) (fun p _ fas => xPr p fas) (fun _ fas => xTup fas) (fun own _ fas => xLst own fas)
    (fun own vs t _ _ _ fi fc fe => xComp own vs t fi fc.2 fe)
    (fun _ _ fa fb => xIdx fa fb) (fun _ _ _ fa fl fh => xSlc fa fl.2 fh.2) (fun _ fa => xRev fa) (fun ts _ fa => xIsi ts fa)
    (fun _ S => .vals [] S) (fun _ _ fa fr => xCons fa fr)
    (fun _ S => .val (.v .non) S, none) (fun _ fa => (fa, some fa))
    (fun _ fa => itSeq fa) (fun _ fas => itRng fas) (fun _ fa => itEnum fa) (fun _ _ fa fb => itZip fa fb)
    e
noncomputable def evOe (e : Oe) : FO × Option FE :=
  @Oe.rec (fun _ => FE) (fun _ => FA) (fun _ => FO × Option FE) (fun _ => FI)
    (fun i => xVar i) (fun i => xFrz i) (fun m _ S => .val (.v m) S) (fun g _ S => xGlob C g S)
    (fun o _ _ fa fb => xBin o fa fb) (fun _ fa => xNeg fa) (fun _ fa => xNot fa) (fun _ _ fa fb => xAnd fa fb) (fun _ _ fa fb => xOr fa fb)
    (fun o _ _ fa fb => xCmp o fa fb) (fun no _ fa => xIsN no fa) (fun o p _ _ _ fa fb fc => xChain o p fa fb fc) (fun _ _ _ fc fa fb => xIte fc fa fb)
    (fun f _ fas => xCall C f fas) (fun f _ _ perm fas fks => xCallK C f perm fas fks) (fun p _ fas => xPr p fas) (fun _ fas => xTup fas) (fun own _ fas => xLst own fas)
    (fun own vs t _ _ _ fi fc fe => xComp own vs t fi fc.2 fe)
    (fun _ _ fa fb => xIdx fa fb) (fun _ _ _ fa fl fh => xSlc fa fl.2 fh.2) (fun _ fa => xRev fa) (fun ts _ fa => xIsi ts fa)
    (fun _ S => .vals [] S) (fun _ _ fa fr => xCons fa fr)
    (fun _ S => .val (.v .non) S, none) (fun _ fa => (fa, some fa))
    (fun _ fa => itSeq fa) (fun _ fas => itRng fas) (fun _ fa => itEnum fa) (fun _ _ fa fb => itZip fa fb)
    e
noncomputable def evIt (e : It) : FI :=
  @It.rec (fun _ => FE) (fun _ => FA) (fun _ => FO × Option FE) (fun _ => FI)
    (fun i => xVar i) (fun i => xFrz i) (fun m _ S => .val (.v m) S) (fun g _ S => xGlob C g S)
    (fun o _ _ fa fb => xBin o fa fb) (fun _ fa => xNeg fa) (fun _ fa => xNot fa) (fun _ _ fa fb => xAnd fa fb) (fun _ _ fa fb => xOr fa fb)
    (fun o _ _ fa fb => xCmp o fa fb) (fun no _ fa => xIsN no fa) (fun o p _ _ _ fa fb fc => xChain o p fa fb fc) (fun _ _ _ fc fa fb => xIte fc fa fb)
    (fun f _ fas => xCall C f fas) (fun f _ _ perm fas fks => xCallK C f perm fas fks) (fun p _ fas => xPr p fas) (fun _ fas => xTup fas) (fun own _ fas => xLst own fas)
    (fun own vs t _ _ _ fi fc fe => xComp own vs t fi fc.2 fe)
    (fun _ _ fa fb => xIdx fa fb) (fun _ _ _ fa fl fh => xSlc fa fl.2 fh.2) (fun _ fa => xRev fa) (fun ts _ fa => xIsi ts fa)
    (fun _ S => .vals [] S) (fun _ _ fa fr => xCons fa fr)
    (fun _ S => .val (.v .non) S, none) (fun _ fa => (fa, some fa))
    (fun _ fa => itSeq fa) (fun _ fas => itRng fas) (fun _ fa => itEnum fa) (fun _ _ fa fb => itZip fa fb)
    e
end

/-! statements -/
inductive Mth where | append | extend | pop | popAt
/-- what an except suite reckons, of the caught error's class and values -/
inductive Sx where
  | lit (m : MV)
  | isa (cs : List Nat)
  | num
inductive Su where
  | asg (i : Nat) (xs : List Sx)
  | ret (xs : List Sx)
  | asg1 (i : Nat) (x : Sx)
  | ret1 (x : Sx)
structure Hd where
  cs : List Nat
  nm : Option Nat
  su : Su
mutual
inductive St where
  | nop
  | asg (t : Tg) (e : E)
  | par (i j : Nat) (a b : E)
  | aug (i : Nat) (o : Bop) (e : E)
  | setix (i : Nat) (k v : E)
  | mth (i : Nat) (m : Mth) (as : Es)
  | expr (e : E)
  | ifs (c : E) (a b : Ss)
  | for (t : Tg) (it : It) (b : Ss)
  | while (c : E) (b : Ss)
  | ret (e : E)
  | raise (c : Nat) (as : Es)
  | try (b : Ss) (hs : List Hd)
  | brk
  | cnt
inductive Ss where
  | nil
  | cons (s : St) (r : Ss)
end
abbrev FS := List SV → Sto → RS
noncomputable def truS (S : Sto) (x : SV) (k : Bool → RS) : RS := oR (peek S x) .bad fun a => oR (truM a) .bad k
noncomputable def yAsg (t : Tg) (fe : FE) (σ : List SV) (S : Sto) : RS :=
  bES σ (fe σ S) fun x S1 => @Tg.rec (fun _ => RS) (fun _ => Unit) (fun i => .nxt (setL σ i x) S1) (fun _ _ => oR (asV x) .bad fun m => oR (bindT t m σ) .bad fun σ' => .nxt σ' S1) () (fun _ _ _ _ => ()) t
noncomputable def yPar (i j : Nat) (fa fb : FE) (σ : List SV) (S : Sto) : RS := bES σ (fa σ S) fun x S1 => bES σ (fb σ S1) fun y S2 => .nxt (setL (setL σ i x) j y) S2
noncomputable def yAug (i : Nat) (o : Bop) (fe : FE) (σ : List SV) (S : Sto) : RS :=
  oR (getL σ i) .bad fun s => oR (asV s) .bad fun a => cInt a .bad fun _ => bES σ (fe σ S) fun y S1 => oR (asV y) .bad fun b => cInt b .bad fun _ => oR (binM o a b) .bad fun m => .nxt (setL σ i (.v m)) S1
noncomputable def oS (o : Option MV) (k : MV → RS) : RS := oR o .bad k
noncomputable def refS (σ : List SV) (i : Nat) (k : Nat → RS) : RS := oR (getL σ i) .bad fun s => @SV.rec (fun _ => RS) .bad (fun _ => .bad) k s
noncomputable def putIx (o : MO) (k v : MV) : Option MO :=
  @MO.rec (fun _ => Option MO) (fun n rev => cInt k none fun i => oR (ixN n i) none fun j => some (.lst n (setL rev (Nat.sub n (Nat.succ j)) v)))
    (fun n rks rvs => oR (findM k rks 0) (some (.dct (Nat.succ n) (k :: rks) (v :: rvs))) fun j => some (.dct n rks (setL rvs j v))) o
noncomputable def ySetix (i : Nat) (fk fv : FE) (σ : List SV) (S : Sto) : RS :=
  bES σ (fv σ S) fun v S1 => refS σ i fun r => bES σ (fk σ S1) fun k S2 => oR (asV v) .bad fun mv => oR (asV k) .bad fun mk => oR (S2.get r) .bad fun o => oR (putIx o mk mv) .bad fun o' => .nxt σ (S2.put r (some o'))
noncomputable def mthO (m : Mth) (o : MO) (as : List MV) : Option MO :=
  @Mth.rec (fun _ => Option MO)
    (@MO.rec (fun _ => Option MO) (fun n rev => @List.rec MV (fun _ => Option MO) none (fun x r _ => @List.rec MV (fun _ => Option MO) (bR (fits n) (some (.lst (Nat.succ n) (x :: rev))) none) (fun _ _ _ => none) r) as) (fun _ _ _ => none) o)
    (@MO.rec (fun _ => Option MO) (fun n rev => @List.rec MV (fun _ => Option MO) none (fun x r _ => @List.rec MV (fun _ => Option MO) (cLst x none fun l => bR (fits (Nat.add n (lenL l))) (some (.lst (Nat.add n (lenL l)) (revOn l rev))) none) (fun _ _ _ => none) r) as) (fun _ _ _ => none) o)
    none none m
noncomputable def yMth (i : Nat) (m : Mth) (fas : FA) (σ : List SV) (S : Sto) : RS :=
  refS σ i fun r => oR (S.get r) .bad fun _ => bAS σ (fas σ S) fun vs S1 => oR (asVs vs) .bad fun ms => oR (S1.get r) .bad fun o => oR (mthO m o ms) .bad fun o' => .nxt σ (S1.put r (some o'))
noncomputable def yExpr (fe : FE) (σ : List SV) (S : Sto) : RS := bES σ (fe σ S) fun _ S1 => .nxt σ S1
noncomputable def yIf (fc : FE) (fa fb : FS) (σ : List SV) (S : Sto) : RS := bES σ (fc σ S) fun x S1 => truS S1 x fun b => bR b (fa σ S1) (fb σ S1)
noncomputable def yRet (fe : FE) (σ : List SV) (S : Sto) : RS := bES σ (fe σ S) fun x S1 => .ret x S1
noncomputable def yRaise (c : Nat) (fas : FA) (σ : List SV) (S : Sto) : RS := bAS σ (fas σ S) fun vs S1 => oR (asVs vs) .bad fun ms => .exc c ms σ S1
noncomputable def yCons (fs fr : FS) (σ : List SV) (S : Sto) : RS := @RS.rec (fun _ => RS) .bad (fun σ' S' => fr σ' S') RS.ret RS.brk RS.cnt RS.exc (fs σ S)
/-- all places of the slots, reckoned -/
noncomputable def force (σ : List SV) (k : RS) : RS := @List.rec SV (fun _ => RS) k (fun _ _ ih => ih) σ
noncomputable def forGo (t : Tg) (fb : FS) (ms : List MV) : FS :=
  @List.rec MV (fun _ => FS) (fun σ S => .nxt σ S)
    (fun m _ ih σ S => oR (bindT t m σ) .bad fun σ2 => @RS.rec (fun _ => RS) .bad (fun σ' S' => force σ' (ih σ' S')) RS.ret (fun σ' S' => .nxt σ' S') (fun σ' S' => force σ' (ih σ' S')) RS.exc (fb σ2 S)) ms
noncomputable def yFor (t : Tg) (fi : FI) (fb : FS) (σ : List SV) (S : Sto) : RS := bIS σ (fi σ S) fun ms S1 => forGo t fb ms σ S1
noncomputable def whGo (fc : FE) (fb : FS) (n : Nat) : FS :=
  @Nat.rec (fun _ => FS) (fun _ _ => .bad)
    (fun _ ih σ S => bES σ (fc σ S) fun x S1 => truS S1 x fun b => bR b (@RS.rec (fun _ => RS) .bad (fun σ' S' => force σ' (ih σ' S')) RS.ret (fun σ' S' => .nxt σ' S') (fun σ' S' => force σ' (ih σ' S')) RS.exc (fb σ S1)) (.nxt σ S1)) n
noncomputable def memN (x : Nat) (l : List Nat) : Bool := @List.rec Nat (fun _ => Bool) false (fun y _ ih => bR (Nat.beq x y) true ih) l
noncomputable def sxM (c : Nat) (as : List MV) (x : Sx) : Option MV := @Sx.rec (fun _ => Option MV) some (fun cs => @List.rec MV (fun _ => Option MV) (some (.bl (memN c cs))) (fun _ _ _ => none) as) (getL as 0) x
noncomputable def sxMs (c : Nat) (as : List MV) (xs : List Sx) : Option (List MV) := @List.rec Sx (fun _ => Option (List MV)) (some []) (fun x _ ih => oR (sxM c as x) none fun m => oR ih none fun ms => some (m :: ms)) xs
noncomputable def suGo (c : Nat) (as : List MV) (su : Su) (σ : List SV) (S : Sto) : RS :=
  @Su.rec (fun _ => RS) (fun i xs => oR (sxMs c as xs) .bad fun ms => .nxt (setL σ i (.v (.lst ms))) S) (fun xs => oR (sxMs c as xs) .bad fun ms => .ret (.v (.lst ms)) S)
    (fun i x => oR (sxM c as x) .bad fun m => .nxt (setL σ i (.v m)) S) (fun x => oR (sxM c as x) .bad fun m => .ret (.v m) S) su
noncomputable def hdGo (c : Nat) (as : List MV) (hs : List Hd) (σ : List SV) (S : Sto) : RS :=
  @List.rec Hd (fun _ => RS) (.exc c as σ S) (fun h _ ih => bR (memN c h.cs) (suGo c as h.su (oR h.nm σ fun i => setL σ i .u) S) ih) hs
noncomputable def yTry (fb : FS) (hs : List Hd) (σ : List SV) (S : Sto) : RS := @RS.rec (fun _ => RS) .bad RS.nxt RS.ret RS.brk RS.cnt (fun c as σ' S' => hdGo c as hs σ' S') (fb σ S)
section
variable (C : Cfg)
noncomputable def evS (s : St) : FS :=
  @St.rec (fun _ => FS) (fun _ => FS)
    (fun σ S => .nxt σ S) (fun t e => yAsg t (evE C e)) (fun i j a b => yPar i j (evE C a) (evE C b)) (fun i o e => yAug i o (evE C e)) (fun i k v => ySetix i (evE C k) (evE C v)) (fun i m as => yMth i m (evEs C as))
    (fun e => yExpr (evE C e)) (fun c _ _ fa fb => yIf (evE C c) fa fb) (fun t it _ fb => yFor t (evIt C it) fb) (fun c _ fb => whGo (evE C c) fb 100000) (fun e => yRet (evE C e)) (fun c as => yRaise c (evEs C as)) (fun _ hs fb => yTry fb hs)
    (fun σ S => .brk σ S) (fun σ S => .cnt σ S) (fun σ S => .nxt σ S) (fun _ _ fs fr => yCons fs fr) s
noncomputable def evSs (s : Ss) : FS :=
  @Ss.rec (fun _ => FS) (fun _ => FS)
    (fun σ S => .nxt σ S) (fun t e => yAsg t (evE C e)) (fun i j a b => yPar i j (evE C a) (evE C b)) (fun i o e => yAug i o (evE C e)) (fun i k v => ySetix i (evE C k) (evE C v)) (fun i m as => yMth i m (evEs C as))
    (fun e => yExpr (evE C e)) (fun c _ _ fa fb => yIf (evE C c) fa fb) (fun t it _ fb => yFor t (evIt C it) fb) (fun c _ fb => whGo (evE C c) fb 100000) (fun e => yRet (evE C e)) (fun c as => yRaise c (evEs C as)) (fun _ hs fb => yTry fb hs)
    (fun σ S => .brk σ S) (fun σ S => .cnt σ S) (fun σ S => .nxt σ S) (fun _ _ fs fr => yCons fs fr) s
end
/-! defs -/
structure FD where
  np : Nat
  nl : Nat
  body : Ss
noncomputable def endF (r : RS) : RE := @RS.rec (fun _ => RE) .bad (fun _ S => .val (.v .non) S) (fun v S => .val v S) (fun _ _ => .bad) (fun _ _ => .bad) (fun c as _ S => .exc c as S) r
noncomputable def runF (C : Cfg) (d : FD) (args : List SV) (S : Sto) : RE := bR (Nat.beq (lenL args) d.np) (endF (evSs C d.body (appL args (repL (Nat.sub d.nl d.np) .u)) S)) .bad
noncomputable def callsAt (ds : List FD) (gs : List MV) (n : Nat) : Calls :=
  @Nat.rec (fun _ => Calls) (fun _ _ _ => .bad) (fun _ ih f args S => oR (getL ds f) .bad fun d => runF ⟨ih, gs⟩ d args S) n
noncomputable def isTrue (r : RE) : Bool := @RE.rec (fun _ => Bool) false (fun v _ => oR (asV v) false fun m => cBl m false fun b => b) (fun _ _ _ => false) r
end Ev

/-! What the evaluator's values and store mean over the hand layer. -/
namespace Ev
open PySem PySem.Spec PyProof.Rows L2

/-! lists by recursors are lists -/
section
variable {α β : Type}
theorem getL_eq (l : List α) (i : Nat) : getL l i = l[i]? := by
  induction l generalizing i with
  | nil => rfl
  | cons x xs ih => cases i with
    | zero => rfl
    | succ i => exact ih i
theorem setL_eq (l : List α) (i : Nat) (v : α) : setL l i v = l.set i v := by
  induction l generalizing i with
  | nil => rfl
  | cons x xs ih => cases i with
    | zero => rfl
    | succ i => exact congrArg (x :: ·) (ih i)
theorem appL_eq (l r : List α) : appL l r = l ++ r := by
  induction l with
  | nil => rfl
  | cons x xs ih => exact congrArg (x :: ·) ih
theorem revOn_eq (l r : List α) : revOn l r = l.reverse ++ r := by
  induction l generalizing r with
  | nil => rfl
  | cons x xs ih => rw [List.reverse_cons, List.append_assoc]; exact ih (x :: r)
theorem revL_eq (l : List α) : revL l = l.reverse := by unfold revL; rw [revOn_eq, List.append_nil]
theorem lenL_eq (l : List α) : lenL l = l.length := by
  induction l with
  | nil => rfl
  | cons x xs ih => exact congrArg Nat.succ ih
theorem repL_eq (n : Nat) (x : α) : repL n x = List.replicate n x := by
  induction n with
  | zero => rfl
  | succ n ih => exact congrArg (x :: ·) ih
theorem takeL_eq (n : Nat) (l : List α) : takeL n l = l.take n := by
  induction n generalizing l with
  | zero => exact (List.take_zero).symm
  | succ n ih => cases l with
    | nil => rfl
    | cons x xs => exact congrArg (x :: ·) (ih xs)
theorem dropL_eq (n : Nat) (l : List α) : dropL n l = l.drop n := by
  induction n generalizing l with
  | zero => rfl
  | succ n ih => cases l with
    | nil => rfl
    | cons x xs => exact ih xs
theorem mapL_eq (f : α → β) (l : List α) : mapL f l = l.map f := by
  induction l with
  | nil => rfl
  | cons x xs ih => exact congrArg (f x :: ·) ih
@[simp] theorem oR_none (d : β) (k : α → β) : oR none d k = d := rfl
@[simp] theorem oR_some (x : α) (d : β) (k : α → β) : oR (some x) d k = k x := rfl
@[simp] theorem bR_true (t e : β) : bR true t e = t := rfl
@[simp] theorem bR_false (t e : β) : bR false t e = e := rfl
end
theorem addI_eq (a b : Int) : addI a b = a + b := by cases a <;> cases b <;> rfl
theorem mulI_eq (a b : Int) : mulI a b = a * b := by cases a <;> cases b <;> rfl
theorem subI_eq (a b : Int) : subI a b = a - b := by unfold subI; rw [addI_eq]; rfl
theorem blt_iff {m n : Nat} : Nat.blt m n = true ↔ m < n := ⟨fun h => Nat.le_of_ble_eq_true h, fun h => Nat.ble_eq_true_of_le h⟩
theorem ltB_iff (a b : Int) : ltB a b = true ↔ a < b := by
  cases a with
  | ofNat m => cases b with
    | ofNat n => show Nat.blt m n = true ↔ _; rw [blt_iff]; show _ ↔ ((m : Int) < (n : Int)); omega
    | negSucc n => show false = true ↔ _; constructor <;> intro h <;> first | cases h | (exfalso; have : (m : Int) < Int.negSucc n := h; omega)
  | negSucc m => cases b with
    | ofNat n => show true = true ↔ _; constructor <;> intro _ <;> first | rfl | (show Int.negSucc m < (n : Int); omega)
    | negSucc n => show Nat.blt n m = true ↔ _; rw [blt_iff]; omega
theorem leB_iff (a b : Int) : leB a b = true ↔ a ≤ b := by
  cases a with
  | ofNat m => cases b with
    | ofNat n => show Nat.ble m n = true ↔ _; rw [Nat.ble_eq]; show _ ↔ ((m : Int) ≤ (n : Int)); omega
    | negSucc n => show false = true ↔ _; constructor <;> intro h <;> first | cases h | (exfalso; have : (m : Int) ≤ Int.negSucc n := h; omega)
  | negSucc m => cases b with
    | ofNat n => show true = true ↔ _; constructor <;> intro _ <;> first | rfl | (show Int.negSucc m ≤ (n : Int); omega)
    | negSucc n => show Nat.ble n m = true ↔ _; rw [Nat.ble_eq]; omega
theorem eqB_iff (a b : Int) : eqB a b = true ↔ a = b := by
  cases a with
  | ofNat m => cases b with
    | ofNat n => show Nat.beq m n = true ↔ _; rw [Nat.beq_eq]; exact ⟨fun h => by rw [h], fun h => by cases h; rfl⟩
    | negSucc n => show false = true ↔ _; constructor <;> intro h <;> cases h
  | negSucc m => cases b with
    | ofNat n => show false = true ↔ _; constructor <;> intro h <;> cases h
    | negSucc n => show Nat.beq n m = true ↔ _; rw [Nat.beq_eq]; exact ⟨fun h => by rw [h], fun h => by cases h; rfl⟩
theorem ltB_dec (a b : Int) : ltB a b = decide (a < b) := by rw [Bool.eq_iff_iff, ltB_iff, decide_eq_true_eq]
theorem leB_dec (a b : Int) : leB a b = decide (a ≤ b) := by rw [Bool.eq_iff_iff, leB_iff, decide_eq_true_eq]
theorem eqB_dec (a b : Int) : eqB a b = decide (a = b) := by rw [Bool.eq_iff_iff, eqB_iff, decide_eq_true_eq]
theorem notB_eq (b : Bool) : notB b = !b := by cases b <;> rfl
theorem fits_iff (n : Nat) : fits n = true ↔ n ≤ 1000000 := Iff.of_eq Nat.ble_eq
theorem fits_line {n : Nat} (h : fits n = true) : n ≤ sizeLine := by rw [sizeLine_eq]; have := (fits_iff n).mp h; omega

/-! the store -/
theorem get_eq (S : Sto) (k : Nat) : S.get k = if k < S.n then (S.l[S.n - (k + 1)]?).join else none := by
  cases S with
  | mk n l =>
    show bR (Nat.blt k n) (oR (getL l (n - (k + 1))) none fun o => o) none = _
    by_cases h : k < n
    · rw [blt_iff.mpr h, if_pos h, getL_eq]
      show oR l[n - (k + 1)]? none (fun o => o) = _
      cases l[n - (k + 1)]? with
      | none => rfl
      | some o => cases o <;> rfl
    · rw [if_neg h]
      have : Nat.blt k n = false := by
        cases q : Nat.blt k n with
        | false => rfl
        | true => exact absurd (blt_iff.mp q) h
      rw [this]; rfl
theorem push_n (S : Sto) (o : MO) : (S.push o).n = S.n + 1 := by cases S; rfl
theorem push_l (S : Sto) (o : MO) : (S.push o).l = some o :: S.l := by cases S; rfl
theorem get_push (S : Sto) (o : MO) (k : Nat) : (S.push o).get k = if k = S.n then some o else S.get k := by
  rw [get_eq, get_eq, push_n, push_l]
  by_cases h : k = S.n
  · subst h; simp
  · rw [if_neg h]
    by_cases q : k < S.n
    · rw [if_pos q, if_pos (by omega)]
      have : S.n + 1 - (k + 1) = (S.n - (k + 1)) + 1 := by omega
      rw [this]; rfl
    · rw [if_neg q, if_neg (by omega)]
theorem put_n (S : Sto) (k : Nat) (o : Option MO) : (S.put k o).n = S.n := by
  cases S with
  | mk n l => show (bR (Nat.blt k n) (⟨n, setL l (Nat.sub n (Nat.succ k)) o⟩ : Sto) ⟨n, l⟩).n = n; cases Nat.blt k n <;> rfl
theorem put_len (S : Sto) (k : Nat) (o : Option MO) : (S.put k o).l.length = S.l.length := by
  cases S with
  | mk n l =>
    show (bR (Nat.blt k n) (⟨n, setL l (Nat.sub n (Nat.succ k)) o⟩ : Sto) ⟨n, l⟩).l.length = l.length
    cases Nat.blt k n with
    | false => rfl
    | true => show (setL l _ o).length = _; rw [setL_eq, List.length_set]
theorem get_put (S : Sto) (hw : S.l.length = S.n) (k : Nat) (o : Option MO) (j : Nat) : (S.put k o).get j = if j = k ∧ k < S.n then o else S.get j := by
  rw [get_eq, get_eq, put_n]
  cases S with
  | mk n l =>
    show (if j < n then ((bR (Nat.blt k n) (⟨n, setL l (Nat.sub n (Nat.succ k)) o⟩ : Sto) ⟨n, l⟩).l[n - (j + 1)]?).join else none) = if j = k ∧ k < n then o else if j < n then (l[n - (j + 1)]?).join else none
    have hw' : l.length = n := hw
    by_cases hk : k < n
    · rw [blt_iff.mpr hk]
      show (if j < n then ((setL l (n - (k + 1)) o)[n - (j + 1)]?).join else none) = _
      rw [setL_eq]
      by_cases hj : j = k
      · subst hj
        rw [if_pos hk, if_pos ⟨rfl, hk⟩, List.getElem?_set_self (by omega)]
        rfl
      · rw [if_neg (show ¬ (j = k ∧ k < n) from fun q => hj q.1)]
        by_cases hjn : j < n
        · rw [if_pos hjn, if_pos hjn, List.getElem?_set_ne (by omega)]
        · rw [if_neg hjn, if_neg hjn]
    · have : Nat.blt k n = false := by
        cases q : Nat.blt k n with
        | false => rfl
        | true => exact absurd (blt_iff.mp q) hk
      rw [this, if_neg (show ¬ (j = k ∧ k < n) from fun q => hk q.2)]
      rfl
theorem get_lt {S : Sto} {k : Nat} {o : MO} (h : S.get k = some o) : k < S.n := by
  rw [get_eq] at h
  by_cases q : k < S.n
  · exact q
  · rw [if_neg q] at h; cases h

/-! values -/
section
variable (K : PySem.W.Frag) (fa : Nat → Option Addr)
def TupAt (F : Addr → Prop) (H : Hp) (a : Addr) (xs : List V) : Prop :=
  (Rd H a (.tup xs) ∧ ¬ F a) ∨
    ∃ (o : Obj) (its : Array Value) (n : Nat), K.lookup a = some o ∧ o.cls = .type "tuple" ∧ o.data = .seq its n ∧ its.size ≤ sizeLine ∧ Vals xs its.toList
def LstAt (F : Addr → Prop) (H : Hp) (a : Addr) (xs : List V) : Prop := H a = some (.lst xs) ∧ ¬ F a
mutual
inductive Rv (F : Addr → Prop) (H : Hp) : MV → V → Prop
  | non : Rv F H .non .non
  | bl (b : Bool) : Rv F H (.bl b) (.bl b)
  | int (i : Int) : Rv F H (.int i) (.int i)
  | str (s : List Nat) (h : s.length ≤ 1000000) : Rv F H (.str s) (.str ⟨s.toArray⟩)
  | tup {a : Addr} {xs : List V} {ms : List MV} : TupAt K F H a xs → Rvs F H ms xs → Rv F H (.tup ms) (.ref a)
  | lst {a : Addr} {xs : List V} {ms : List MV} : LstAt F H a xs → Rvs F H ms xs → Rv F H (.lst ms) (.ref a)
  | fn {i : Nat} {a : Addr} : fa i = some a → Rv F H (.fn i) (.ref a)
inductive Rvs (F : Addr → Prop) (H : Hp) : List MV → List V → Prop
  | nil : Rvs F H [] []
  | cons {m : MV} {ms : List MV} {x : V} {xs : List V} : Rv F H m x → Rvs F H ms xs → Rvs F H (m :: ms) (x :: xs)
end
end
section
variable {K : PySem.W.Frag} {fa : Nat → Option Addr} {F F' : Addr → Prop} {H H' : Hp}
theorem TupAt.sq {a : Addr} {xs : List V} (h : TupAt K F H a xs) : SqT K H a xs := by
  rcases h with ⟨h, _⟩ | h
  · exact .inl h
  · exact .inr h
theorem LstAt.sq {a : Addr} {xs : List V} (h : LstAt F H a xs) : SqL K H a xs := .inl (.inl h.1)
/-- what is tracked and not F stays -/
def Kp (F : Addr → Prop) (H H' : Hp) : Prop := ∀ b o, H b = some o → ¬ F b → H' b = some o
/-- F grows by what was not tracked alone -/
def Gr (F F' : Addr → Prop) (H : Hp) : Prop := ∀ a, F' a → F a ∨ H a = none
theorem Kp.rd (k : Kp F H H') {a : Addr} {u : HO} (h : Rd H a u) (n : ¬ F a) : Rd H' a u := by
  rcases h with h | ⟨o, h⟩
  · exact .inl (k a _ h n)
  · exact .inr ⟨o, k a _ h n⟩
theorem Rd.there {a : Addr} {u : HO} (h : Rd H a u) : H a ≠ none := by
  rcases h with h | ⟨o, h⟩ <;> rw [h] <;> exact fun q => nomatch q
theorem Gr.off (g : Gr F F' H) {a : Addr} {u : HO} (h : Rd H a u) (n : ¬ F a) : ¬ F' a := fun q => (g a q).elim n (Rd.there h)
theorem TupAt.mono (k : Kp F H H') (g : Gr F F' H) {a : Addr} {xs : List V} (h : TupAt K F H a xs) : TupAt K F' H' a xs := by
  rcases h with ⟨h, n⟩ | h
  · exact .inl ⟨k.rd h n, g.off h n⟩
  · exact .inr h
theorem LstAt.mono (k : Kp F H H') (g : Gr F F' H) {a : Addr} {xs : List V} (h : LstAt F H a xs) : LstAt F' H' a xs := ⟨k a _ h.1 h.2, g.off (.inl h.1) h.2⟩
mutual
theorem Rv.mono (k : Kp F H H') (g : Gr F F' H) : ∀ {m : MV} {x : V}, Rv K fa F H m x → Rv K fa F' H' m x
  | _, _, .non => .non
  | _, _, .bl b => .bl b
  | _, _, .int i => .int i
  | _, _, .str s h => .str s h
  | _, _, .tup h r => .tup (h.mono k g) (Rvs.mono k g r)
  | _, _, .lst h r => .lst (h.mono k g) (Rvs.mono k g r)
  | _, _, .fn e => .fn e
theorem Rvs.mono (k : Kp F H H') (g : Gr F F' H) : ∀ {ms : List MV} {xs : List V}, Rvs K fa F H ms xs → Rvs K fa F' H' ms xs
  | _, _, .nil => .nil
  | _, _, .cons r t => .cons (Rv.mono k g r) (Rvs.mono k g t)
end
theorem Rvs.length : ∀ {ms : List MV} {xs : List V}, Rvs K fa F H ms xs → ms.length = xs.length
  | _, _, .nil => rfl
  | _, _, .cons _ t => congrArg Nat.succ (Rvs.length t)
theorem Rvs.append : ∀ {ms ns : List MV} {xs ys : List V}, Rvs K fa F H ms xs → Rvs K fa F H ns ys → Rvs K fa F H (ms ++ ns) (xs ++ ys)
  | _, _, _, _, .nil, s => s
  | _, _, _, _, .cons r t, s => .cons r (Rvs.append t s)
theorem Rvs.get : ∀ {ms : List MV} {xs : List V}, Rvs K fa F H ms xs → ∀ {i : Nat} {m : MV}, ms[i]? = some m → ∃ x, xs[i]? = some x ∧ Rv K fa F H m x
  | _, _, .nil, _, _, e => by simp at e
  | _, _, .cons r t, 0, m, e => by simp at e; subst e; exact ⟨_, rfl, r⟩
  | _, _, .cons r t, i + 1, m, e => by
    obtain ⟨x, h1, h2⟩ := Rvs.get t (i := i) (m := m) (by simpa using e)
    exact ⟨x, by simpa using h1, h2⟩
theorem Rvs.get' : ∀ {ms : List MV} {xs : List V}, Rvs K fa F H ms xs → ∀ {i : Nat} {x : V}, xs[i]? = some x → ∃ m, ms[i]? = some m ∧ Rv K fa F H m x
  | _, _, .nil, _, _, e => by simp at e
  | _, _, .cons r t, 0, m, e => by simp at e; subst e; exact ⟨_, rfl, r⟩
  | _, _, .cons r t, i + 1, m, e => by
    obtain ⟨x, h1, h2⟩ := Rvs.get' t (i := i) (x := m) (by simpa using e)
    exact ⟨x, by simpa using h1, h2⟩
theorem Rvs.reverse : ∀ {ms : List MV} {xs : List V}, Rvs K fa F H ms xs → Rvs K fa F H ms.reverse xs.reverse
  | _, _, .nil => .nil
  | _, _, .cons r t => by rw [List.reverse_cons, List.reverse_cons]; exact (Rvs.reverse t).append (.cons r .nil)
theorem Rvs.take : ∀ {ms : List MV} {xs : List V} (n : Nat), Rvs K fa F H ms xs → Rvs K fa F H (ms.take n) (xs.take n)
  | _, _, 0, _ => by simp; exact .nil
  | _, _, _ + 1, .nil => .nil
  | _, _, n + 1, .cons r t => .cons r (Rvs.take n t)
theorem Rvs.drop : ∀ {ms : List MV} {xs : List V} (n : Nat), Rvs K fa F H ms xs → Rvs K fa F H (ms.drop n) (xs.drop n)
  | _, _, 0, r => r
  | _, _, _ + 1, .nil => .nil
  | _, _, n + 1, .cons _ t => Rvs.drop n t
theorem Rvs.set : ∀ {ms : List MV} {xs : List V} {m : MV} {x : V} (i : Nat), Rv K fa F H m x → Rvs K fa F H ms xs → Rvs K fa F H (ms.set i m) (xs.set i x)
  | _, _, _, _, _, _, .nil => .nil
  | _, _, _, _, 0, r, .cons _ t => .cons r t
  | _, _, _, _, i + 1, r, .cons q t => .cons q (Rvs.set i r t)
end
end Ev

/-! The store over the abstract heap; what a result wants. -/
namespace Ev
open PySem PySem.Spec PyProof.Rows L2
variable {K : PySem.W.Frag} {fa ct : Nat → Option Addr}

def live (L : List Addr) (S : Sto) (a : Addr) : Prop := ∃ k o, S.get k = some o ∧ L[k]? = some a
def Fz (F0 : Addr → Prop) (L : List Addr) (S : Sto) (a : Addr) : Prop := F0 a ∨ live L S a
section
variable (K : PySem.W.Frag) (fa : Nat → Option Addr)
def Ro (F : Addr → Prop) (H : Hp) : MO → Addr → Prop
  | .lst n rev, a => ∃ xs, H a = some (.lst xs) ∧ Rvs K fa F H rev.reverse xs ∧ n = rev.length
  | .dct _ _ _, _ => False
structure RepS (F0 : Addr → Prop) (L : List Addr) (S : Sto) (H : Hp) : Prop where
  wf : S.l.length = S.n
  len : L.length = S.n
  obj : ∀ k o, S.get k = some o → ∃ a, L[k]? = some a ∧ Ro K fa (Fz F0 L S) H o a
  inj : ∀ j k o o' a, S.get j = some o → S.get k = some o' → L[j]? = some a → L[k]? = some a → j = k
  off : ∀ a, live L S a → ¬ F0 a
  trk : ∀ a, F0 a → H a ≠ none
def RepV (F0 : Addr → Prop) (L : List Addr) (S : Sto) (H : Hp) : SV → V → Prop
  | .u, _ => False
  | .v m, x => Rv K fa (Fz F0 L S) H m x
  | .r k, x => ∃ a, x = .ref a ∧ L[k]? = some a
inductive RepVs (F0 : Addr → Prop) (L : List Addr) (S : Sto) (H : Hp) : List SV → List V → Prop
  | nil : RepVs F0 L S H [] []
  | cons {s : SV} {ss : List SV} {x : V} {xs : List V} : RepV K fa F0 L S H s x → RepVs F0 L S H ss xs → RepVs F0 L S H (s :: ss) (x :: xs)
structure Sl (F0 : Addr → Prop) (L : List Addr) (S : Sto) (H : Hp) (σm : List SV) (σ : L2.St) : Prop where
  len : σm.length = σ.length
  at_ : ∀ (i : Nat) (s : SV), σm[i]? = some s → s = SV.u ∨ ∃ x : V, σ[i]? = some (some x) ∧ RepV K fa F0 L S H s x
/-- a state behind another one -/
structure Ex (L : List Addr) (S : Sto) (H : Hp) (L' : List Addr) (S' : Sto) (H' : Hp) : Prop where
  pre : ∃ M, L' = L ++ M
  kp : Kp (live L S) H H'
  new : Gr (live L S) (live L' S') H
/-- an exception of class c with these values -/
def RepX (ct : Nat → Option Addr) (c : Nat) (as : List MV) (cls : Value) (d : Option Addr) (H : Hp) : Prop :=
  ∃ C, ct c = some C ∧ cls = .ref C ∧ ((as = [] ∧ d = none) ∨ ∃ i dd, as = [.int i] ∧ d = some dd ∧ H dd = some (.xd [(("number" : Str), .int i)]))
/-- what is wanted of a result -/
def Out (ct : Nat → Option Addr) (F0 : Addr → Prop) (L : List Addr) (S : Sto) (H : Hp) (r : RE) (Q : VK) (E : XK) : Prop :=
  match r with
  | .bad => False
  | .val s S' => ∀ L' H' x, Ex L S H L' S' H' → RepS K fa F0 L' S' H' → RepV K fa F0 L' S' H' s x → Q x H'
  | .exc c as S' => ∀ L' H' cls d, Ex L S H L' S' H' → RepS K fa F0 L' S' H' → RepX ct c as cls d H' → E cls d H'
def OutA (ct : Nat → Option Addr) (F0 : Addr → Prop) (L : List Addr) (S : Sto) (H : Hp) (r : RA) (Q : List V → Hp → Prop) (E : XK) : Prop :=
  match r with
  | .bad => False
  | .vals s S' => ∀ L' H' xs, Ex L S H L' S' H' → RepS K fa F0 L' S' H' → RepVs K fa F0 L' S' H' s xs → Q xs H'
  | .exc c as S' => ∀ L' H' cls d, Ex L S H L' S' H' → RepS K fa F0 L' S' H' → RepX ct c as cls d H' → E cls d H'
/-- the reading of an expression by the evaluator -/
def tE (ct : Nat → Option Addr) (f : FE) (W : WX) : TE := fun σ H Q => ∃ F0 L σm S, RepS K fa F0 L S H ∧ Sl K fa F0 L S H σm σ ∧ Out K fa ct F0 L S H (f σm S) Q (fun c d H' => W c d σ H')
end
theorem Ex.refl {L : List Addr} {S : Sto} {H : Hp} : Ex L S H L S H := ⟨⟨[], by simp⟩, fun _ _ e _ => e, fun _ q => .inl q⟩
theorem Ex.trans {L L1 L2 : List Addr} {S S1 S2 : Sto} {H H1 H2 : Hp} (a : Ex L S H L1 S1 H1) (b : Ex L1 S1 H1 L2 S2 H2) : Ex L S H L2 S2 H2 := by
  have keep : ∀ x o, H x = some o → ¬ live L S x → H1 x = some o ∧ ¬ live L1 S1 x := fun x o e n =>
    ⟨a.kp x o e n, fun q => (a.new x q).elim n fun z => by rw [z] at e; cases e⟩
  refine ⟨?_, fun x o e n => ?_, fun x q => ?_⟩
  · obtain ⟨M, rfl⟩ := a.pre
    obtain ⟨M', rfl⟩ := b.pre
    exact ⟨M ++ M', List.append_assoc ..⟩
  · obtain ⟨e1, n1⟩ := keep x o e n
    exact b.kp x o e1 n1
  · rcases b.new x q with z | z
    · exact a.new x z
    · cases e : H x with
      | none => exact .inr rfl
      | some o =>
        by_cases n : live L S x
        · exact .inl n
        · rw [(keep x o e n).1] at z; cases z
section
variable {F0 : Addr → Prop} {L L' : List Addr} {S S' : Sto} {H H' : Hp}
theorem Ex.kpF (ex : Ex L S H L' S' H') (trk : ∀ a, F0 a → H a ≠ none) : Kp (Fz F0 L S) H H' := fun b o e n => ex.kp b o e fun q => n (.inr q)
theorem Ex.grF (ex : Ex L S H L' S' H') : Gr (Fz F0 L S) (Fz F0 L' S') H := fun a q => by
  rcases q with q | q
  · exact .inl (.inl q)
  · rcases ex.new a q with z | z
    · exact .inl (.inr z)
    · exact .inr z
theorem Rv.ex (ex : Ex L S H L' S' H') {m : MV} {x : V} (h : Rv K fa (Fz F0 L S) H m x) : Rv K fa (Fz F0 L' S') H' m x :=
  h.mono (fun b o e n => ex.kp b o e fun q => n (.inr q)) ex.grF
theorem Rvs.ex (ex : Ex L S H L' S' H') {m : List MV} {x : List V} (h : Rvs K fa (Fz F0 L S) H m x) : Rvs K fa (Fz F0 L' S') H' m x :=
  h.mono (fun b o e n => ex.kp b o e fun q => n (.inr q)) ex.grF
theorem Ex.look (ex : Ex L S H L' S' H') {k : Nat} {a : Addr} (e : L[k]? = some a) : L'[k]? = some a := by
  obtain ⟨M, rfl⟩ := ex.pre
  have hk : k < L.length := by
    rw [List.getElem?_eq_some_iff] at e
    exact e.1
  rw [List.getElem?_append_left hk]; exact e
theorem RepV.ex (ex : Ex L S H L' S' H') : ∀ {s : SV} {x : V}, RepV K fa F0 L S H s x → RepV K fa F0 L' S' H' s x
  | .u, _, h => h
  | .v _, _, h => Rv.ex (F0 := F0) ex h
  | .r _, _, ⟨a, e, h⟩ => ⟨a, e, ex.look h⟩
theorem RepVs.ex (ex : Ex L S H L' S' H') : ∀ {s : List SV} {x : List V}, RepVs K fa F0 L S H s x → RepVs K fa F0 L' S' H' s x
  | _, _, .nil => .nil
  | _, _, .cons r t => .cons (r.ex ex) (RepVs.ex ex t)
theorem Sl.ex (ex : Ex L S H L' S' H') {σm : List SV} {σ : L2.St} (h : Sl K fa F0 L S H σm σ) : Sl K fa F0 L' S' H' σm σ :=
  ⟨h.len, fun i s e => (h.at_ i s e).imp id fun ⟨x, h1, h2⟩ => ⟨x, h1, h2.ex ex⟩⟩
theorem RepVs.length : ∀ {s : List SV} {x : List V}, RepVs K fa F0 L S H s x → s.length = x.length
  | _, _, .nil => rfl
  | _, _, .cons _ t => congrArg Nat.succ (RepVs.length t)
theorem Out.mono {r : RE} {Q Q' : VK} {E E' : XK} (h : Out K fa ct F0 L S H r Q E) (hq : ∀ x H', Q x H' → Q' x H') (he : ∀ c d H', E c d H' → E' c d H') : Out K fa ct F0 L S H r Q' E' := by
  cases r with
  | bad => exact h
  | val s S' => exact fun L' H' x a b c => hq _ _ (h L' H' x a b c)
  | exc c as S' => exact fun L' H' x d a b c => he _ _ _ (h L' H' x d a b c)
theorem Out.from {L1 : List Addr} {S1 : Sto} {H1 : Hp} {r : RE} {Q : VK} {E : XK} (ex : Ex L S H L1 S1 H1) (h : Out K fa ct F0 L S H r Q E) : Out K fa ct F0 L1 S1 H1 r Q E := by
  cases r with
  | bad => exact h
  | val s S' => exact fun L' H' x a b c => h L' H' x (ex.trans a) b c
  | exc c as S' => exact fun L' H' x d a b c => h L' H' x d (ex.trans a) b c
theorem OutA.mono {r : RA} {Q Q' : List V → Hp → Prop} {E E' : XK} (h : OutA K fa ct F0 L S H r Q E) (hq : ∀ x H', Q x H' → Q' x H') (he : ∀ c d H', E c d H' → E' c d H') : OutA K fa ct F0 L S H r Q' E' := by
  cases r with
  | bad => exact h
  | vals s S' => exact fun L' H' x a b c => hq _ _ (h L' H' x a b c)
  | exc c as S' => exact fun L' H' x d a b c => he _ _ _ (h L' H' x d a b c)
theorem OutA.from {L1 : List Addr} {S1 : Sto} {H1 : Hp} {r : RA} {Q : List V → Hp → Prop} {E : XK} (ex : Ex L S H L1 S1 H1) (h : OutA K fa ct F0 L S H r Q E) : OutA K fa ct F0 L1 S1 H1 r Q E := by
  cases r with
  | bad => exact h
  | vals s S' => exact fun L' H' x a b c => h L' H' x (ex.trans a) b c
  | exc c as S' => exact fun L' H' x d a b c => h L' H' x d (ex.trans a) b c
/-- behind a part's value -/
def Bh (K : PySem.W.Frag) (fa ct : Nat → Option Addr) (F0 : Addr → Prop) (L : List Addr) (S : Sto) (H : Hp) (k : SV → Sto → RE) (Q : VK) (E : XK) (x : V) (H1 : Hp) : Prop :=
  ∃ L1 S1 s, Ex L S H L1 S1 H1 ∧ RepS K fa F0 L1 S1 H1 ∧ RepV K fa F0 L1 S1 H1 s x ∧ Out K fa ct F0 L1 S1 H1 (k s S1) Q E
theorem out_bE {r : RE} {k : SV → Sto → RE} {Q : VK} {E : XK} (h : Out K fa ct F0 L S H (bE r k) Q E) : Out K fa ct F0 L S H r (Bh K fa ct F0 L S H k Q E) E := by
  cases r with
  | bad => exact h
  | val s S' => exact fun L' H' x a b c => ⟨L', S', s, a, b, c, Out.from a h⟩
  | exc c as S' => exact h
def BhA (K : PySem.W.Frag) (fa ct : Nat → Option Addr) (F0 : Addr → Prop) (L : List Addr) (S : Sto) (H : Hp) (k : List SV → Sto → RE) (Q : VK) (E : XK) (x : List V) (H1 : Hp) : Prop :=
  ∃ L1 S1 s, Ex L S H L1 S1 H1 ∧ RepS K fa F0 L1 S1 H1 ∧ RepVs K fa F0 L1 S1 H1 s x ∧ Out K fa ct F0 L1 S1 H1 (k s S1) Q E
theorem out_bA {r : RA} {k : List SV → Sto → RE} {Q : VK} {E : XK} (h : Out K fa ct F0 L S H (bA r k) Q E) : OutA K fa ct F0 L S H r (BhA K fa ct F0 L S H k Q E) E := by
  cases r with
  | bad => exact h
  | vals s S' => exact fun L' H' x a b c => ⟨L', S', s, a, b, c, Out.from a h⟩
  | exc c as S' => exact h
/-- nothing new, a scalar -/
theorem Out.here {m : MV} {x : V} {Q : VK} {E : XK} (rs : RepS K fa F0 L S H) (h : Out K fa ct F0 L S H (.val (.v m) S) Q E) (r : Rv K fa (Fz F0 L S) H m x) : Q x H := h L H x .refl rs r
/-- a new object at p, not changed later -/
theorem RepS.fresh {p : Addr} {o : HO} (rs : RepS K fa F0 L S H) (hp : H p = none) : Ex L S H L S (upd H p o) ∧ RepS K fa F0 L S (upd H p o) := by
  have kp : ∀ b u, H b = some u → upd H p o b = some u := fun b u e => by rw [upd_ne (ne_of_none e hp)]; exact e
  have ex : Ex L S H L S (upd H p o) := ⟨⟨[], by simp⟩, fun b u e _ => kp b u e, fun _ q => .inl q⟩
  refine ⟨ex, rs.wf, rs.len, fun k ob e => ?_, rs.inj, rs.off, fun a h q => ?_⟩
  · obtain ⟨a, h1, h2⟩ := rs.obj k ob e
    refine ⟨a, h1, ?_⟩
    cases ob with
    | lst n rev =>
      obtain ⟨xs, h3, h4, h5⟩ := h2
      exact ⟨xs, kp a _ h3, Rvs.ex (F0 := F0) ex h4, h5⟩
    | dct _ _ _ => exact h2
  · cases e : H a with
    | none => exact rs.trk a h e
    | some u => rw [kp a u e] at q; cases q
theorem RepS.offF {p : Addr} (rs : RepS K fa F0 L S H) (hp : H p = none) : ¬ Fz F0 L S p := fun q => by
  rcases q with q | ⟨k, o, h1, h2⟩
  · exact rs.trk p q hp
  · obtain ⟨a, h3, h4⟩ := rs.obj k o h1
    rw [h2] at h3
    cases h3
    cases o with
    | lst n rev => obtain ⟨xs, h5, _⟩ := h4; rw [hp] at h5; cases h5
    | dct _ _ _ => exact h4
theorem Out.tup {ms : List MV} {xs : List V} {p : Addr} {Q : VK} {E : XK} (rs : RepS K fa F0 L S H) (h : Out K fa ct F0 L S H (.val (.v (.tup ms)) S) Q E) (hp : H p = none) (r : Rvs K fa (Fz F0 L S) H ms xs) : Q (.ref p) (upd H p (.tup xs)) := by
  obtain ⟨ex, rs'⟩ := rs.fresh (o := .tup xs) hp
  exact h L _ _ ex rs' (.tup (.inl ⟨.inl upd_same, rs.offF hp⟩) (Rvs.ex (F0 := F0) ex r))
theorem Out.lst {ms : List MV} {xs : List V} {p : Addr} {Q : VK} {E : XK} (rs : RepS K fa F0 L S H) (h : Out K fa ct F0 L S H (.val (.v (.lst ms)) S) Q E) (hp : H p = none) (r : Rvs K fa (Fz F0 L S) H ms xs) : Q (.ref p) (upd H p (.lst xs)) := by
  obtain ⟨ex, rs'⟩ := rs.fresh (o := .lst xs) hp
  exact h L _ _ ex rs' (.lst ⟨upd_same, rs.offF hp⟩ (Rvs.ex (F0 := F0) ex r))
/-- a new list that may be changed -/
theorem live_push {p : Addr} {o : MO} (rs : RepS K fa F0 L S H) (a : Addr) : live (L ++ [p]) (S.push o) a ↔ live L S a ∨ a = p := by
  constructor
  · rintro ⟨k, o', h1, h2⟩
    rw [get_push] at h1
    by_cases hk : k = S.n
    · subst hk
      rw [← rs.len, List.getElem?_append_right (Nat.le_refl _)] at h2
      simp at h2
      exact .inr h2.symm
    · rw [if_neg hk] at h1
      have hlt := get_lt h1
      rw [List.getElem?_append_left (by rw [rs.len]; exact hlt)] at h2
      exact .inl ⟨k, o', h1, h2⟩
  · rintro (⟨k, o', h1, h2⟩ | rfl)
    · have hlt := get_lt h1
      exact ⟨k, o', by rw [get_push, if_neg (by omega)]; exact h1, by rw [List.getElem?_append_left (by rw [rs.len]; exact hlt)]; exact h2⟩
    · refine ⟨S.n, o, by rw [get_push, if_pos rfl], ?_⟩
      rw [← rs.len, List.getElem?_append_right (Nat.le_refl _)]
      simp
theorem RepS.pushL {p : Addr} {rev : List MV} {xs : List V} (rs : RepS K fa F0 L S H) (hp : H p = none) (r : Rvs K fa (Fz F0 L S) H rev.reverse xs) :
    Ex L S H (L ++ [p]) (S.push (.lst rev.length rev)) (upd H p (.lst xs)) ∧ RepS K fa F0 (L ++ [p]) (S.push (.lst rev.length rev)) (upd H p (.lst xs)) := by
  have kp : ∀ b u, H b = some u → upd H p (.lst xs) b = some u := fun b u e => by rw [upd_ne (ne_of_none e hp)]; exact e
  have ex : Ex L S H (L ++ [p]) (S.push (.lst rev.length rev)) (upd H p (.lst xs)) :=
    ⟨⟨[p], rfl⟩, fun b u e _ => kp b u e, fun a q => ((live_push rs a).mp q).imp id fun z => by rw [z]; exact hp⟩
  refine ⟨ex, by rw [push_l, push_n, List.length_cons, rs.wf], by rw [push_n, List.length_append, rs.len]; rfl, fun k ob e => ?_, fun j k o o' a h1 h2 h3 h4 => ?_, fun a q => ?_, fun a h q => ?_⟩
  · rw [get_push] at e
    by_cases hk : k = S.n
    · rw [if_pos hk] at e
      cases e
      subst hk
      refine ⟨p, ?_, xs, upd_same, Rvs.ex (F0 := F0) ex r, rfl⟩
      rw [← rs.len, List.getElem?_append_right (Nat.le_refl _)]
      simp
    · rw [if_neg hk] at e
      obtain ⟨a, h1, h2⟩ := rs.obj k ob e
      refine ⟨a, ex.look h1, ?_⟩
      cases ob with
      | lst n rev =>
        obtain ⟨ys, h3, h4, h5⟩ := h2
        exact ⟨ys, kp a _ h3, Rvs.ex (F0 := F0) ex h4, h5⟩
      | dct _ _ _ => exact h2
  · have key : ∀ i o, (S.push (.lst rev.length rev)).get i = some o → (L ++ [p])[i]? = some a → (i = S.n ∧ a = p) ∨ (S.get i = some o ∧ L[i]? = some a) := fun i o e1 e2 => by
      rw [get_push] at e1
      by_cases hi : i = S.n
      · subst hi
        rw [← rs.len, List.getElem?_append_right (Nat.le_refl _)] at e2
        simp at e2
        exact .inl ⟨rfl, e2.symm⟩
      · rw [if_neg hi] at e1
        rw [List.getElem?_append_left (by rw [rs.len]; exact get_lt e1)] at e2
        exact .inr ⟨e1, e2⟩
    have no : ∀ i o, S.get i = some o → L[i]? = some p → False := fun i o e1 e2 => rs.offF hp (.inr ⟨i, o, e1, e2⟩)
    rcases key j o h1 h3 with ⟨rfl, rfl⟩ | ⟨g1, g2⟩
    · rcases key k o' h2 h4 with ⟨rfl, _⟩ | ⟨g3, g4⟩
      · rfl
      · exact (no k o' g3 g4).elim
    · rcases key k o' h2 h4 with ⟨rfl, rfl⟩ | ⟨g3, g4⟩
      · exact (no j o g1 g2).elim
      · exact rs.inj j k o o' a g1 g3 g2 g4
  · rcases (live_push rs a).mp q with z | rfl
    · exact rs.off a z
    · exact fun f => rs.trk a f hp
  · cases e : H a with
    | none => exact rs.trk a h e
    | some u => rw [kp a u e] at q; cases q
/-- newL's result, at a new place p -/
theorem Out.newL {own : Bool} {rev : List MV} {xs : List V} {p : Addr} {Q : VK} {E : XK} (rs : RepS K fa F0 L S H) (h : Out K fa ct F0 L S H (newL own rev S) Q E) (hp : H p = none) (r : Rvs K fa (Fz F0 L S) H rev.reverse xs) :
    xs.length ≤ 1000000 ∧ Q (.ref p) (upd H p (.lst xs)) := by
  unfold Ev.newL at h
  cases hf : fits (lenL rev) with
  | false => rw [hf] at h; exact False.elim h
  | true =>
    rw [hf] at h
    have hl : xs.length ≤ 1000000 := by
      have := (fits_iff _).mp hf
      rw [lenL_eq] at this
      rw [← r.length, List.length_reverse]; exact this
    refine ⟨hl, ?_⟩
    cases own with
    | false =>
      have h' : Out K fa ct F0 L S H (.val (.v (.lst rev.reverse)) S) Q E := by rw [← revL_eq]; exact h
      exact Out.lst rs h' hp r
    | true =>
      have h' : Out K fa ct F0 L S H (.val (.r S.n) (S.push (.lst rev.length rev))) Q E := by rw [← lenL_eq]; exact h
      obtain ⟨ex, rs'⟩ := rs.pushL hp r
      refine h' _ _ _ ex rs' ⟨p, rfl, ?_⟩
      rw [← rs.len, List.getElem?_append_right (Nat.le_refl _)]
      simp
/-- what a value is when it is looked into: maybe a list that may be changed -/
def Pv (K : PySem.W.Frag) (fa : Nat → Option Addr) (F : Addr → Prop) (H : Hp) (m : MV) (x : V) : Prop :=
  Rv K fa F H m x ∨ ∃ a xs ms, m = .lst ms ∧ x = .ref a ∧ H a = some (.lst xs) ∧ Rvs K fa F H ms xs
theorem peek_pv (rs : RepS K fa F0 L S H) {s : SV} {x : V} (r : RepV K fa F0 L S H s x) {m : MV} (e : peek S s = some m) : Pv K fa (Fz F0 L S) H m x := by
  cases s with
  | u => cases e
  | v m' => cases e; exact .inl r
  | r k =>
    obtain ⟨a, rfl, ha⟩ := r
    have e' : oR (S.get k) none (fun o => some (peekO o)) = some m := e
    cases g : S.get k with
    | none => rw [g] at e'; cases e'
    | some o =>
      rw [g] at e'
      have em : peekO o = m := Option.some.inj e'
      obtain ⟨a', h1, h2⟩ := rs.obj k o g
      rw [ha] at h1
      cases h1
      cases o with
      | dct _ _ _ => exact False.elim h2
      | lst n rev =>
        obtain ⟨xs, h3, h4, _⟩ := h2
        exact .inr ⟨a, xs, revL rev, em.symm, rfl, h3, by rw [revL_eq]; exact h4⟩
theorem out_pk {s : SV} {k : MV → RE} {Q : VK} {E : XK} (h : Out K fa ct F0 L S H (pk S s k) Q E) : ∃ m, peek S s = some m ∧ Out K fa ct F0 L S H (k m) Q E := by
  unfold pk at h
  cases e : peek S s with
  | none => rw [e] at h; exact False.elim h
  | some m => rw [e] at h; exact ⟨m, rfl, h⟩
theorem out_oR {α : Type} {o : Option α} {k : α → RE} {Q : VK} {E : XK} (h : Out K fa ct F0 L S H (oR o .bad k) Q E) : ∃ m, o = some m ∧ Out K fa ct F0 L S H (k m) Q E := by
  cases e : o with
  | none => rw [e] at h; exact False.elim h
  | some m => rw [e] at h; exact ⟨m, rfl, h⟩
theorem out_oE {o : Option MV} {Q : VK} {E : XK} (h : Out K fa ct F0 L S H (oE o S) Q E) : ∃ m, o = some m ∧ Out K fa ct F0 L S H (.val (.v m) S) Q E := out_oR h
end
end Ev

/-! Operations by the evaluator over the hand layer. -/
namespace Ev
open PySem PySem.Spec PyProof.Rows L2
variable {K : PySem.W.Frag} {fa ct : Nat → Option Addr} {F : Addr → Prop} {H : Hp} {X : Cx}

theorem Pv.non {x : V} (h : Pv K fa F H .non x) : x = .non := by
  rcases h with h | ⟨_, _, _, e, _⟩
  · cases h; rfl
  · cases e
theorem Pv.bl {b : Bool} {x : V} (h : Pv K fa F H (.bl b) x) : x = .bl b := by
  rcases h with h | ⟨_, _, _, e, _⟩
  · cases h; rfl
  · cases e
theorem Pv.int {i : Int} {x : V} (h : Pv K fa F H (.int i) x) : x = .int i := by
  rcases h with h | ⟨_, _, _, e, _⟩
  · cases h; rfl
  · cases e
theorem Pv.str {s : List Nat} {x : V} (h : Pv K fa F H (.str s) x) : x = .str ⟨s.toArray⟩ := by
  rcases h with h | ⟨_, _, _, e, _⟩
  · cases h; rfl
  · cases e
theorem Pv.strLen {s : List Nat} {x : V} (h : Pv K fa F H (.str s) x) : s.length ≤ 1000000 := by
  rcases h with h | ⟨_, _, _, e, _⟩
  · cases h with
    | str _ h => exact h
  · cases e
theorem Pv.tup {ms : List MV} {x : V} (h : Pv K fa F H (.tup ms) x) : ∃ a xs, x = .ref a ∧ TupAt K F H a xs ∧ Rvs K fa F H ms xs := by
  rcases h with h | ⟨_, _, _, e, _⟩
  · cases h with
    | tup a r => exact ⟨_, _, rfl, a, r⟩
  · cases e
theorem Pv.lst {ms : List MV} {x : V} (h : Pv K fa F H (.lst ms) x) : ∃ a xs, x = .ref a ∧ H a = some (.lst xs) ∧ Rvs K fa F H ms xs := by
  rcases h with h | ⟨a, xs, ms', e, e2, h, r⟩
  · cases h with
    | lst a r => exact ⟨_, _, rfl, a.1, r⟩
  · cases e; exact ⟨a, xs, e2, h, r⟩
theorem Pv.fn {i : Nat} {x : V} (h : Pv K fa F H (.fn i) x) : ∃ a, x = .ref a ∧ fa i = some a := by
  rcases h with h | ⟨_, _, _, e, _⟩
  · cases h with
    | fn e => exact ⟨_, rfl, e⟩
  · cases e
theorem Pv.dct {ks vs : List MV} {x : V} (h : Pv K fa F H (.dct ks vs) x) : False := by
  rcases h with h | ⟨_, _, _, e, _⟩
  · cases h
  · cases e
theorem Rv.pv {m : MV} {x : V} (h : Rv K fa F H m x) : Pv K fa F H m x := .inl h

/-- what an operation's reading starts from -/
def rB (K : PySem.W.Frag) (fa ct : Nat → Option Addr) (o : Bop) : R2 := fun x y H Q => ∃ F0 L S a b, RepS K fa F0 L S H ∧ Pv K fa (Fz F0 L S) H a x ∧ Pv K fa (Fz F0 L S) H b y ∧ Out K fa ct F0 L S H (oE (binM o a b) S) Q (fun _ _ _ => True)
def rC (K : PySem.W.Frag) (fa ct : Nat → Option Addr) (o : Cop) : R2 := fun x y H Q => ∃ F0 L S a b, RepS K fa F0 L S H ∧ Pv K fa (Fz F0 L S) H a x ∧ Pv K fa (Fz F0 L S) H b y ∧ Out K fa ct F0 L S H (oE (cmpM o a b) S) Q (fun _ _ _ => True)

theorem mkT_some {l : List MV} {m : MV} (h : mkT l = some m) : m = .tup l ∧ l.length ≤ 1000000 := by
  unfold mkT at h
  cases hf : fits (lenL l) with
  | false => rw [hf] at h; cases h
  | true => rw [hf] at h; cases h; exact ⟨rfl, by rw [← lenL_eq]; exact (fits_iff _).mp hf⟩
theorem mkL_some {l : List MV} {m : MV} (h : mkL l = some m) : m = .lst l ∧ l.length ≤ 1000000 := by
  unfold mkL at h
  cases hf : fits (lenL l) with
  | false => rw [hf] at h; cases h
  | true => rw [hf] at h; cases h; exact ⟨rfl, by rw [← lenL_eq]; exact (fits_iff _).mp hf⟩
theorem million {n : Nat} (h : n ≤ 1000000) : n ≤ sizeLine := by rw [sizeLine_eq]; omega
theorem str_app (s t : List Nat) : ((⟨s.toArray⟩ : Str) ++ (⟨t.toArray⟩ : Str)) = ⟨(s ++ t).toArray⟩ := by
  show (⟨s.toArray ++ t.toArray⟩ : Str) = _
  simp

theorem Out.any {F0 : Addr → Prop} {L : List Addr} {S : Sto} {r : RE} {Q : VK} {E : XK} (h : Out K fa ct F0 L S H r Q E) : Out K fa ct F0 L S H r Q (fun _ _ _ => True) := h.mono (fun _ _ q => q) fun _ _ _ _ => trivial
theorem or_add : OpR X (binaryOp .Add) (rB X.K fa ct .add) := by
  intro pins s σ H x y v u Q I rx ry ⟨F0, L, S, a, b, rs, pa, pb, h⟩
  obtain ⟨m, e, h⟩ := out_oE h
  have e : addM a b = some m := e
  cases a with
  | int i =>
    cases b with
    | int j =>
      cases e
      obtain rfl := pa.int
      obtain rfl := pb.int
      exact op_add pins s σ H _ _ v u Q I rx ry ⟨i, j, rfl, rfl, by show Q (.int (i + j)) H; rw [← addI_eq]; exact Out.here rs h (.int _)⟩
    | _ => cases e
  | str t =>
    cases b with
    | str w =>
      obtain rfl := pa.str
      obtain rfl := pb.str
      have e : bR (fits (lenL (appL t w))) (some (MV.str (appL t w))) none = some m := e
      cases hf : fits (lenL (appL t w)) with
      | false => rw [hf] at e; cases e
      | true =>
        rw [hf] at e
        cases e
        rw [appL_eq] at h hf
        refine op_add_str pins s σ H _ _ v u Q I rx ry ⟨_, _, rfl, rfl, ?_, ?_⟩
        · have := fits_line hf
          rw [lenL_eq, List.length_append] at this
          simpa [Str.length] using this
        · rw [str_app]; exact Out.here rs h (.str _ (by have := (fits_iff _).mp hf; rw [lenL_eq] at this; exact this))
    | _ => cases e
  | tup ms =>
    cases b with
    | tup ns =>
      obtain ⟨a, xs, rfl, ta, ra⟩ := pa.tup
      obtain ⟨b, ys, rfl, tb, rb⟩ := pb.tup
      obtain ⟨rfl, hl⟩ := mkT_some e
      rw [appL_eq] at h hl
      have hl2 : xs.length + ys.length ≤ 1000000 := by rw [← ra.length, ← rb.length, ← List.length_append]; exact hl
      refine op_catA pins s σ H _ _ v u Q I rx ry ⟨a, b, xs, ys, rfl, rfl, ta.sq, tb.sq, million hl2, fun e => ?_, fun _ e => ?_, fun _ _ p hp => Out.tup rs h hp (ra.append rb)⟩
      · subst e
        cases ra
        exact Out.here rs h (.tup tb rb)
      · subst e
        cases rb
        rw [List.append_nil] at h
        exact Out.here rs h (.tup ta ra)
    | _ => cases e
  | lst ms =>
    cases b with
    | lst ns =>
      obtain ⟨a, xs, rfl, ta, ra⟩ := pa.lst
      obtain ⟨b, ys, rfl, tb, rb⟩ := pb.lst
      obtain ⟨rfl, hl⟩ := mkL_some e
      rw [appL_eq] at h hl
      have hl2 : xs.length + ys.length ≤ 1000000 := by rw [← ra.length, ← rb.length, ← List.length_append]; exact hl
      exact op_cat pins s σ H _ _ v u Q I rx ry ⟨a, b, xs, ys, rfl, rfl, ta, tb, million hl2, fun p hp => Out.lst rs h hp (ra.append rb)⟩
    | _ => cases e
  | _ => cases e
theorem or_sub : OpR X (binaryOp .Sub) (rB X.K fa ct .sub) := by
  intro pins s σ H x y v u Q I rx ry ⟨F0, L, S, a, b, rs, pa, pb, h⟩
  obtain ⟨m, e, h⟩ := out_oE h
  have e : subM a b = some m := e
  cases a with
  | int i =>
    cases b with
    | int j =>
      cases e
      obtain rfl := pa.int
      obtain rfl := pb.int
      exact op_sub pins s σ H _ _ v u Q I rx ry ⟨i, j, rfl, rfl, by show Q (.int (i - j)) H; rw [← subI_eq]; exact Out.here rs h (.int _)⟩
    | _ => cases e
  | _ => cases e
theorem tuple_mul1 (l : Addr) (items : Array Value) (n : Nat) (dd : Option Addr) (sl : Array (Option Value)) (u : Tok) :
    Meets (Builtin.«tuple.__mul__» ⟨[.ref l, .int 1 u], []⟩) (fun _ R s => s.heap.get? l = some { cls := .type "tuple", dict := dd, data := .seq items n, slots := sl } ∧ R (.ok (.ret (Value.ref l))) s) :=
  .of_wp fun prog w A R s h => by
    obtain ⟨hp, g, d, tk, os⟩ := s
    obtain ⟨hl, h⟩ := h
    have f1 := AutoSeq1.idx_int
    wp_walk using wpAny_loadPart' hl
    repeat (first
      | (refine wpAny_ite_true (by simp) ?_; wp_walk using wpAny_loadPart' hl)
      | (refine wpAny_ite_false (by decide) ?_; wp_walk using wpAny_loadPart' hl))
    exact ⟨_, rfl, h⟩
theorem small_iff {i : Int} (h : small i = true) : -(2 ^ 64) < i ∧ i < 2 ^ 64 := by
  unfold small at h
  cases h1 : ltB (-18446744073709551616) i with
  | false => rw [h1] at h; cases h
  | true =>
    rw [h1] at h
    have a := (ltB_iff _ _).mp h1
    have b := (ltB_iff i 18446744073709551616).mp h
    omega
theorem repM_eq (k : Int) (l : List MV) : repM k l = (List.replicate k.toNat l).flatten := by
  unfold repM
  generalize k.toNat = n
  induction n with
  | zero => rfl
  | succ n ih => rw [List.replicate_succ, List.flatten_cons, ← ih]; exact appL_eq _ _
theorem Rvs.rep {ms : List MV} {xs : List V} (r : Rvs K fa F H ms xs) : ∀ n : Nat, Rvs K fa F H (List.replicate n ms).flatten (List.replicate n xs).flatten
  | 0 => .nil
  | n + 1 => by rw [List.replicate_succ, List.replicate_succ, List.flatten_cons, List.flatten_cons]; exact r.append (Rvs.rep r n)
theorem bR_some {α : Type} {b : Bool} {o : Option α} {m : α} (h : bR b o none = some m) : b = true ∧ o = some m := by
  cases b with
  | false => cases h
  | true => exact ⟨rfl, h⟩
/-- t * 1 is t itself -/
theorem op_repT1 : OpR X (binaryOp .Mult) (fun x y H Q => ∃ l xs, x = .ref l ∧ y = .int 1 ∧ SqT X.K H l xs ∧ xs ≠ [] ∧ Q (.ref l) H) := by
  intro pins s σ H x y v u Q I rx ry h
  obtain ⟨l, xs, rfl, rfl, hT, hne, q⟩ := h
  cases rx
  obtain ⟨t, rfl⟩ := ry
  obtain ⟨its, r, ⟨⟨cls, dd, data, sl⟩, ho, hc, n, hd⟩, hs⟩ := I.tuple hT
  simp only at hc hd
  subst hc hd
  exact wpAny_binaryOp_repeat_ref (T := "tuple") (U := "int") (by decide) ⟨_, ho, rfl⟩ (fun s' => typeIs_int s' 1 t) noFill_tuple_mul F.fills_int_mul F.slot_int_rmul repeat_tuple F.slot_int_index.lookup
    (call_meets F.slot_int_rmul (typeIs_int s 1 t) F.entry_int_rmul (F.args_int_rmul_2 _ _) (int_rmul_tuple 1 t l its.toArray n dd sl)
      ⟨ho, rfl, ⟨_, ho, rfl⟩, call_meets F.slot_tuple_mul ⟨_, ho, rfl⟩ F.entry_tuple_mul (F.args_tuple_mul_2 _ _) (tuple_mul1 l its.toArray n dd sl t) ⟨ho, .ref l, H, I, rfl, q⟩⟩)
theorem or_mul : OpR X (binaryOp .Mult) (rB X.K fa ct .mul) := by
  intro pins s σ H x y v u Q I rx ry ⟨F0, L, S, a, b, rs, pa, pb, h⟩
  obtain ⟨m, e, h⟩ := out_oE h
  have e : mulM a b = some m := e
  cases a with
  | int i =>
    cases b with
    | int j =>
      obtain rfl := pa.int
      obtain rfl := pb.int
      have e : bR (small i) (some (MV.int (mulI i j))) (bR (small j) (some (MV.int (mulI i j))) none) = some m := e
      have hc : CMul i j ∧ m = .int (mulI i j) := by
        cases hi : small i with
        | true => rw [hi] at e; cases e; exact ⟨.inl (small_iff hi), rfl⟩
        | false =>
          rw [hi] at e
          obtain ⟨hj, e⟩ := bR_some e
          cases e
          exact ⟨.inr (small_iff hj), rfl⟩
      obtain ⟨hc, rfl⟩ := hc
      exact op_mul pins s σ H _ _ v u Q I rx ry ⟨i, j, rfl, rfl, hc, by show Q (.int (i * j)) H; rw [← mulI_eq]; exact Out.here rs h (.int _)⟩
    | _ => cases e
  | lst ms =>
    cases b with
    | int j =>
      obtain ⟨a, xs, rfl, ta, ra⟩ := pa.lst
      obtain rfl := pb.int
      have e : bR (leB (-1000) j) (bR (leB j 1000) (bR (fits (Nat.mul (lenL ms) j.toNat)) (some (MV.lst (repM j ms))) none) none) none = some m := e
      obtain ⟨h0, e⟩ := bR_some e
      obtain ⟨h1, e⟩ := bR_some e
      obtain ⟨h2, e⟩ := bR_some e
      cases e
      have h0 := (leB_iff _ _).mp h0
      have h1 := (leB_iff _ _).mp h1
      have h2 := fits_line h2
      rw [lenL_eq, ra.length] at h2
      rw [repM_eq] at h
      exact op_rep pins s σ H _ _ v u Q I rx ry ⟨a, j, xs, rfl, rfl, ta, by omega, by omega, h2, fun p hp => Out.lst rs h hp (ra.rep _)⟩
    | _ => cases e
  | tup ms =>
    cases b with
    | int j =>
      obtain ⟨a, xs, rfl, ta, ra⟩ := pa.tup
      obtain rfl := pb.int
      have e : bR (leB 1 j) (bR (leB j 1000) (bR (Nat.ble (lenL ms) 1000) (@List.rec MV (fun _ => Option MV) none (fun _ _ _ => some (.tup (repM j ms))) ms) none) none) none = some m := e
      obtain ⟨h0, e⟩ := bR_some e
      obtain ⟨h1, e⟩ := bR_some e
      obtain ⟨h2, e⟩ := bR_some e
      have h0 := (leB_iff _ _).mp h0
      have h1 := (leB_iff _ _).mp h1
      have h2 : lenL ms ≤ 1000 := Nat.le_of_ble_eq_true h2
      rw [lenL_eq, ra.length] at h2
      have hne : xs ≠ [] := by
        cases ra with
        | nil => cases e
        | cons _ _ => exact fun q => nomatch q
      have em : m = .tup (List.replicate j.toNat ms).flatten := by
        rw [← repM_eq]
        cases ms with
        | nil => cases e
        | cons _ _ => cases e; rfl
      subst em
      by_cases hj : j = 1
      · subst hj
        have h' : Out X.K fa ct F0 L S H (.val (.v (.tup ms)) S) Q (fun _ _ _ => True) := by simpa using h
        exact op_repT1 pins s σ H _ _ v u Q I rx ry ⟨a, xs, rfl, rfl, ta.sq, hne, Out.here rs h' (.tup ta ra)⟩
      · exact op_repT pins s σ H _ _ v u Q I rx ry ⟨a, j, xs, rfl, rfl, ta.sq, hne, by omega, h1, h2, fun p hp => Out.tup rs h hp (ra.rep _)⟩
    | _ => cases e
  | _ => cases e
end Ev

/-! == and < of the evaluator's values. -/
namespace Ev
open PySem PySem.Spec PyProof.Rows L2 PySem.SeqAt
theorem eqNats_iff (a b : List Nat) : eqNats a b = true ↔ a = b := by
  induction a generalizing b with
  | nil => cases b with
    | nil => exact ⟨fun _ => rfl, fun _ => rfl⟩
    | cons y ys => exact ⟨fun h => (by cases (show false = true from h)), fun h => (by cases h)⟩
  | cons x xs ih => cases b with
    | nil => exact ⟨fun h => (by cases (show false = true from h)), fun h => (by cases h)⟩
    | cons y ys =>
      show bR (Nat.beq x y) (eqNats xs ys) false = true ↔ _
      cases h : Nat.beq x y with
      | false =>
        refine ⟨fun q => (by cases (show false = true from q)), fun q => ?_⟩
        cases q
        rw [Nat.beq_refl] at h; cases h
      | true =>
        have e := Nat.eq_of_beq_eq_true h
        subst e
        show eqNats xs ys = true ↔ _
        rw [ih ys]
        exact ⟨fun q => by rw [q], fun q => by cases q; rfl⟩
theorem str_inj {a b : List Nat} : ((⟨a.toArray⟩ : Str) = ⟨b.toArray⟩) ↔ a = b := by
  constructor
  · intro h; injection h with h; simpa using congrArg Array.toList h
  · rintro rfl; rfl
theorem eqNats_str (a b : List Nat) : ((⟨a.toArray⟩ : Str) == ⟨b.toArray⟩) = eqNats a b := by
  rw [Bool.eq_iff_iff, eqNats_iff, beq_iff_eq, str_inj]
section
variable {K : PySem.W.Frag} {fa : Nat → Option Addr} {F : Addr → Prop} {H : Hp} {X : Cx} {pins : List (Addr × Obj)} {σ : L2.St} {s : Shared}
theorem isTupI (I : L2.Inv X pins σ H s) {a : Addr} {xs : List V} (h : SqT X.K H a xs) : ∃ its : List Value, Vals xs its ∧ s.heap.IsTuple a its.toArray := by
  obtain ⟨its, r, p, _⟩ := I.tuple h
  exact ⟨its, r, p⟩
theorem isLstI (I : L2.Inv X pins σ H s) {a : Addr} {xs : List V} (h : SqL X.K H a xs) : ∃ its : List Value, Vals xs its ∧ s.heap.IsList a its.toArray := by
  obtain ⟨its, r, p, _⟩ := I.list h
  exact ⟨its, r, p.isList⟩
theorem cPl_some {b : MV} {k : Option Bool} {r : Bool} (h : cPl b k = some r) : k = some r ∧ (∀ ks vs, b ≠ .dct ks vs) ∧ ∀ i, b ≠ .fn i := by
  cases b <;> first
    | exact ⟨h, fun _ _ q => (nomatch q), fun _ q => (nomatch q)⟩
    | (exact nomatch h)
theorem eqsF_cons (a : MV) (as : List MV) (n : Nat) (b : MV) (bs : List MV) : eqsF (a :: as) n (b :: bs) = oR (eqF a n b) none fun r => oR (eqsF as n bs) none fun r' => some (bR r r' false) := rfl
theorem oR_eq {α β : Type} {o : Option α} {k : α → Option β} {r : β} (h : oR o none k = some r) : ∃ a, o = some a ∧ k a = some r := by
  cases o with
  | none => cases h
  | some a => exact ⟨a, rfl, h⟩
theorem all_shift (e : Nat → Bool) (n : Nat) : (List.range (n + 1)).all e = (e 0 && (List.range n).all fun j => e (j + 1)) := by
  rw [List.range_succ_eq_map, List.all_cons, List.all_map]; rfl
theorem b2n_eq (b : Bool) : b2n b = if b then 1 else 0 := by cases b <;> rfl
mutual
theorem eq_same (I : L2.Inv X pins σ H s) : ∀ (a : MV) (n : Nat) (b : MV) (x : V) (r : Bool), eqF a n b = some r → Pv X.K fa F H a x → Pv X.K fa F H b x → r = true
  | .non, n, b, x, r, e, pa, pb => by
    obtain ⟨e, n1, n2⟩ := cPl_some (b := b) (k := some (cNon b true false)) e
    obtain rfl := pa.non
    cases b with
    | non => cases e; rfl
    | bl k => cases pb.bl
    | int k => cases pb.int
    | str k => cases pb.str
    | tup ms => obtain ⟨a, xs, e, _⟩ := pb.tup; cases e
    | lst ms => obtain ⟨a, xs, e, _⟩ := pb.lst; cases e
    | dct ks vs => exact absurd rfl (n1 ks vs)
    | fn i => exact absurd rfl (n2 i)
  | .bl k, n, b, x, r, e, pa, pb => by
    obtain ⟨e, n1, n2⟩ := cPl_some (b := b) (k := some (cBl b (cInt b false fun j => eqB (b2n k) j) fun y => bR k y (notB y))) e
    obtain rfl := pa.bl
    cases b with
    | bl j => cases pb.bl; cases e; cases k <;> rfl
    | non => cases pb.non
    | int k => cases pb.int
    | str k => cases pb.str
    | tup ms => obtain ⟨a, xs, e, _⟩ := pb.tup; cases e
    | lst ms => obtain ⟨a, xs, e, _⟩ := pb.lst; cases e
    | dct ks vs => exact absurd rfl (n1 ks vs)
    | fn i => exact absurd rfl (n2 i)
  | .int k, n, b, x, r, e, pa, pb => by
    obtain ⟨e, n1, n2⟩ := cPl_some (b := b) (k := some (cBl b (cInt b false fun j => eqB k j) fun y => eqB k (b2n y))) e
    obtain rfl := pa.int
    cases b with
    | int j => cases pb.int; cases e; exact (eqB_iff _ _).mpr rfl
    | non => cases pb.non
    | bl k => cases pb.bl
    | str k => cases pb.str
    | tup ms => obtain ⟨a, xs, e, _⟩ := pb.tup; cases e
    | lst ms => obtain ⟨a, xs, e, _⟩ := pb.lst; cases e
    | dct ks vs => exact absurd rfl (n1 ks vs)
    | fn i => exact absurd rfl (n2 i)
  | .str k, n, b, x, r, e, pa, pb => by
    obtain ⟨e, n1, n2⟩ := cPl_some (b := b) (k := some (cStr b false fun t => eqNats k t)) e
    obtain rfl := pa.str
    cases b with
    | str j =>
      have q : (⟨k.toArray⟩ : Str) = ⟨j.toArray⟩ := V.str.inj pb.str
      cases e
      exact (eqNats_iff _ _).mpr (str_inj.mp q)
    | non => cases pb.non
    | bl k => cases pb.bl
    | int k => cases pb.int
    | tup ms => obtain ⟨a, xs, e, _⟩ := pb.tup; cases e
    | lst ms => obtain ⟨a, xs, e, _⟩ := pb.lst; cases e
    | dct ks vs => exact absurd rfl (n1 ks vs)
    | fn i => exact absurd rfl (n2 i)
  | .tup ks, n, b, x, r, e, pa, pb => by
    obtain ⟨e, n1, n2⟩ := cPl_some (b := b) (k := cTup b (some false) fun ys => @Nat.rec (fun _ => Option Bool) none (fun n' _ => eqsF ks n' ys) n) e
    obtain ⟨a0, xs0, rfl, ta0, ra0⟩ := pa.tup
    cases b with
    | tup ms =>
      obtain ⟨a, xs, e2, ta, ra⟩ := pb.tup
      cases e2
      cases I.tuple_inj ta0.sq ta.sq
      cases n with
      | zero => cases e
      | succ n => exact eqs_same I ks n ms xs0 r e ra0 ra
    | lst ms =>
      obtain ⟨a, xs, e2, ta, _⟩ := pb.lst
      cases e2
      obtain ⟨_, _, h1⟩ := isTupI I ta0.sq
      obtain ⟨_, _, h2⟩ := isLstI I (.inl (.inl ta))
      exact (ne_of_list_tuple h2 h1 rfl).elim
    | non => cases pb.non
    | bl k => cases pb.bl
    | int k => cases pb.int
    | str k => cases pb.str
    | dct ks vs => exact absurd rfl (n1 ks vs)
    | fn i => exact absurd rfl (n2 i)
  | .lst ks, n, b, x, r, e, pa, pb => by
    obtain ⟨e, n1, n2⟩ := cPl_some (b := b) (k := cLst b (some false) fun ys => @Nat.rec (fun _ => Option Bool) none (fun n' _ => eqsF ks n' ys) n) e
    obtain ⟨a0, xs0, rfl, ta0, ra0⟩ := pa.lst
    cases b with
    | lst ms =>
      obtain ⟨a, xs, e2, ta, ra⟩ := pb.lst
      cases e2
      rw [ta0] at ta
      cases ta
      cases n with
      | zero => cases e
      | succ n => exact eqs_same I ks n ms xs0 r e ra0 ra
    | tup ms =>
      obtain ⟨a, xs, e2, ta, _⟩ := pb.tup
      cases e2
      obtain ⟨_, _, h1⟩ := isTupI I ta.sq
      obtain ⟨_, _, h2⟩ := isLstI I (.inl (.inl ta0))
      exact (ne_of_list_tuple h2 h1 rfl).elim
    | non => cases pb.non
    | bl k => cases pb.bl
    | int k => cases pb.int
    | str k => cases pb.str
    | dct ks vs => exact absurd rfl (n1 ks vs)
    | fn i => exact absurd rfl (n2 i)
  | .dct ks vs, n, b, x, r, e, pa, pb => (pa.dct).elim
  | .fn i, n, b, x, r, e, pa, pb => nomatch (show (none : Option Bool) = some r from e)
theorem eqs_same (I : L2.Inv X pins σ H s) : ∀ (as : List MV) (n : Nat) (bs : List MV) (xs : List V) (r : Bool), eqsF as n bs = some r → Rvs X.K fa F H as xs → Rvs X.K fa F H bs xs → r = true
  | [], n, bs, xs, r, e, ra, rb => by
    cases ra
    cases rb
    cases e
    rfl
  | a :: as, n, bs, xs, r, e, ra, rb => by
    cases ra with
    | cons ra0 ras =>
    cases rb with
    | cons rb0 rbs =>
      rw [eqsF_cons] at e
      obtain ⟨r0, e0, e⟩ := oR_eq e
      obtain ⟨r1, e1, e⟩ := oR_eq e
      obtain rfl := eq_same I a n _ _ r0 e0 ra0.pv rb0.pv
      obtain rfl := eqs_same I as n _ _ r1 e1 ras rbs
      cases e
      rfl
end
mutual
theorem eqAt_F (I : L2.Inv X pins σ H s) : ∀ (a : MV) (n : Nat) (A : Around) (hu : A.units + n < cLine) (b : MV) (x y : V) (u v : Value) (r : Bool), eqF a n b = some r →
    Pv X.K fa F H a x → Pv X.K fa F H b y → RelV x u → RelV y v → EqAt A s u v r
  | .non, n, A, hu, b, x, y, u, v, r, e, pa, pb, rx, ry => by
    obtain ⟨e, n1, n2⟩ := cPl_some (b := b) (k := some (cNon b true false)) e
    obtain rfl := pa.non
    cases rx
    cases b with
    | non => obtain rfl := pb.non; cases ry; cases e; exact EqAt.same _
    | bl k => obtain rfl := pb.bl; cases ry; cases e; exact EqAt.none_bool _
    | int k => obtain rfl := pb.int; obtain ⟨t, rfl⟩ := ry; cases e; exact EqAt.none_int _ _
    | str k => obtain rfl := pb.str; obtain ⟨t, rfl⟩ := ry; cases e; exact EqAt.none_str _ _
    | tup ms => obtain ⟨a, xs, rfl, ta, ra⟩ := pb.tup; cases ry; cases e; obtain ⟨its, _, h⟩ := isTupI I ta.sq; exact EqAt.none_tuple h (by omega)
    | lst ms => obtain ⟨a, xs, rfl, ta, ra⟩ := pb.lst; cases ry; cases e; obtain ⟨its, _, h⟩ := isLstI I (.inl (.inl ta)); exact EqAt.none_list h (by omega)
    | dct ks vs => exact absurd rfl (n1 ks vs)
    | fn i => exact absurd rfl (n2 i)
  | .bl k, n, A, hu, b, x, y, u, v, r, e, pa, pb, rx, ry => by
    obtain ⟨e, n1, n2⟩ := cPl_some (b := b) (k := some (cBl b (cInt b false fun j => eqB (b2n k) j) fun y => bR k y (notB y))) e
    obtain rfl := pa.bl
    cases rx
    cases b with
    | non => obtain rfl := pb.non; cases ry; cases e; exact EqAt.bool_none _
    | bl j =>
      obtain rfl := pb.bl; cases ry
      have er : r = (k == j) := by cases e; cases k <;> cases j <;> rfl
      rw [er]; exact EqAt.bool_bool _ _
    | int j =>
      obtain rfl := pb.int; obtain ⟨t, rfl⟩ := ry
      have er : r = ((if k then 1 else 0 : Int) == j) := by cases e; show eqB (b2n k) j = _; rw [eqB_dec, b2n_eq, Bool.beq_eq_decide_eq]
      rw [er]; exact EqAt.bool_int _ _ _
    | str k => obtain rfl := pb.str; obtain ⟨t, rfl⟩ := ry; cases e; exact EqAt.bool_str _ _ _
    | tup ms => obtain ⟨a, xs, rfl, ta, ra⟩ := pb.tup; cases ry; cases e; obtain ⟨its, _, h⟩ := isTupI I ta.sq; exact EqAt.bool_tuple _ h (by omega)
    | lst ms => obtain ⟨a, xs, rfl, ta, ra⟩ := pb.lst; cases ry; cases e; obtain ⟨its, _, h⟩ := isLstI I (.inl (.inl ta)); exact EqAt.bool_list _ h (by omega)
    | dct ks vs => exact absurd rfl (n1 ks vs)
    | fn i => exact absurd rfl (n2 i)
  | .int k, n, A, hu, b, x, y, u, v, r, e, pa, pb, rx, ry => by
    obtain ⟨e, n1, n2⟩ := cPl_some (b := b) (k := some (cBl b (cInt b false fun j => eqB k j) fun y => eqB k (b2n y))) e
    obtain rfl := pa.int
    obtain ⟨t0, rfl⟩ := rx
    cases b with
    | non => obtain rfl := pb.non; cases ry; cases e; exact EqAt.int_none _ _
    | bl j =>
      obtain rfl := pb.bl; cases ry
      have er : r = (k == (if j then 1 else 0 : Int)) := by cases e; show eqB k (b2n j) = _; rw [eqB_dec, b2n_eq, Bool.beq_eq_decide_eq]
      rw [er]; exact EqAt.int_bool _ _ _
    | int j =>
      obtain rfl := pb.int; obtain ⟨t, rfl⟩ := ry
      have er : r = (k == j) := by cases e; show eqB k j = _; rw [eqB_dec, Bool.beq_eq_decide_eq]
      rw [er]; exact EqAt.int_int _ _ _ _
    | str k => obtain rfl := pb.str; obtain ⟨t, rfl⟩ := ry; cases e; exact EqAt.int_str _ _ _ _
    | tup ms => obtain ⟨a, xs, rfl, ta, ra⟩ := pb.tup; cases ry; cases e; obtain ⟨its, _, h⟩ := isTupI I ta.sq; exact EqAt.int_tuple _ _ h (by omega)
    | lst ms => obtain ⟨a, xs, rfl, ta, ra⟩ := pb.lst; cases ry; cases e; obtain ⟨its, _, h⟩ := isLstI I (.inl (.inl ta)); exact EqAt.int_list _ _ h (by omega)
    | dct ks vs => exact absurd rfl (n1 ks vs)
    | fn i => exact absurd rfl (n2 i)
  | .str k, n, A, hu, b, x, y, u, v, r, e, pa, pb, rx, ry => by
    obtain ⟨e, n1, n2⟩ := cPl_some (b := b) (k := some (cStr b false fun t => eqNats k t)) e
    obtain rfl := pa.str
    obtain ⟨t0, rfl⟩ := rx
    cases b with
    | non => obtain rfl := pb.non; cases ry; cases e; exact EqAt.str_none _ _
    | bl j => obtain rfl := pb.bl; cases ry; cases e; exact EqAt.str_bool _ _ _
    | int j => obtain rfl := pb.int; obtain ⟨t, rfl⟩ := ry; cases e; exact EqAt.str_int _ _ _ _
    | str j =>
      obtain rfl := pb.str; obtain ⟨t, rfl⟩ := ry
      have er : r = (((⟨k.toArray⟩ : Str)) == ⟨j.toArray⟩) := by rw [eqNats_str]; cases e; rfl
      rw [er]; exact EqAt.str_str _ _ _ _
    | tup ms => obtain ⟨a, xs, rfl, ta, ra⟩ := pb.tup; cases ry; cases e; obtain ⟨its, _, h⟩ := isTupI I ta.sq; exact EqAt.str_tuple _ _ h (by omega)
    | lst ms => obtain ⟨a, xs, rfl, ta, ra⟩ := pb.lst; cases ry; cases e; obtain ⟨its, _, h⟩ := isLstI I (.inl (.inl ta)); exact EqAt.str_list _ _ h (by omega)
    | dct ks vs => exact absurd rfl (n1 ks vs)
    | fn i => exact absurd rfl (n2 i)
  | .tup ks, n, A, hu, b, x, y, u, v, r, e, pa, pb, rx, ry => by
    obtain ⟨e, n1, n2⟩ := cPl_some (b := b) (k := cTup b (some false) fun ys => @Nat.rec (fun _ => Option Bool) none (fun n' _ => eqsF ks n' ys) n) e
    obtain ⟨a0, xs0, rfl, ta0, ra0⟩ := pa.tup
    cases rx
    obtain ⟨its0, rv0, h0⟩ := isTupI I ta0.sq
    cases b with
    | non => obtain rfl := pb.non; cases ry; cases e; exact EqAt.tuple_none h0 (by omega)
    | bl j => obtain rfl := pb.bl; cases ry; cases e; exact EqAt.tuple_bool _ h0 (by omega)
    | int j => obtain rfl := pb.int; obtain ⟨t, rfl⟩ := ry; cases e; exact EqAt.tuple_int _ _ h0 (by omega)
    | str j => obtain rfl := pb.str; obtain ⟨t, rfl⟩ := ry; cases e; exact EqAt.tuple_str _ _ h0 (by omega)
    | tup ms =>
      obtain ⟨a, xs, rfl, ta, ra⟩ := pb.tup
      cases ry
      obtain ⟨its, rv, h⟩ := isTupI I ta.sq
      cases n with
      | zero => cases e
      | succ n =>
        have e : eqsF ks n ms = some r := e
        obtain ⟨f, hf, er⟩ := eqAts_F I ks n A.in1 (by show A.units + 1 + n < cLine; omega) ms xs0 xs its0 its r e ra0 ra rv0 rv
        by_cases hne : a0 = a
        · subst hne
          have : r = true := by
            cases I.tuple_inj ta0.sq ta.sq
            exact eqs_same I ks n ms xs0 r e ra0 ra
          rw [this]; exact EqAt.same _
        · refine EqAt.of_refs hne ?_
          have k := RcAt.tuples (A := A) (e := f) h0 h (by omega) (fun j h1 h2 => by simpa using hf j (by simpa using h1) (by simpa using h2))
          have er2 : r = ((List.range (min its0.toArray.size its.toArray.size)).all f && its0.toArray.size == its.toArray.size) := by rw [er]; simp
          rw [er2]; exact k
    | lst ms => obtain ⟨a, xs, rfl, ta, ra⟩ := pb.lst; cases ry; cases e; obtain ⟨its, _, h⟩ := isLstI I (.inl (.inl ta)); exact EqAt.tuple_list h0 h (by omega)
    | dct ks vs => exact absurd rfl (n1 ks vs)
    | fn i => exact absurd rfl (n2 i)
  | .lst ks, n, A, hu, b, x, y, u, v, r, e, pa, pb, rx, ry => by
    obtain ⟨e, n1, n2⟩ := cPl_some (b := b) (k := cLst b (some false) fun ys => @Nat.rec (fun _ => Option Bool) none (fun n' _ => eqsF ks n' ys) n) e
    obtain ⟨a0, xs0, rfl, ta0, ra0⟩ := pa.lst
    cases rx
    obtain ⟨its0, rv0, h0⟩ := isLstI I (.inl (.inl ta0))
    cases b with
    | non => obtain rfl := pb.non; cases ry; cases e; exact EqAt.list_none h0 (by omega)
    | bl j => obtain rfl := pb.bl; cases ry; cases e; exact EqAt.list_bool _ h0 (by omega)
    | int j => obtain rfl := pb.int; obtain ⟨t, rfl⟩ := ry; cases e; exact EqAt.list_int _ _ h0 (by omega)
    | str j => obtain rfl := pb.str; obtain ⟨t, rfl⟩ := ry; cases e; exact EqAt.list_str _ _ h0 (by omega)
    | lst ms =>
      obtain ⟨a, xs, rfl, ta, ra⟩ := pb.lst
      cases ry
      obtain ⟨its, rv, h⟩ := isLstI I (.inl (.inl ta))
      cases n with
      | zero => cases e
      | succ n =>
        have e : eqsF ks n ms = some r := e
        obtain ⟨f, hf, er⟩ := eqAts_F I ks n A.in1 (by show A.units + 1 + n < cLine; omega) ms xs0 xs its0 its r e ra0 ra rv0 rv
        by_cases hne : a0 = a
        · subst hne
          have : r = true := by
            rw [ta0] at ta
            cases ta
            exact eqs_same I ks n ms xs0 r e ra0 ra
          rw [this]; exact EqAt.same _
        · refine EqAt.of_refs hne ?_
          by_cases hsz : its0.length = its.length
          · have k := RcAt.lists (A := A) (e := f) h0 h (by simpa using hsz) (by omega) (fun j h1 h2 => by simpa using hf j (by simpa using h1) (by simpa using h2))
            have er2 : r = ((List.range its0.toArray.size).all f) := by rw [er]; simp [hsz]
            rw [er2]; exact k
          · have er2 : r = false := by rw [er]; simp [hsz]
            rw [er2]
            exact RcAt.lists_lengths h0 h (by simpa using hsz) (by omega)
    | tup ms => obtain ⟨a, xs, rfl, ta, ra⟩ := pb.tup; cases ry; cases e; obtain ⟨its, _, h⟩ := isTupI I ta.sq; exact EqAt.list_tuple h0 h (by omega)
    | dct ks vs => exact absurd rfl (n1 ks vs)
    | fn i => exact absurd rfl (n2 i)
  | .dct ks vs, n, A, hu, b, x, y, u, v, r, e, pa, pb, rx, ry => (pa.dct).elim
  | .fn i, n, A, hu, b, x, y, u, v, r, e, pa, pb, rx, ry => nomatch (show (none : Option Bool) = some r from e)
theorem eqAts_F (I : L2.Inv X pins σ H s) : ∀ (as : List MV) (n : Nat) (A : Around) (hu : A.units + n < cLine) (bs : List MV) (xs ys : List V) (us vs : List Value) (r : Bool), eqsF as n bs = some r →
    Rvs X.K fa F H as xs → Rvs X.K fa F H bs ys → Vals xs us → Vals ys vs →
    ∃ f : Nat → Bool, (∀ j (h1 : j < us.length) (h2 : j < vs.length), EqAt A s us[j] vs[j] (f j)) ∧ r = ((List.range (min us.length vs.length)).all f && us.length == vs.length)
  | [], n, A, hu, bs, xs, ys, us, vs, r, e, ra, rb, rx, ry => by
    cases ra
    cases rx
    refine ⟨fun _ => true, fun j h1 => absurd h1 (Nat.not_lt_zero j), ?_⟩
    cases rb with
    | nil => cases ry; cases e; rfl
    | cons q t => cases ry with
      | cons q' t' => cases e; simp
  | a :: as, n, A, hu, bs, xs, ys, us, vs, r, e, ra, rb, rx, ry => by
    cases ra with
    | cons ra0 ras =>
    cases rx with
    | cons rx0 rxs =>
    cases rb with
    | nil =>
      cases ry
      cases e
      exact ⟨fun _ => true, fun j _ h2 => absurd h2 (Nat.not_lt_zero j), by simp⟩
    | cons rb0 rbs =>
      cases ry with
      | cons ry0 rys =>
        rw [eqsF_cons] at e
        obtain ⟨r0, e0, e⟩ := oR_eq e
        obtain ⟨r1, e1, e⟩ := oR_eq e
        have h0 := eqAt_F I a n A hu _ _ _ _ _ r0 e0 ra0.pv rb0.pv rx0 ry0
        obtain ⟨f, hf, er⟩ := eqAts_F I as n A hu _ _ _ _ _ r1 e1 ras rbs rxs rys
        refine ⟨fun j => match j with | 0 => r0 | j + 1 => f j, fun j h1 h2 => ?_, ?_⟩
        · cases j with
          | zero => exact h0
          | succ j => simpa using hf j (by simpa using h1) (by simpa using h2)
        · cases e
          rw [er, List.length_cons, List.length_cons, Nat.add_min_add_right, all_shift]
          cases r0 with
          | false => rfl
          | true => show _ = ((true && _) && _); rw [Bool.true_and]; simp
end
theorem rcAt_F (I : L2.Inv X pins σ H s) (a : MV) (n : Nat) (A : Around) (hu : A.units + n < cLine) (b : MV) (x y : V) (u v : Value) (r : Bool) (e : eqF a n b = some r)
    (pa : Pv X.K fa F H a x) (pb : Pv X.K fa F H b y) (rx : RelV x u) (ry : RelV y v) : RcAt A s u v r := by
  cases a with
  | non =>
    obtain ⟨e, n1, n2⟩ := cPl_some (b := b) (k := some (cNon b true false)) e
    obtain rfl := pa.non
    cases rx
    cases b with
    | non => obtain rfl := pb.non; cases ry; cases e; exact RcAt.none_none
    | bl j => obtain rfl := pb.bl; cases ry; cases e; exact RcAt.none_bool _
    | int j => obtain rfl := pb.int; obtain ⟨t, rfl⟩ := ry; cases e; exact RcAt.none_int _ _
    | str j => obtain rfl := pb.str; obtain ⟨t, rfl⟩ := ry; cases e; exact RcAt.none_str _ _
    | tup ms => obtain ⟨a, xs, rfl, ta, ra⟩ := pb.tup; cases ry; obtain ⟨its, rv, h⟩ := isTupI I ta.sq; cases e; exact RcAt.none_tuple  h (by omega)
    | lst ms => obtain ⟨a, xs, rfl, ta, ra⟩ := pb.lst; cases ry; obtain ⟨its, rv, h⟩ := isLstI I (.inl (.inl ta)); cases e; exact RcAt.none_list  h (by omega)
    | dct ks vs => exact absurd rfl (n1 ks vs)
    | fn i => exact absurd rfl (n2 i)
  | bl k =>
    obtain ⟨e, n1, n2⟩ := cPl_some (b := b) (k := some (cBl b (cInt b false fun j => eqB (b2n k) j) fun y => bR k y (notB y))) e
    obtain rfl := pa.bl
    cases rx
    cases b with
    | non => obtain rfl := pb.non; cases ry; cases e; exact RcAt.bool_none _
    | bl j =>
      obtain rfl := pb.bl; cases ry
      have er : r = (k == j) := by cases e; cases k <;> cases j <;> rfl
      rw [er]; exact RcAt.bool_bool _ _
    | int j =>
      obtain rfl := pb.int; obtain ⟨t, rfl⟩ := ry
      have er : r = ((if k then 1 else 0 : Int) == j) := by cases e; show eqB (b2n k) j = _; rw [eqB_dec, b2n_eq, Bool.beq_eq_decide_eq]
      rw [er]; exact RcAt.bool_int _ _ _
    | str j => obtain rfl := pb.str; obtain ⟨t, rfl⟩ := ry; cases e; exact RcAt.bool_str _ _ _
    | tup ms => obtain ⟨a, xs, rfl, ta, ra⟩ := pb.tup; cases ry; obtain ⟨its, rv, h⟩ := isTupI I ta.sq; cases e; exact RcAt.bool_tuple _ h (by omega)
    | lst ms => obtain ⟨a, xs, rfl, ta, ra⟩ := pb.lst; cases ry; obtain ⟨its, rv, h⟩ := isLstI I (.inl (.inl ta)); cases e; exact RcAt.bool_list _ h (by omega)
    | dct ks vs => exact absurd rfl (n1 ks vs)
    | fn i => exact absurd rfl (n2 i)
  | int k =>
    obtain ⟨e, n1, n2⟩ := cPl_some (b := b) (k := some (cBl b (cInt b false fun j => eqB k j) fun y => eqB k (b2n y))) e
    obtain rfl := pa.int
    obtain ⟨t0, rfl⟩ := rx
    cases b with
    | non => obtain rfl := pb.non; cases ry; cases e; exact RcAt.int_none _ _
    | bl j =>
      obtain rfl := pb.bl; cases ry
      have er : r = (k == (if j then 1 else 0 : Int)) := by cases e; show eqB k (b2n j) = _; rw [eqB_dec, b2n_eq, Bool.beq_eq_decide_eq]
      rw [er]; exact RcAt.int_bool _ _ _
    | int j =>
      obtain rfl := pb.int; obtain ⟨t, rfl⟩ := ry
      have er : r = (k == j) := by cases e; show eqB k j = _; rw [eqB_dec, Bool.beq_eq_decide_eq]
      rw [er]; exact RcAt.int_int _ _ _ _
    | str j => obtain rfl := pb.str; obtain ⟨t, rfl⟩ := ry; cases e; exact RcAt.int_str _ _ _ _
    | tup ms => obtain ⟨a, xs, rfl, ta, ra⟩ := pb.tup; cases ry; obtain ⟨its, rv, h⟩ := isTupI I ta.sq; cases e; exact RcAt.int_tuple _ _ h (by omega)
    | lst ms => obtain ⟨a, xs, rfl, ta, ra⟩ := pb.lst; cases ry; obtain ⟨its, rv, h⟩ := isLstI I (.inl (.inl ta)); cases e; exact RcAt.int_list _ _ h (by omega)
    | dct ks vs => exact absurd rfl (n1 ks vs)
    | fn i => exact absurd rfl (n2 i)
  | str k =>
    obtain ⟨e, n1, n2⟩ := cPl_some (b := b) (k := some (cStr b false fun t => eqNats k t)) e
    obtain rfl := pa.str
    obtain ⟨t0, rfl⟩ := rx
    cases b with
    | non => obtain rfl := pb.non; cases ry; cases e; exact RcAt.str_none _ _
    | bl j => obtain rfl := pb.bl; cases ry; cases e; exact RcAt.str_bool _ _ _
    | int j => obtain rfl := pb.int; obtain ⟨t, rfl⟩ := ry; cases e; exact RcAt.str_int _ _ _ _
    | str j =>
      obtain rfl := pb.str; obtain ⟨t, rfl⟩ := ry
      have er : r = (((⟨k.toArray⟩ : Str)) == ⟨j.toArray⟩) := by rw [eqNats_str]; cases e; rfl
      rw [er]; exact RcAt.str_str _ _ _ _
    | tup ms => obtain ⟨a, xs, rfl, ta, ra⟩ := pb.tup; cases ry; obtain ⟨its, rv, h⟩ := isTupI I ta.sq; cases e; exact RcAt.str_tuple _ _ h (by omega)
    | lst ms => obtain ⟨a, xs, rfl, ta, ra⟩ := pb.lst; cases ry; obtain ⟨its, rv, h⟩ := isLstI I (.inl (.inl ta)); cases e; exact RcAt.str_list _ _ h (by omega)
    | dct ks vs => exact absurd rfl (n1 ks vs)
    | fn i => exact absurd rfl (n2 i)
  | tup ks =>
    obtain ⟨e, n1, n2⟩ := cPl_some (b := b) (k := cTup b (some false) fun ys => @Nat.rec (fun _ => Option Bool) none (fun n' _ => eqsF ks n' ys) n) e
    obtain ⟨a0, xs0, rfl, ta0, ra0⟩ := pa.tup
    cases rx
    obtain ⟨its0, rv0, h0⟩ := isTupI I ta0.sq
    cases b with
    | non => obtain rfl := pb.non; cases ry; cases e; exact RcAt.tuple_none  h0 (by omega)
    | bl j => obtain rfl := pb.bl; cases ry; cases e; exact RcAt.tuple_bool _ h0 (by omega)
    | int j => obtain rfl := pb.int; obtain ⟨t, rfl⟩ := ry; cases e; exact RcAt.tuple_int _ _ h0 (by omega)
    | str j => obtain rfl := pb.str; obtain ⟨t, rfl⟩ := ry; cases e; exact RcAt.tuple_str _ _ h0 (by omega)
    | tup ms =>
      obtain ⟨a, xs, rfl, ta, ra⟩ := pb.tup; cases ry; obtain ⟨its, rv, h⟩ := isTupI I ta.sq
      cases n with
      | zero => cases e
      | succ n =>
        have e : eqsF ks n ms = some r := e
        obtain ⟨f, hf, er⟩ := eqAts_F I ks n A.in1 (by show A.units + 1 + n < cLine; omega) ms xs0 xs its0 its r e ra0 ra rv0 rv
        have k := RcAt.tuples (A := A) (e := f) h0 h (by omega) (fun j h1 h2 => by simpa using hf j (by simpa using h1) (by simpa using h2))
        have er2 : r = ((List.range (min its0.toArray.size its.toArray.size)).all f && its0.toArray.size == its.toArray.size) := by rw [er]; simp
        rw [er2]; exact k
    | lst ms => obtain ⟨a, xs, rfl, ta, ra⟩ := pb.lst; cases ry; obtain ⟨its, rv, h⟩ := isLstI I (.inl (.inl ta)); cases e; exact RcAt.tuple_list  h0 h (by omega)
    | dct ks vs => exact absurd rfl (n1 ks vs)
    | fn i => exact absurd rfl (n2 i)
  | lst ks =>
    obtain ⟨e, n1, n2⟩ := cPl_some (b := b) (k := cLst b (some false) fun ys => @Nat.rec (fun _ => Option Bool) none (fun n' _ => eqsF ks n' ys) n) e
    obtain ⟨a0, xs0, rfl, ta0, ra0⟩ := pa.lst
    cases rx
    obtain ⟨its0, rv0, h0⟩ := isLstI I (.inl (.inl ta0))
    cases b with
    | non => obtain rfl := pb.non; cases ry; cases e; exact RcAt.list_none  h0 (by omega)
    | bl j => obtain rfl := pb.bl; cases ry; cases e; exact RcAt.list_bool _ h0 (by omega)
    | int j => obtain rfl := pb.int; obtain ⟨t, rfl⟩ := ry; cases e; exact RcAt.list_int _ _ h0 (by omega)
    | str j => obtain rfl := pb.str; obtain ⟨t, rfl⟩ := ry; cases e; exact RcAt.list_str _ _ h0 (by omega)
    | tup ms => obtain ⟨a, xs, rfl, ta, ra⟩ := pb.tup; cases ry; obtain ⟨its, rv, h⟩ := isTupI I ta.sq; cases e; exact RcAt.list_tuple  h0 h (by omega)
    | lst ms =>
      obtain ⟨a, xs, rfl, ta, ra⟩ := pb.lst; cases ry; obtain ⟨its, rv, h⟩ := isLstI I (.inl (.inl ta))
      cases n with
      | zero => cases e
      | succ n =>
        have e : eqsF ks n ms = some r := e
        obtain ⟨f, hf, er⟩ := eqAts_F I ks n A.in1 (by show A.units + 1 + n < cLine; omega) ms xs0 xs its0 its r e ra0 ra rv0 rv
        by_cases hsz : its0.length = its.length
        · have k := RcAt.lists (A := A) (e := f) h0 h (by simpa using hsz) (by omega) (fun j h1 h2 => by simpa using hf j (by simpa using h1) (by simpa using h2))
          have er2 : r = ((List.range its0.toArray.size).all f) := by rw [er]; simp [hsz]
          rw [er2]; exact k
        · have er2 : r = false := by rw [er]; simp [hsz]
          rw [er2]
          exact RcAt.lists_lengths h0 h (by simpa using hsz) (by omega)
    | dct ks vs => exact absurd rfl (n1 ks vs)
    | fn i => exact absurd rfl (n2 i)
  | dct ks vs => exact (pa.dct).elim
  | fn i => exact nomatch (show (none : Option Bool) = some r from e)
theorem rcNe_F (I : L2.Inv X pins σ H s) (a : MV) (n : Nat) (A : Around) (hu : A.units + n < cLine) (b : MV) (x y : V) (u v : Value) (r : Bool) (e : eqF a n b = some r)
    (pa : Pv X.K fa F H a x) (pb : Pv X.K fa F H b y) (rx : RelV x u) (ry : RelV y v) : RcNeAt A s u v (!r) := by
  cases a with
  | non =>
    obtain ⟨e, n1, n2⟩ := cPl_some (b := b) (k := some (cNon b true false)) e
    obtain rfl := pa.non
    cases rx
    cases b with
    | non => obtain rfl := pb.non; cases ry; cases e; exact RcNeAt.none_none
    | bl j => obtain rfl := pb.bl; cases ry; cases e; exact RcNeAt.none_bool _
    | int j => obtain rfl := pb.int; obtain ⟨t, rfl⟩ := ry; cases e; exact RcNeAt.none_int _ _
    | str j => obtain rfl := pb.str; obtain ⟨t, rfl⟩ := ry; cases e; exact RcNeAt.none_str _ _
    | tup ms => obtain ⟨a, xs, rfl, ta, ra⟩ := pb.tup; cases ry; obtain ⟨its, rv, h⟩ := isTupI I ta.sq; cases e; exact RcNeAt.none_tuple  h (by omega)
    | lst ms => obtain ⟨a, xs, rfl, ta, ra⟩ := pb.lst; cases ry; obtain ⟨its, rv, h⟩ := isLstI I (.inl (.inl ta)); cases e; exact RcNeAt.none_list  h (by omega)
    | dct ks vs => exact absurd rfl (n1 ks vs)
    | fn i => exact absurd rfl (n2 i)
  | bl k =>
    obtain ⟨e, n1, n2⟩ := cPl_some (b := b) (k := some (cBl b (cInt b false fun j => eqB (b2n k) j) fun y => bR k y (notB y))) e
    obtain rfl := pa.bl
    cases rx
    cases b with
    | non => obtain rfl := pb.non; cases ry; cases e; exact RcNeAt.bool_none _
    | bl j =>
      obtain rfl := pb.bl; cases ry
      have er : r = (k == j) := by cases e; cases k <;> cases j <;> rfl
      rw [er]; exact RcNeAt.bool_bool _ _
    | int j =>
      obtain rfl := pb.int; obtain ⟨t, rfl⟩ := ry
      have er : r = ((if k then 1 else 0 : Int) == j) := by cases e; show eqB (b2n k) j = _; rw [eqB_dec, b2n_eq, Bool.beq_eq_decide_eq]
      rw [er]; exact RcNeAt.bool_int _ _ _
    | str j => obtain rfl := pb.str; obtain ⟨t, rfl⟩ := ry; cases e; exact RcNeAt.bool_str _ _ _
    | tup ms => obtain ⟨a, xs, rfl, ta, ra⟩ := pb.tup; cases ry; obtain ⟨its, rv, h⟩ := isTupI I ta.sq; cases e; exact RcNeAt.bool_tuple _ h (by omega)
    | lst ms => obtain ⟨a, xs, rfl, ta, ra⟩ := pb.lst; cases ry; obtain ⟨its, rv, h⟩ := isLstI I (.inl (.inl ta)); cases e; exact RcNeAt.bool_list _ h (by omega)
    | dct ks vs => exact absurd rfl (n1 ks vs)
    | fn i => exact absurd rfl (n2 i)
  | int k =>
    obtain ⟨e, n1, n2⟩ := cPl_some (b := b) (k := some (cBl b (cInt b false fun j => eqB k j) fun y => eqB k (b2n y))) e
    obtain rfl := pa.int
    obtain ⟨t0, rfl⟩ := rx
    cases b with
    | non => obtain rfl := pb.non; cases ry; cases e; exact RcNeAt.int_none _ _
    | bl j =>
      obtain rfl := pb.bl; cases ry
      have er : r = (k == (if j then 1 else 0 : Int)) := by cases e; show eqB k (b2n j) = _; rw [eqB_dec, b2n_eq, Bool.beq_eq_decide_eq]
      rw [er]; exact RcNeAt.int_bool _ _ _
    | int j =>
      obtain rfl := pb.int; obtain ⟨t, rfl⟩ := ry
      have er : r = (k == j) := by cases e; show eqB k j = _; rw [eqB_dec, Bool.beq_eq_decide_eq]
      rw [er]; exact RcNeAt.int_int _ _ _ _
    | str j => obtain rfl := pb.str; obtain ⟨t, rfl⟩ := ry; cases e; exact RcNeAt.int_str _ _ _ _
    | tup ms => obtain ⟨a, xs, rfl, ta, ra⟩ := pb.tup; cases ry; obtain ⟨its, rv, h⟩ := isTupI I ta.sq; cases e; exact RcNeAt.int_tuple _ _ h (by omega)
    | lst ms => obtain ⟨a, xs, rfl, ta, ra⟩ := pb.lst; cases ry; obtain ⟨its, rv, h⟩ := isLstI I (.inl (.inl ta)); cases e; exact RcNeAt.int_list _ _ h (by omega)
    | dct ks vs => exact absurd rfl (n1 ks vs)
    | fn i => exact absurd rfl (n2 i)
  | str k =>
    obtain ⟨e, n1, n2⟩ := cPl_some (b := b) (k := some (cStr b false fun t => eqNats k t)) e
    obtain rfl := pa.str
    obtain ⟨t0, rfl⟩ := rx
    cases b with
    | non => obtain rfl := pb.non; cases ry; cases e; exact RcNeAt.str_none _ _
    | bl j => obtain rfl := pb.bl; cases ry; cases e; exact RcNeAt.str_bool _ _ _
    | int j => obtain rfl := pb.int; obtain ⟨t, rfl⟩ := ry; cases e; exact RcNeAt.str_int _ _ _ _
    | str j =>
      obtain rfl := pb.str; obtain ⟨t, rfl⟩ := ry
      have er : r = (((⟨k.toArray⟩ : Str)) == ⟨j.toArray⟩) := by rw [eqNats_str]; cases e; rfl
      rw [er]; exact RcNeAt.str_str _ _ _ _
    | tup ms => obtain ⟨a, xs, rfl, ta, ra⟩ := pb.tup; cases ry; obtain ⟨its, rv, h⟩ := isTupI I ta.sq; cases e; exact RcNeAt.str_tuple _ _ h (by omega)
    | lst ms => obtain ⟨a, xs, rfl, ta, ra⟩ := pb.lst; cases ry; obtain ⟨its, rv, h⟩ := isLstI I (.inl (.inl ta)); cases e; exact RcNeAt.str_list _ _ h (by omega)
    | dct ks vs => exact absurd rfl (n1 ks vs)
    | fn i => exact absurd rfl (n2 i)
  | tup ks =>
    obtain ⟨e, n1, n2⟩ := cPl_some (b := b) (k := cTup b (some false) fun ys => @Nat.rec (fun _ => Option Bool) none (fun n' _ => eqsF ks n' ys) n) e
    obtain ⟨a0, xs0, rfl, ta0, ra0⟩ := pa.tup
    cases rx
    obtain ⟨its0, rv0, h0⟩ := isTupI I ta0.sq
    cases b with
    | non => obtain rfl := pb.non; cases ry; cases e; exact RcNeAt.tuple_none  h0 (by omega)
    | bl j => obtain rfl := pb.bl; cases ry; cases e; exact RcNeAt.tuple_bool _ h0 (by omega)
    | int j => obtain rfl := pb.int; obtain ⟨t, rfl⟩ := ry; cases e; exact RcNeAt.tuple_int _ _ h0 (by omega)
    | str j => obtain rfl := pb.str; obtain ⟨t, rfl⟩ := ry; cases e; exact RcNeAt.tuple_str _ _ h0 (by omega)
    | tup ms =>
      obtain ⟨a, xs, rfl, ta, ra⟩ := pb.tup; cases ry; obtain ⟨its, rv, h⟩ := isTupI I ta.sq
      cases n with
      | zero => cases e
      | succ n =>
        have e : eqsF ks n ms = some r := e
        obtain ⟨f, hf, er⟩ := eqAts_F I ks n A.in1 (by show A.units + 1 + n < cLine; omega) ms xs0 xs its0 its r e ra0 ra rv0 rv
        have k := RcNeAt.tuples (A := A) (e := f) h0 h (by omega) (fun j h1 h2 => by simpa using hf j (by simpa using h1) (by simpa using h2))
        have er2 : r = ((List.range (min its0.toArray.size its.toArray.size)).all f && its0.toArray.size == its.toArray.size) := by rw [er]; simp
        rw [er2]; exact k
    | lst ms => obtain ⟨a, xs, rfl, ta, ra⟩ := pb.lst; cases ry; obtain ⟨its, rv, h⟩ := isLstI I (.inl (.inl ta)); cases e; exact RcNeAt.tuple_list  h0 h (by omega)
    | dct ks vs => exact absurd rfl (n1 ks vs)
    | fn i => exact absurd rfl (n2 i)
  | lst ks =>
    obtain ⟨e, n1, n2⟩ := cPl_some (b := b) (k := cLst b (some false) fun ys => @Nat.rec (fun _ => Option Bool) none (fun n' _ => eqsF ks n' ys) n) e
    obtain ⟨a0, xs0, rfl, ta0, ra0⟩ := pa.lst
    cases rx
    obtain ⟨its0, rv0, h0⟩ := isLstI I (.inl (.inl ta0))
    cases b with
    | non => obtain rfl := pb.non; cases ry; cases e; exact RcNeAt.list_none  h0 (by omega)
    | bl j => obtain rfl := pb.bl; cases ry; cases e; exact RcNeAt.list_bool _ h0 (by omega)
    | int j => obtain rfl := pb.int; obtain ⟨t, rfl⟩ := ry; cases e; exact RcNeAt.list_int _ _ h0 (by omega)
    | str j => obtain rfl := pb.str; obtain ⟨t, rfl⟩ := ry; cases e; exact RcNeAt.list_str _ _ h0 (by omega)
    | tup ms => obtain ⟨a, xs, rfl, ta, ra⟩ := pb.tup; cases ry; obtain ⟨its, rv, h⟩ := isTupI I ta.sq; cases e; exact RcNeAt.list_tuple  h0 h (by omega)
    | lst ms =>
      obtain ⟨a, xs, rfl, ta, ra⟩ := pb.lst; cases ry; obtain ⟨its, rv, h⟩ := isLstI I (.inl (.inl ta))
      cases n with
      | zero => cases e
      | succ n =>
        have e : eqsF ks n ms = some r := e
        obtain ⟨f, hf, er⟩ := eqAts_F I ks n A.in1 (by show A.units + 1 + n < cLine; omega) ms xs0 xs its0 its r e ra0 ra rv0 rv
        by_cases hsz : its0.length = its.length
        · have k := RcNeAt.lists (A := A) (e := f) h0 h (by simpa using hsz) (by omega) (fun j h1 h2 => by simpa using hf j (by simpa using h1) (by simpa using h2))
          have er2 : r = ((List.range its0.toArray.size).all f) := by rw [er]; simp [hsz]
          rw [er2]; exact k
        · have er2 : r = false := by rw [er]; simp [hsz]
          rw [er2]
          exact RcNeAt.lists_lengths h0 h (by simpa using hsz) (by omega)
    | dct ks vs => exact absurd rfl (n1 ks vs)
    | fn i => exact absurd rfl (n2 i)
  | dct ks vs => exact (pa.dct).elim
  | fn i => exact nomatch (show (none : Option Bool) = some r from e)

theorem ltNats_iff (a b : List Nat) : ltNats a b = decide (a < b) := by
  rw [Bool.eq_iff_iff, decide_eq_true_eq]
  induction a generalizing b with
  | nil => cases b with
    | nil => exact ⟨fun h => (by cases (show false = true from h)), fun h => (List.lt_irrefl _ h).elim⟩
    | cons y ys => exact ⟨fun _ => List.nil_lt_cons _ _, fun _ => rfl⟩
  | cons x xs ih => cases b with
    | nil => exact ⟨fun h => (by cases (show false = true from h)), fun h => (List.not_lt_nil _ h).elim⟩
    | cons y ys =>
      rw [List.cons_lt_cons_iff]
      show bR (Nat.beq x y) (ltNats xs ys) (Nat.blt x y) = true ↔ _
      cases h : Nat.beq x y with
      | false =>
        have hne : x ≠ y := fun e => by subst e; rw [Nat.beq_refl] at h; cases h
        show Nat.blt x y = true ↔ _
        rw [blt_iff]
        exact ⟨fun q => .inl q, fun q => q.elim id fun q => absurd q.1 hne⟩
      | true =>
        have e := Nat.eq_of_beq_eq_true h
        subst e
        show ltNats xs ys = true ↔ _
        rw [ih ys]
        exact ⟨fun q => .inr ⟨rfl, q⟩, fun q => q.elim (fun z => absurd z (Nat.lt_irrefl _)) fun z => z.2⟩
theorem ltsF_cons (a : MV) (as : List MV) (n : Nat) (b : MV) (bs : List MV) : ltsF (a :: as) n (b :: bs) = oR (eqF a n b) none fun r => oR (bR r (some false) (ltF a n b)) none fun q => oR (ltsF as n bs) none fun r' => some (bR r r' q) := rfl
theorem firstLt_shift (e r : Nat → Bool) (fin : Bool) : ∀ l : List Nat, firstLt e r fin (l.map Nat.succ) = firstLt (fun j => e (j + 1)) (fun j => r (j + 1)) fin l
  | [] => rfl
  | j :: l => by
    rw [List.map_cons]
    cases h : e (j + 1) with
    | true => rw [firstLt_yes h, firstLt_yes (e := fun j => e (j + 1)) h, firstLt_shift e r fin l]
    | false => rw [firstLt_no h, firstLt_no (e := fun j => e (j + 1)) h]
mutual
theorem rcLt_F (I : L2.Inv X pins σ H s) : ∀ (a : MV) (n : Nat) (A : Around) (hu : A.units + n < cLine) (b : MV) (x y : V) (u v : Value) (r : Bool), ltF a n b = some r →
    Pv X.K fa F H a x → Pv X.K fa F H b y → RelV x u → RelV y v → RcLt A s u v r
  | .int i, n, A, hu, b, x, y, u, v, r, e, pa, pb, rx, ry => by
    cases b with
    | int j =>
      obtain rfl := pa.int
      obtain rfl := pb.int
      obtain ⟨t, rfl⟩ := rx
      obtain ⟨t', rfl⟩ := ry
      cases e
      intro prog w E Q h
      rw [ltB_dec] at h
      exact lt_int h
    | _ => cases e
  | .str i, n, A, hu, b, x, y, u, v, r, e, pa, pb, rx, ry => by
    cases b with
    | str j =>
      obtain rfl := pa.str
      obtain rfl := pb.str
      obtain ⟨t, rfl⟩ := rx
      obtain ⟨t', rfl⟩ := ry
      cases e
      intro prog w E Q h
      rw [ltNats_iff] at h
      exact lt_str (by simpa using h)
    | _ => cases e
  | .tup ks, n, A, hu, b, x, y, u, v, r, e, pa, pb, rx, ry => by
    cases b with
    | tup ms =>
      obtain ⟨a0, xs0, rfl, ta0, ra0⟩ := pa.tup
      obtain ⟨a1, xs1, rfl, ta1, ra1⟩ := pb.tup
      cases rx
      cases ry
      obtain ⟨its0, rv0, h0⟩ := isTupI I ta0.sq
      obtain ⟨its1, rv1, h1⟩ := isTupI I ta1.sq
      cases n with
      | zero => cases e
      | succ n =>
        have e : ltsF ks n ms = some r := e
        obtain ⟨f, g, hf, hg, er⟩ := rcLts_F I ks n A.in1 (by show A.units + 1 + n < cLine; omega) ms xs0 xs1 its0 its1 r e ra0 ra1 rv0 rv1
        have k := RcLt.tuples (A := A) (e := f) (r := g) h0 h1 (by omega) (fun j h1 h2 => by simpa using hf j (by simpa using h1) (by simpa using h2)) (fun j h1 h2 q => by simpa using hg j (by simpa using h1) (by simpa using h2) q)
        have er2 : r = firstLt f g (decide (its0.toArray.size < its1.toArray.size)) (List.range (min its0.toArray.size its1.toArray.size)) := by rw [er]; simp
        rw [er2]; exact k
    | _ => cases e
  | .non, n, A, hu, b, x, y, u, v, r, e, pa, pb, rx, ry => nomatch (show (none : Option Bool) = some r from e)
  | .bl _, n, A, hu, b, x, y, u, v, r, e, pa, pb, rx, ry => nomatch (show (none : Option Bool) = some r from e)
  | .lst _, n, A, hu, b, x, y, u, v, r, e, pa, pb, rx, ry => nomatch (show (none : Option Bool) = some r from e)
  | .dct _ _, n, A, hu, b, x, y, u, v, r, e, pa, pb, rx, ry => nomatch (show (none : Option Bool) = some r from e)
  | .fn _, n, A, hu, b, x, y, u, v, r, e, pa, pb, rx, ry => nomatch (show (none : Option Bool) = some r from e)
theorem rcLts_F (I : L2.Inv X pins σ H s) : ∀ (as : List MV) (n : Nat) (A : Around) (hu : A.units + n < cLine) (bs : List MV) (xs ys : List V) (us vs : List Value) (r : Bool), ltsF as n bs = some r →
    Rvs X.K fa F H as xs → Rvs X.K fa F H bs ys → Vals xs us → Vals ys vs →
    ∃ f g : Nat → Bool, (∀ j (h1 : j < us.length) (h2 : j < vs.length), EqAt A s us[j] vs[j] (f j)) ∧ (∀ j (h1 : j < us.length) (h2 : j < vs.length), f j = false → RcLt A s us[j] vs[j] (g j)) ∧
      r = firstLt f g (decide (us.length < vs.length)) (List.range (min us.length vs.length))
  | [], n, A, hu, bs, xs, ys, us, vs, r, e, ra, rb, rx, ry => by
    cases ra
    cases rx
    refine ⟨fun _ => true, fun _ => true, fun j h1 => absurd h1 (Nat.not_lt_zero j), fun j h1 => absurd h1 (Nat.not_lt_zero j), ?_⟩
    cases rb with
    | nil => cases ry; cases e; rfl
    | cons q t => cases ry with
      | cons q' t' => cases e; simp [firstLt]
  | a :: as, n, A, hu, bs, xs, ys, us, vs, r, e, ra, rb, rx, ry => by
    cases ra with
    | cons ra0 ras =>
    cases rx with
    | cons rx0 rxs =>
    cases rb with
    | nil =>
      cases ry
      cases e
      exact ⟨fun _ => true, fun _ => true, fun j _ h2 => absurd h2 (Nat.not_lt_zero j), fun j _ h2 => absurd h2 (Nat.not_lt_zero j), by simp [firstLt]⟩
    | cons rb0 rbs =>
      cases ry with
      | cons ry0 rys =>
        rw [ltsF_cons] at e
        obtain ⟨r0, e0, e⟩ := oR_eq e
        obtain ⟨q0, eq0, e⟩ := oR_eq e
        obtain ⟨r1, e1, e⟩ := oR_eq e
        have h0 := eqAt_F I a n A hu _ _ _ _ _ r0 e0 ra0.pv rb0.pv rx0 ry0
        obtain ⟨f, g, hf, hg, er⟩ := rcLts_F I as n A hu _ _ _ _ _ r1 e1 ras rbs rxs rys
        refine ⟨fun j => match j with | 0 => r0 | j + 1 => f j, fun j => match j with | 0 => q0 | j + 1 => g j, fun j h1 h2 => ?_, fun j h1 h2 hn => ?_, ?_⟩
        · cases j with
          | zero => exact h0
          | succ j => simpa using hf j (by simpa using h1) (by simpa using h2)
        · cases j with
          | zero =>
            have hr : r0 = false := hn
            subst hr
            exact rcLt_F I a n A hu _ _ _ _ _ q0 eq0 ra0.pv rb0.pv rx0 ry0
          | succ j => simpa using hg j (by simpa using h1) (by simpa using h2) hn
        · cases e
          rw [er, List.length_cons, List.length_cons, Nat.add_min_add_right, List.range_succ_eq_map]
          cases r0 with
          | false => rw [firstLt_no (e := fun j => match j with | 0 => false | j + 1 => f j) rfl]; rfl
          | true =>
            rw [firstLt_yes (e := fun j => match j with | 0 => true | j + 1 => f j) rfl, firstLt_shift]
            show _ = firstLt f g _ _
            simp
end
end
end Ev

/-! Comparisons, truth, // % ** by the evaluator. -/
namespace Ev
open PySem PySem.Spec PyProof.Rows L2 PySem.SeqAt
variable {K : PySem.W.Frag} {fa ct : Nat → Option Addr} {F : Addr → Prop} {H : Hp} {X : Cx}
theorem out_cmp {F0 : Addr → Prop} {L : List Addr} {S : Sto} {o : Cop} {a b : MV} {Q : VK} {E : XK} (rs : RepS K fa F0 L S H) (h : Out K fa ct F0 L S H (oE (cmpM o a b) S) Q E) : ∃ r, cmpB o a b = some r ∧ Q (.bl r) H := by
  obtain ⟨m, e, h⟩ := out_oE h
  unfold cmpM at e
  obtain ⟨r, e1, e2⟩ := oR_eq e
  cases e2
  exact ⟨r, e1, Out.here rs h (.bl r)⟩
section
variable (hu : X.A.units + 64 < cLine)
include hu
theorem or_eq : OpR X (compareOp .Eq) (rC X.K fa ct .eq) := by
  intro pins s σ H x y v u Q I rx ry ⟨F0, L, S, a, b, rs, pa, pb, h⟩
  obtain ⟨r, e, q⟩ := out_cmp rs h
  exact rcAt_F I a 60 X.A (by omega) b x y v u r e pa pb rx ry _ _ _ _ ⟨.bl r, H, I, rfl, q⟩
theorem or_ne : OpR X (compareOp .NotEq) (rC X.K fa ct .ne) := by
  intro pins s σ H x y v u Q I rx ry ⟨F0, L, S, a, b, rs, pa, pb, h⟩
  obtain ⟨r, e, q⟩ := out_cmp rs h
  have e : notO (eqM a b) = some r := e
  obtain ⟨r', e1, e2⟩ := oR_eq e
  cases e2
  rw [notB_eq] at q
  exact rcNe_F I a 60 X.A (by omega) b x y v u r' e1 pa pb rx ry _ _ _ _ ⟨.bl _, H, I, rfl, q⟩
theorem or_lt : OpR X (compareOp .Lt) (rC X.K fa ct .lt) := by
  intro pins s σ H x y v u Q I rx ry ⟨F0, L, S, a, b, rs, pa, pb, h⟩
  obtain ⟨r, e, q⟩ := out_cmp rs h
  exact rcLt_F I a 60 X.A (by omega) b x y v u r e pa pb rx ry _ _ _ _ ⟨.bl r, H, I, rfl, q⟩
end
theorem leM_some {a b : MV} {r : Bool} (h : leM a b = some r) : ∃ i j, a = .int i ∧ b = .int j ∧ r = decide (i ≤ j) := by
  cases a with
  | int i => cases b with
    | int j => cases h; exact ⟨i, j, rfl, rfl, leB_dec i j⟩
    | _ => cases h
  | _ => cases h
theorem gtM_some {a b : MV} {r : Bool} (h : gtM a b = some r) : ∃ i j, a = .int i ∧ b = .int j ∧ r = decide (j < i) := by
  cases a with
  | int i => cases b with
    | int j => cases h; exact ⟨i, j, rfl, rfl, ltB_dec j i⟩
    | _ => cases h
  | _ => cases h
theorem or_le : OpR X (compareOp .LtE) (rC X.K fa ct .le) := by
  intro pins s σ H x y v u Q I rx ry ⟨F0, L, S, a, b, rs, pa, pb, h⟩
  obtain ⟨r, e, q⟩ := out_cmp rs h
  obtain ⟨i, j, rfl, rfl, rfl⟩ := leM_some e
  obtain rfl := pa.int
  obtain rfl := pb.int
  exact op_le pins s σ H _ _ v u Q I rx ry ⟨i, j, rfl, rfl, q⟩
theorem or_ge : OpR X (compareOp .GtE) (rC X.K fa ct .ge) := by
  intro pins s σ H x y v u Q I rx ry ⟨F0, L, S, a, b, rs, pa, pb, h⟩
  obtain ⟨r, e, q⟩ := out_cmp rs h
  obtain ⟨i, j, rfl, rfl, rfl⟩ := leM_some e
  obtain rfl := pa.int
  obtain rfl := pb.int
  exact op_ge pins s σ H _ _ v u Q I rx ry ⟨j, i, rfl, rfl, q⟩
theorem or_gt : OpR X (compareOp .Gt) (rC X.K fa ct .gt) := by
  intro pins s σ H x y v u Q I rx ry ⟨F0, L, S, a, b, rs, pa, pb, h⟩
  obtain ⟨r, e, q⟩ := out_cmp rs h
  obtain ⟨i, j, rfl, rfl, rfl⟩ := gtM_some e
  obtain rfl := pa.int
  obtain rfl := pb.int
  exact op_gt pins s σ H _ _ v u Q I rx ry ⟨i, j, rfl, rfl, q⟩
theorem inL_cons (x y : MV) (ys : List MV) : inL x (y :: ys) = oR (eqM y x) none fun r => oR (inL x ys) none fun q => some (bR r true q) := rfl
/-- each item beside x -/
theorem inL_at {pins : List (Addr × Obj)} {σ : L2.St} {s : Shared} (I : L2.Inv X pins σ H s) {A : Around} (hu : A.units + 60 < cLine) {x : MV} {xv : V} {xu : Value} (px : Pv X.K fa F H x xv) (rx : RelV xv xu) : ∀ {ms : List MV} {vs : List V} {us : List Value} {r : Bool},
    inL x ms = some r → Rvs X.K fa F H ms vs → Vals vs us → ∃ R : Nat → Bool, (∀ j (h : j < us.length), EqAt A s us[j] xu (R j)) ∧ (r = true ↔ ∃ j, j < us.length ∧ R j = true)
  | [], _, us, r, e, ra, rv => by
    cases ra
    cases rv
    cases e
    exact ⟨fun _ => false, fun j h => absurd h (Nat.not_lt_zero j), ⟨fun h => (by cases h), fun ⟨_, h, _⟩ => absurd h (Nat.not_lt_zero _)⟩⟩
  | m :: ms, _, us, r, e, .cons ra ras, rv => by
    cases rv with
    | cons rv rvs =>
      rw [inL_cons] at e
      obtain ⟨r0, e0, e⟩ := oR_eq e
      obtain ⟨r1, e1, e⟩ := oR_eq e
      have h0 := eqAt_F I m 60 A hu x _ _ _ _ r0 e0 ra.pv px rv rx
      obtain ⟨R, hR, hr⟩ := inL_at I hu px rx e1 ras rvs
      refine ⟨fun j => match j with | 0 => r0 | j + 1 => R j, fun j h => ?_, ?_⟩
      · cases j with
        | zero => exact h0
        | succ j => simpa using hR j (by simpa using h)
      · cases e
        cases r0 with
        | true => exact ⟨fun _ => ⟨0, by simp, rfl⟩, fun _ => rfl⟩
        | false =>
          show r1 = true ↔ _
          rw [hr]
          constructor
          · rintro ⟨j, h1, h2⟩; exact ⟨j + 1, by simpa using h1, h2⟩
          · rintro ⟨j, h1, h2⟩
            cases j with
            | zero => cases h2
            | succ j => exact ⟨j, by simpa using h1, h2⟩
open Classical in
theorem any_of {A : Around} {s : Shared} {us : List Value} {xu : Value} {R : Nat → Bool} (hR : ∀ j (h : j < us.length), EqAt A s us[j] xu (R j)) {r : Bool} (hr : r = true ↔ ∃ j, j < us.length ∧ R j = true) :
    ∃ e : Value → Bool, (∀ y, y ∈ us.toArray → EqAt A s y xu (e y)) ∧ us.any e = r := by
  refine ⟨fun y => decide (∃ j, us[j]? = some y ∧ R j = true), fun y hy => ?_, ?_⟩
  · obtain ⟨j, hj, e⟩ := List.mem_iff_getElem.mp (List.mem_toArray.mp hy)
    by_cases h : ∃ j, us[j]? = some y ∧ R j = true
    · show EqAt A s y xu (decide _)
      rw [decide_eq_true h]
      obtain ⟨j, h1, h2⟩ := h
      obtain ⟨hj, e⟩ := List.getElem?_eq_some_iff.mp h1
      have := hR j hj
      rw [e, h2] at this
      exact this
    · show EqAt A s y xu (decide _)
      rw [decide_eq_false h]
      have := hR j hj
      rw [e] at this
      have hf : R j = false := by
        cases q : R j with
        | false => rfl
        | true => exact absurd ⟨j, by rw [List.getElem?_eq_getElem hj, e], q⟩ h
      rw [hf] at this
      exact this
  · rw [Bool.eq_iff_iff, List.any_eq_true, hr]
    constructor
    · rintro ⟨y, hy, h⟩
      obtain ⟨j, h1, h2⟩ := of_decide_eq_true h
      obtain ⟨hj, _⟩ := List.getElem?_eq_some_iff.mp h1
      exact ⟨j, hj, h2⟩
    · rintro ⟨j, hj, h2⟩
      exact ⟨us[j], List.getElem_mem hj, decide_eq_true ⟨j, List.getElem?_eq_getElem hj, h2⟩⟩
section
variable (hu : X.A.units + 64 < cLine)
include hu
theorem or_in : OpR X (compareOp .In) (rC X.K fa ct .isin) := by
  intro pins s σ H x y v u Q I rx ry ⟨F0, L, S, a, b, rs, pa, pb, h⟩
  obtain ⟨r, e, q⟩ := out_cmp rs h
  have e : inM a b = some r := e
  cases b with
  | tup ms =>
    obtain ⟨p, xs, rfl, ta, ra⟩ := pb.tup
    cases ry
    obtain ⟨its, rv, hl⟩ := isTupI I ta.sq
    obtain ⟨R, hR, hr⟩ := inL_at I (A := X.A.in1) (by show X.A.units + 1 + 60 < cLine; omega) pa rx e ra rv
    obtain ⟨f, hf, hany⟩ := any_of hR hr
    exact in_tupleAt f hl hf ⟨.bl r, H, I, by show Value.bool _ = Value.bool _; rw [← hany]; simp, q⟩
  | lst ms =>
    obtain ⟨p, xs, rfl, ta, ra⟩ := pb.lst
    cases ry
    obtain ⟨its, rv, hl⟩ := isLstI I (.inl (.inl ta))
    obtain ⟨R, hR, hr⟩ := inL_at I (A := X.A.in1) (by show X.A.units + 1 + 60 < cLine; omega) pa rx e ra rv
    obtain ⟨f, hf, hany⟩ := any_of hR hr
    exact in_listAt f hl hf ⟨.bl r, H, I, by show Value.bool _ = Value.bool _; rw [← hany]; simp, q⟩
  | dct ks vs => exact (pb.dct).elim
  | _ => cases e
theorem or_notin : OpR X (compareOp .NotIn) (rC X.K fa ct .notin) := by
  intro pins s σ H x y v u Q I rx ry ⟨F0, L, S, a, b, rs, pa, pb, h⟩
  obtain ⟨r0, e, q⟩ := out_cmp rs h
  have e : notO (inM a b) = some r0 := e
  obtain ⟨r, e1, e2⟩ := oR_eq e
  cases e2
  rw [notB_eq] at q
  clear e
  have e : inM a b = some r := e1
  cases b with
  | tup ms =>
    obtain ⟨p, xs, rfl, ta, ra⟩ := pb.tup
    cases ry
    obtain ⟨its, rv, hl⟩ := isTupI I ta.sq
    obtain ⟨R, hR, hr⟩ := inL_at I (A := X.A.in1) (by show X.A.units + 1 + 60 < cLine; omega) pa rx e ra rv
    obtain ⟨f, hf, hany⟩ := any_of hR hr
    exact notIn_tupleAt f hl hf ⟨.bl _, H, I, by show Value.bool _ = Value.bool _; rw [← hany]; simp, q⟩
  | lst ms =>
    obtain ⟨p, xs, rfl, ta, ra⟩ := pb.lst
    cases ry
    obtain ⟨its, rv, hl⟩ := isLstI I (.inl (.inl ta))
    obtain ⟨R, hR, hr⟩ := inL_at I (A := X.A.in1) (by show X.A.units + 1 + 60 < cLine; omega) pa rx e ra rv
    obtain ⟨f, hf, hany⟩ := any_of hR hr
    exact notIn_listAt f hl hf ⟨.bl _, H, I, by show Value.bool _ = Value.bool _; rw [← hany]; simp, q⟩
  | dct ks vs => exact (pb.dct).elim
  | _ => cases e
end
/-- truth -/
theorem tru_of {m : MV} {x : V} {k : Bool} (p : Pv X.K fa F H m x) (e : truM m = some k) : TruV X.K x H k := by
  cases m with
  | non => obtain rfl := p.non; cases e; rfl
  | bl b => obtain rfl := p.bl; cases e; rfl
  | int i =>
    obtain rfl := p.int
    cases e
    show notB (eqB i 0) = (i != 0)
    rw [notB_eq, eqB_dec, bne, Bool.beq_eq_decide_eq]
  | str s =>
    have hl := p.strLen
    obtain rfl := p.str
    cases s with
    | nil => cases e; exact ⟨Nat.zero_le _, rfl⟩
    | cons a t =>
      cases e
      refine ⟨by have := million hl; simpa [Str.length] using this, ?_⟩
      show true = _
      symm
      rw [bne_iff_ne]
      simp [Str.length]
      omega
  | tup ms =>
    obtain ⟨a, xs, rfl, ta, ra⟩ := p.tup
    refine .inr (.inl ⟨xs, ta.sq, ?_⟩)
    cases ra <;> (cases e; rfl)
  | lst ms =>
    obtain ⟨a, xs, rfl, ta, ra⟩ := p.lst
    refine .inl ⟨xs, .inl (.inl ta), ?_⟩
    cases ra <;> (cases e; rfl)
  | dct ks vs => exact (p.dct).elim
  | fn i => cases e
theorem or_fdiv : OpR X (binaryOp .FloorDiv) (rB X.K fa ct .fdiv) := by
  intro pins s σ H x y v u Q I rx ry ⟨F0, L, S, a, b, rs, pa, pb, h⟩
  obtain ⟨m, e, h⟩ := out_oE h
  have e : fdivM a b = some m := e
  cases a with
  | int i =>
    cases b with
    | int j =>
      have e : bR (ltB 0 j) (bR (ltB j 1073741824) (some (MV.int (Int.ediv i j))) none) none = some m := e
      obtain ⟨h0, e⟩ := bR_some e
      obtain ⟨h1, e⟩ := bR_some e
      cases e
      obtain rfl := pa.int
      obtain rfl := pb.int
      exact op_fdiv pins s σ H _ _ v u Q I rx ry ⟨i, j, rfl, rfl, ⟨(ltB_iff _ _).mp h0, (ltB_iff _ _).mp h1⟩, Out.here rs h (.int _)⟩
    | _ => cases e
  | _ => cases e
theorem or_mod : OpR X (binaryOp .Mod) (rB X.K fa ct .mod) := by
  intro pins s σ H x y v u Q I rx ry ⟨F0, L, S, a, b, rs, pa, pb, h⟩
  obtain ⟨m, e, h⟩ := out_oE h
  have e : modM a b = some m := e
  cases a with
  | int i =>
    cases b with
    | int j =>
      have e : bR (ltB 0 j) (some (MV.int (Int.emod i j))) none = some m := e
      obtain ⟨h0, e⟩ := bR_some e
      cases e
      obtain rfl := pa.int
      obtain rfl := pb.int
      exact op_mod pins s σ H _ _ v u Q I rx ry ⟨i, j, rfl, rfl, (ltB_iff _ _).mp h0, Out.here rs h (.int _)⟩
    | _ => cases e
  | _ => cases e
theorem or_pow : OpR X (binaryOp .Pow) (rB X.K fa ct .pow) := by
  intro pins s σ H x y v u Q I rx ry ⟨F0, L, S, a, b, rs, pa, pb, h⟩
  obtain ⟨m, e, h⟩ := out_oE h
  have e : powM a b = some m := e
  cases a with
  | int i =>
    cases b with
    | int j =>
      have e : bR (leB 0 j) (bR (leB j 1000) (bR (small i) (some (MV.int (Int.pow i j.toNat))) none) none) none = some m := e
      obtain ⟨h0, e⟩ := bR_some e
      obtain ⟨h1, e⟩ := bR_some e
      obtain ⟨h2, e⟩ := bR_some e
      cases e
      obtain rfl := pa.int
      obtain rfl := pb.int
      have a0 := (leB_iff _ _).mp h0
      have a1 := (leB_iff _ _).mp h1
      have a2 := small_iff h2
      exact op_pow pins s σ H _ _ v u Q I rx ry ⟨i, j, rfl, rfl, ⟨a0, by omega, by omega⟩, Out.here rs h (.int _)⟩
    | _ => cases e
  | _ => cases e
end Ev

/-! The rules of expressions, read by the evaluator. -/
namespace Ev
open PySem PySem.Spec PyProof.Rows L2
variable {X : Cx} {fa ct : Nat → Option Addr} {W : WX} {C : Cfg}
/-- what holds of the frame while it runs -/
structure Cn (X : Cx) (W : WX) (k : Nat) : Prop where
  calm : X.calm = true
  nd : X.N.Nodup
  room : Room k X.A
  po : PassesOwn (model X.prog X.w) X.A X.env X.xe
  tk : Takes X W
theorem Cn.un {k : Nat} (c : Cn X W k) : X.A.units + 64 < cLine := c.room.units
theorem pe_imp {e : Expr} {t t' : TE} (h : PE X e t) (i : ∀ σ H Q, t' σ H Q → t σ H Q) : PE X e t' := ⟨fun pins s σ H Q I q => h.run pins s σ H Q I (i σ H Q q)⟩
theorem pt_imp {e : Expr} {t t' : TT} (h : PT X e t) (i : ∀ σ H Q, t' σ H Q → t σ H Q) : PT X e t' := ⟨fun pins s σ H Q I q => h.run pins s σ H Q I (i σ H Q q)⟩
theorem pw_imp {e : Expr} {t t' : TT} (h : PW X e t) (i : ∀ σ H Q, t' σ H Q → t σ H Q) : PW X e t' := ⟨fun wh pins s σ H Q I q => h.run wh pins s σ H Q I (i σ H Q q)⟩
theorem pa_imp {e : List Expr} {t t' : TA} (h : PA X e t) (i : ∀ σ H Q, t' σ H Q → t σ H Q) : PA X e t' := ⟨fun pos pins s σ H Q I q => h.run pos pins s σ H Q I (i σ H Q q)⟩
section
variable (K : PySem.W.Frag) (fa ct : Nat → Option Addr) (W : WX)
/-- an argument list's reading -/
def tA (f : FA) : TA := fun σ H Q => ∃ F0 L σm S, RepS K fa F0 L S H ∧ Sl K fa F0 L S H σm σ ∧ OutA K fa ct F0 L S H (f σm S) Q (fun c d H' => W c d σ H')
/-- behind one value -/
def tK1 (k : List SV → SV → Sto → RE) (σ : L2.St) (x : V) (H : Hp) (Q : VK) : Prop := ∃ F0 L σm S s, RepS K fa F0 L S H ∧ Sl K fa F0 L S H σm σ ∧ RepV K fa F0 L S H s x ∧ Out K fa ct F0 L S H (k σm s S) Q (fun c d H' => W c d σ H')
/-- behind two -/
def tK2 (k : List SV → SV → SV → Sto → RE) (σ : L2.St) (x y : V) (H : Hp) (Q : VK) : Prop := ∃ F0 L σm S s t, RepS K fa F0 L S H ∧ Sl K fa F0 L S H σm σ ∧ RepV K fa F0 L S H s x ∧ RepV K fa F0 L S H t y ∧ Out K fa ct F0 L S H (k σm s t S) Q (fun c d H' => W c d σ H')
def tKA (k : List SV → List SV → Sto → RE) (σ : L2.St) (xs : List V) (H : Hp) (Q : VK) : Prop := ∃ F0 L σm S s, RepS K fa F0 L S H ∧ Sl K fa F0 L S H σm σ ∧ RepVs K fa F0 L S H s xs ∧ Out K fa ct F0 L S H (k σm s S) Q (fun c d H' => W c d σ H')
end
section
variable {K : PySem.W.Frag} {σ : L2.St} {H : Hp} {Q : VK}
theorem tE_1 {f : FE} {k : List SV → SV → Sto → RE} (h : tE K fa ct (fun σ S => bE (f σ S) (k σ)) W σ H Q) : tE K fa ct f W σ H fun x H1 => tK1 K fa ct W k σ x H1 Q := by
  obtain ⟨F0, L, σm, S, rs, sl, o⟩ := h
  exact ⟨F0, L, σm, S, rs, sl, (out_bE o).mono (fun x H1 ⟨L1, S1, s, ex, r1, v1, o1⟩ => ⟨F0, L1, σm, S1, s, r1, sl.ex ex, v1, o1⟩) fun _ _ _ h => h⟩
theorem tK1_2 {g : FE} {k : List SV → SV → SV → Sto → RE} {x : V} (h : tK1 K fa ct W (fun σ s S => bE (g σ S) (k σ s)) σ x H Q) : tE K fa ct g W σ H fun y H1 => tK2 K fa ct W k σ x y H1 Q := by
  obtain ⟨F0, L, σm, S, s, rs, sl, v, o⟩ := h
  exact ⟨F0, L, σm, S, rs, sl, (out_bE o).mono (fun y H1 ⟨L1, S1, t, ex, r1, v1, o1⟩ => ⟨F0, L1, σm, S1, s, t, r1, sl.ex ex, v.ex ex, v1, o1⟩) fun _ _ _ h => h⟩
theorem tE_A {f : FA} {k : List SV → List SV → Sto → RE} (h : tE K fa ct (fun σ S => bA (f σ S) (k σ)) W σ H Q) : tA K fa ct W f σ H fun x H1 => tKA K fa ct W k σ x H1 Q := by
  obtain ⟨F0, L, σm, S, rs, sl, o⟩ := h
  exact ⟨F0, L, σm, S, rs, sl, (out_bA o).mono (fun x H1 ⟨L1, S1, s, ex, r1, v1, o1⟩ => ⟨F0, L1, σm, S1, s, r1, sl.ex ex, v1, o1⟩) fun _ _ _ h => h⟩
end
/-! names and constants -/
theorem ev_var {i : Nat} {x : Str} {pos : Pos} (hN : X.N[i]? = some x) (hv : Vis X.env.scope x) (hd : (x == ("__debug__" : Str)) = false := by decide) (hcd : (x == ("__classdict__" : Str)) = false := by decide) : PE X (.Name x pos) (tE X.K fa ct (evE C (.var i)) W) := by
  refine pe_imp (pe_var hN hv hd hcd) fun σ H Q ⟨F0, L, σm, S, rs, sl, o⟩ => ?_
  have o : Out X.K fa ct F0 L S H (oR (getL σm i) .bad fun s => @SV.rec (fun _ => RE) .bad (fun m => .val (.v m) S) (fun k => oR (S.get k) .bad fun _ => .val (.r k) S) s) Q _ := o
  obtain ⟨s, es, o⟩ := out_oR o
  rw [getL_eq] at es
  rcases sl.at_ i s es with rfl | ⟨x, hx, rx⟩
  · exact False.elim o
  · refine ⟨x, hx, ?_⟩
    cases s with
    | u => exact False.elim o
    | v m => exact o L H x .refl rs rx
    | r k =>
      obtain ⟨_, _, o⟩ := out_oR (show Out X.K fa ct F0 L S H (oR (S.get k) .bad fun _ => .val (.r k) S) Q _ from o)
      exact o L H x .refl rs rx
theorem ev_lit_int {i : Int} {j : Nat} {pos : Pos} : PE X (.Constant (.int i) j pos) (tE X.K fa ct (evE C (.lit (.int i))) W) :=
  pe_imp pe_int fun σ H Q ⟨F0, L, σm, S, rs, sl, o⟩ => Out.here rs o (.int i)
theorem ev_lit_bl {i : Bool} {j : Nat} {pos : Pos} : PE X (.Constant (.bool i) j pos) (tE X.K fa ct (evE C (.lit (.bl i))) W) :=
  pe_imp pe_bl fun σ H Q ⟨F0, L, σm, S, rs, sl, o⟩ => Out.here rs o (.bl i)
theorem ev_lit_non {j : Nat} {pos : Pos} : PE X (.Constant .none j pos) (tE X.K fa ct (evE C (.lit .non)) W) :=
  pe_imp pe_non fun σ H Q ⟨F0, L, σm, S, rs, sl, o⟩ => Out.here rs o .non
theorem ev_lit_str {z : Str} {s : List Nat} {j : Nat} {pos : Pos} (hz : z = ⟨s.toArray⟩ := by rfl) (hl : s.length ≤ 1000000 := by decide) : PE X (.Constant (.str z) j pos) (tE X.K fa ct (evE C (.lit (.str s))) W) := by
  subst hz
  exact pe_imp pe_str fun σ H Q ⟨F0, L, σm, S, rs, sl, o⟩ => Out.here rs o (.str s hl)
/-- a module's value -/
def GlobAt (K : PySem.W.Frag) (mg : Str → Option Value) (fa : Nat → Option Addr) (x : Str) (m : MV) : Prop := ∃ u v, mg x = some u ∧ RelV v u ∧ ∀ F H, Rv K fa F H m v
theorem ev_glob {g : Nat} {m : MV} {x : Str} {pos : Pos} (h : GlobAt X.K X.mg fa x m) (e : getL C.globs g = some m) (hg : Gl X x) (hd : (x == ("__debug__" : Str)) = false := by decide) : PE X (.Name x pos) (tE X.K fa ct (evE C (.glob g)) W) := by
  obtain ⟨u, v, h1, h2, h3⟩ := h
  refine pe_imp (pe_glob hg h1 h2 hd) fun σ H Q ⟨F0, L, σm, S, rs, sl, o⟩ => ?_
  have o : Out X.K fa ct F0 L S H (oE (getL C.globs g) S) Q _ := o
  rw [e] at o
  exact Out.here rs o (h3 _ _)
theorem ev_fn {i : Nat} {x : Str} {pos : Pos} (h : GlobAt X.K X.mg fa x (.fn i)) (hg : Gl X x) (hd : (x == ("__debug__" : Str)) = false := by decide) : PE X (.Name x pos) (tE X.K fa ct (evE C (.lit (.fn i))) W) := by
  obtain ⟨u, v, h1, h2, h3⟩ := h
  exact pe_imp (pe_glob hg h1 h2 hd) fun σ H Q ⟨F0, L, σm, S, rs, sl, o⟩ => Out.here rs o (h3 _ _)
/-! operators -/
section
variable {a b c e : Expr} {ea eb ec : E} {pos : Pos}
theorem ev_bin {op : Operator} {o : Bop} (ho : OpR X (binaryOp op) (rB X.K fa ct o)) (ha : PE X a (tE X.K fa ct (evE C ea) W)) (hb : PE X b (tE X.K fa ct (evE C eb) W)) : PE X (.BinOp a op b pos) (tE X.K fa ct (evE C (.bin o ea eb)) W) := by
  refine pe_imp (pe_op ho ha hb) fun σ H Q h => ?_
  have h : tE X.K fa ct (fun σ S => bE (evE C ea σ S) fun x S1 => bE (evE C eb σ S1) fun y S2 => pk S2 x fun a => pk S2 y fun b => oE (binM o a b) S2) W σ H Q := h
  obtain ⟨F0, L, σm, S, rs, sl, h⟩ := tE_1 h
  refine ⟨F0, L, σm, S, rs, sl, h.mono (fun x H1 h1 => ?_) fun _ _ _ h => h⟩
  obtain ⟨F0, L, σm, S, rs, sl, h⟩ := tK1_2 h1
  refine ⟨F0, L, σm, S, rs, sl, h.mono (fun y H2 h2 => ?_) fun _ _ _ h => h⟩
  obtain ⟨F0, L, σm, S, s, t, rs, sl, v1, v2, h⟩ := h2
  obtain ⟨m, e1, h⟩ := out_pk h
  obtain ⟨n, e2, h⟩ := out_pk h
  exact ⟨F0, L, S, m, n, rs, peek_pv rs v1 e1, peek_pv rs v2 e2, h.any⟩
theorem cmp_reads {o : Cop} {σ : L2.St} {H : Hp} {Q : VK} {K : PySem.W.Frag} (h : tE K fa ct (evE C (.cmp o ea eb)) W σ H Q) : tOp (rC K fa ct o) (tE K fa ct (evE C ea) W) (tE K fa ct (evE C eb) W) σ H Q := by
  have h : tE K fa ct (fun σ S => bE (evE C ea σ S) fun x S1 => bE (evE C eb σ S1) fun y S2 => pk S2 x fun a => pk S2 y fun b => oE (cmpM o a b) S2) W σ H Q := h
  obtain ⟨F0, L, σm, S, rs, sl, h⟩ := tE_1 h
  refine ⟨F0, L, σm, S, rs, sl, h.mono (fun x H1 h1 => ?_) fun _ _ _ h => h⟩
  obtain ⟨F0, L, σm, S, rs, sl, h⟩ := tK1_2 h1
  refine ⟨F0, L, σm, S, rs, sl, h.mono (fun y H2 h2 => ?_) fun _ _ _ h => h⟩
  obtain ⟨F0, L, σm, S, s, t, rs, sl, v1, v2, h⟩ := h2
  obtain ⟨m, e1, h⟩ := out_pk h
  obtain ⟨n, e2, h⟩ := out_pk h
  exact ⟨F0, L, S, m, n, rs, peek_pv rs v1 e1, peek_pv rs v2 e2, h.any⟩
theorem ev_cmp {op : CmpOp} {o : Cop} (ho : OpR X (compareOp op) (rC X.K fa ct o)) (ha : PE X a (tE X.K fa ct (evE C ea) W)) (hb : PE X b (tE X.K fa ct (evE C eb) W)) (hm : behindInMarks op b = false := by rfl) : PE X (.Compare a [op] [b] pos) (tE X.K fa ct (evE C (.cmp o ea eb)) W) :=
  pe_imp (pe_cmpR ho ha hb hm) fun _ _ _ => cmp_reads
/-- a test's reading -/
noncomputable def xTru (f : FE) : FE := fun σ S => bE (f σ S) fun x S1 => tru S1 x fun b => .val (.v (.bl b)) S1
def tT (K : PySem.W.Frag) (fa ct : Nat → Option Addr) (f : FE) (W : WX) : TT := fun σ H Q => tE K fa ct (xTru f) W σ H fun x H1 => ∃ k, x = .bl k ∧ Q k H1
section
variable {F0 : Addr → Prop} {L : List Addr} {S : Sto} {H : Hp} {Q : VK} {E : XK} {K : PySem.W.Frag}
theorem out_tru {s : SV} {k : Bool → RE} (h : Out K fa ct F0 L S H (tru S s k) Q E) : ∃ m b, peek S s = some m ∧ truM m = some b ∧ Out K fa ct F0 L S H (k b) Q E := by
  obtain ⟨m, e, h⟩ := out_pk h
  obtain ⟨b, e', h⟩ := out_oR h
  exact ⟨m, b, e, e', h⟩
theorem tru_at {s : SV} {m : MV} {b : Bool} (e : peek S s = some m) (e' : truM m = some b) (k : Bool → RE) : tru S s k = k b := by
  show oR (peek S s) .bad (fun a => oR (truM a) .bad k) = k b
  rw [e]
  show oR (truM m) .bad k = k b
  rw [e']
  rfl
theorem bE_bE (r : RE) (f g : SV → Sto → RE) : bE (bE r f) g = bE r fun x S => bE (f x S) g := by cases r <;> rfl
theorem out_blT {r : RE} (h : Out K fa ct F0 L S H (bE r fun x S1 => tru S1 x fun b => .val (.v (.bl b)) S1) Q E) (hb : ∀ s S', r = .val s S' → ∃ b, s = .v (.bl b)) : Out K fa ct F0 L S H r Q E := by
  cases r with
  | bad => exact h
  | exc c as S' => exact h
  | val s S' =>
    obtain ⟨b, rfl⟩ := hb s S' rfl
    exact h
end
theorem oE_bl {o : Option Bool} {S S' : Sto} {s : SV} (h : oE (oR o none fun r => some (.bl r)) S = .val s S') : ∃ b, s = .v (.bl b) := by
  cases o with
  | none => cases h
  | some b => exact ⟨b, by injection h with h1 h2; exact h1.symm⟩
/-- a comparison as a test -/
theorem cmp_bl (o : Cop) (f g : FE) (σ : List SV) (S : Sto) : ∀ s S', xCmp o f g σ S = .val s S' → ∃ b, s = .v (.bl b) := fun s S' h => by
  have h : bE (f σ S) (fun x S1 => bE (g σ S1) fun y S2 => pk S2 x fun a => pk S2 y fun b => oE (cmpM o a b) S2) = .val s S' := h
  cases q : f σ S with
  | bad => rw [q] at h; cases h
  | exc c as S1 => rw [q] at h; cases h
  | val x S1 =>
    rw [q] at h
    have h : bE (g σ S1) (fun y S2 => pk S2 x fun a => pk S2 y fun b => oE (cmpM o a b) S2) = .val s S' := h
    cases q2 : g σ S1 with
    | bad => rw [q2] at h; cases h
    | exc c as S2 => rw [q2] at h; cases h
    | val y S2 =>
      rw [q2] at h
      have h : oR (peek S2 x) .bad (fun a => oR (peek S2 y) .bad fun b => oE (cmpM o a b) S2) = .val s S' := h
      cases q3 : peek S2 x with
      | none => rw [q3] at h; cases h
      | some m =>
        rw [q3] at h
        have h : oR (peek S2 y) .bad (fun b => oE (cmpM o m b) S2) = .val s S' := h
        cases q4 : peek S2 y with
        | none => rw [q4] at h; cases h
        | some n =>
          rw [q4] at h
          exact oE_bl h
theorem et_cmp {op : CmpOp} {o : Cop} (ho : OpR X (compareOp op) (rC X.K fa ct o)) (ha : PE X a (tE X.K fa ct (evE C ea) W)) (hb : PE X b (tE X.K fa ct (evE C eb) W)) (hm : behindInMarks op b = false := by rfl) : PT X (.Compare a [op] [b] pos) (tT X.K fa ct (evE C (.cmp o ea eb)) W) :=
  pt_imp (pt_cmpR ho ha hb hm) fun σ H Q ⟨F0, L, σm, S, rs, sl, h⟩ => cmp_reads ⟨F0, L, σm, S, rs, sl, out_blT h (cmp_bl _ _ _ _ _)⟩
theorem et_val (ha : PE X a (tE X.K fa ct (evE C ea) W)) (he : ∀ whole, PySem.isTrue a X.env whole = (do let v ← whole; standAt a.pos; holding [v] (truthy v)) := by intro _; rfl) : PT X a (tT X.K fa ct (evE C ea) W) := by
  refine pt_imp (pt_truth ha he) fun σ H Q h => ?_
  obtain ⟨F0, L, σm, S, rs, sl, h⟩ := tE_1 (k := fun _ x S1 => tru S1 x fun b => .val (.v (.bl b)) S1) h
  refine ⟨F0, L, σm, S, rs, sl, h.mono (fun x H1 h1 => ?_) fun _ _ _ h => h⟩
  obtain ⟨F0, L, σm, S, s, rs, sl, v, h⟩ := h1
  obtain ⟨m, b, e1, e2, h⟩ := out_tru h
  obtain ⟨k, ek, q⟩ := Out.here rs h (.bl b)
  cases ek
  exact ⟨b, tru_of (peek_pv rs v e1) e2, q⟩
/-! not, and, or -/
section
variable {F0 : Addr → Prop} {L : List Addr} {S : Sto} {H : Hp} {Q : VK} {E : XK} {K : PySem.W.Frag} {σ : L2.St} {rest : List Expr} {f g : FE}
/-- a test, then what comes behind its truth -/
theorem tT_k {k : List SV → Bool → SV → Sto → RE} (h : tE K fa ct (fun σ S => bE (f σ S) fun x S1 => tru S1 x fun b => k σ b x S1) W σ H Q) :
    tT K fa ct f W σ H fun b H1 => ∃ F0 L σm S s m, RepS K fa F0 L S H1 ∧ Sl K fa F0 L S H1 σm σ ∧ peek S s = some m ∧ truM m = some b ∧ Out K fa ct F0 L S H1 (k σm b s S) Q (fun c d H' => W c d σ H') := by
  obtain ⟨F0, L, σm, S, rs, sl, o⟩ := h
  refine ⟨F0, L, σm, S, rs, sl, ?_⟩
  have o : Out K fa ct F0 L S H (bE (f σm S) fun x S1 => tru S1 x fun b => k σm b x S1) Q (fun c d H' => W c d σ H') := o
  cases q : f σm S with
  | bad => rw [q] at o; exact False.elim o
  | exc c as S' =>
    rw [q] at o
    have z : xTru f σm S = .exc c as S' := by unfold xTru; rw [q]; rfl
    rw [z]
    exact o
  | val s S' =>
    rw [q] at o
    have z : xTru f σm S = tru S' s fun b => .val (.v (.bl b)) S' := by unfold xTru; rw [q]; rfl
    rw [z]
    have o : Out K fa ct F0 L S H (tru S' s fun b => k σm b s S') Q _ := o
    cases e : peek S' s with
    | none =>
      have z : (tru S' s fun b => k σm b s S') = RE.bad := by show oR (peek S' s) RE.bad _ = _; rw [e]; rfl
      rw [z] at o; exact False.elim o
    | some m =>
      cases e' : truM m with
      | none =>
        have z : (tru S' s fun b => k σm b s S') = RE.bad := by
          show oR (peek S' s) RE.bad _ = _
          rw [e]
          show oR (truM m) RE.bad _ = _
          rw [e']; rfl
        rw [z] at o; exact False.elim o
      | some b =>
        rw [tru_at e e'] at o ⊢
        intro L' H' x ex r1 v1
        cases v1
        exact ⟨b, rfl, F0, L', σm, S', s, m, r1, sl.ex ex, e, e', o.from ex⟩
theorem bl_here {b : Bool} (rs : RepS K fa F0 L S H) (h : Out K fa ct F0 L S H (.val (.v (.bl b)) S) Q E) : Q (.bl b) H := Out.here rs h (.bl b)
theorem tT_reads_not {Q : Bool → Hp → Prop} (h : tT K fa ct (evE C (.not ea)) W σ H Q) : tT K fa ct (evE C ea) W σ H fun c H1 => Q (!c) H1 := by
  have h : tE K fa ct (fun σ S => bE (bE (evE C ea σ S) fun x S1 => tru S1 x fun b => .val (.v (.bl (notB b))) S1) fun x S1 => tru S1 x fun b => .val (.v (.bl b)) S1) W σ H _ := h
  have h : tE K fa ct (fun σ S => bE (evE C ea σ S) fun x S1 => tru S1 x fun b => .val (.v (.bl (notB b))) S1) W σ H fun x H1 => ∃ k, x = .bl k ∧ Q k H1 := by
    obtain ⟨F0, L, σm, S, rs, sl, o⟩ := h
    refine ⟨F0, L, σm, S, rs, sl, out_blT o ?_⟩
    intro s S' z
    dsimp only at z
    cases q : evE C ea σm S with
    | bad => rw [q] at z; cases z
    | exc c as S1 => rw [q] at z; cases z
    | val x S1 =>
      rw [q] at z
      have z : oR (peek S1 x) RE.bad (fun a => oR (truM a) RE.bad fun b => RE.val (.v (.bl (notB b))) S1) = .val s S' := z
      cases e : peek S1 x with
      | none => rw [e] at z; cases z
      | some m =>
        rw [e] at z
        have z : oR (truM m) RE.bad (fun b => RE.val (.v (.bl (notB b))) S1) = .val s S' := z
        cases e' : truM m with
        | none => rw [e'] at z; cases z
        | some b => rw [e'] at z; exact ⟨notB b, by injection z with h1 h2; exact h1.symm⟩
  obtain ⟨F0, L, σm, S, rs, sl, h⟩ := tT_k (k := fun _ b _ S1 => .val (.v (.bl (notB b))) S1) h
  refine ⟨F0, L, σm, S, rs, sl, h.mono (fun x H1 h1 => ?_) fun _ _ _ h => h⟩
  obtain ⟨b, ex, F0, L, σm, S, s, m, rs, sl, e1, e2, h⟩ := h1
  obtain ⟨k, ek, q⟩ := bl_here rs h
  cases ek
  exact ⟨b, ex, by rw [notB_eq] at q; exact q⟩
theorem et_not (ha : PT X a (tT X.K fa ct (evE C ea) W)) : PT X (.UnaryOp .Not a pos) (tT X.K fa ct (evE C (.not ea)) W) :=
  pt_imp (pt_not ha) fun σ H Q h => tT_reads_not h
theorem ev_not (ha : PE X a (tE X.K fa ct (evE C ea) W)) : PE X (.UnaryOp .Not a pos) (tE X.K fa ct (evE C (.not ea)) W) := by
  refine pe_imp (pe_notT ha) fun σ H Q h => ?_
  obtain ⟨F0, L, σm, S, rs, sl, h⟩ := tE_1 (f := evE C ea) (k := fun _ x S1 => tru S1 x fun b => .val (.v (.bl (notB b))) S1) h
  refine ⟨F0, L, σm, S, rs, sl, h.mono (fun x H1 h1 => ?_) fun _ _ _ h => h⟩
  obtain ⟨F0, L, σm, S, s, rs, sl, v, h⟩ := h1
  obtain ⟨m, b, e1, e2, h⟩ := out_tru h
  have q := bl_here rs h
  rw [notB_eq] at q
  exact ⟨b, tru_of (peek_pv rs v e1) e2, q⟩
theorem ev_and (ha : PE X a (tE X.K fa ct (evE C ea) W)) (hb : PE X (.BoolOp .And (b :: rest) pos) (tE X.K fa ct (evE C eb) W)) : PE X (.BoolOp .And (a :: b :: rest) pos) (tE X.K fa ct (evE C (.and ea eb)) W) := by
  refine pe_imp (pe_andT ha hb) fun σ H Q h => ?_
  obtain ⟨F0, L, σm, S, rs, sl, h⟩ := tE_1 (f := evE C ea) (k := fun σ x S1 => tru S1 x fun b => bR b (evE C eb σ S1) (.val x S1)) h
  refine ⟨F0, L, σm, S, rs, sl, h.mono (fun x H1 h1 => ?_) fun _ _ _ h => h⟩
  obtain ⟨F0, L, σm, S, s, rs, sl, v, h⟩ := h1
  obtain ⟨m, b, e1, e2, h⟩ := out_tru h
  refine ⟨b, tru_of (peek_pv rs v e1) e2, ?_⟩
  cases b with
  | true => rw [if_pos rfl]; exact ⟨F0, L, σm, S, rs, sl, h⟩
  | false => rw [if_neg Bool.false_ne_true]; exact h L H1 x .refl rs v
theorem ev_or (ha : PE X a (tE X.K fa ct (evE C ea) W)) (hb : PE X (.BoolOp .Or (b :: rest) pos) (tE X.K fa ct (evE C eb) W)) : PE X (.BoolOp .Or (a :: b :: rest) pos) (tE X.K fa ct (evE C (.or ea eb)) W) := by
  refine pe_imp (pe_orT ha hb) fun σ H Q h => ?_
  obtain ⟨F0, L, σm, S, rs, sl, h⟩ := tE_1 (f := evE C ea) (k := fun σ x S1 => tru S1 x fun b => bR b (.val x S1) (evE C eb σ S1)) h
  refine ⟨F0, L, σm, S, rs, sl, h.mono (fun x H1 h1 => ?_) fun _ _ _ h => h⟩
  obtain ⟨F0, L, σm, S, s, rs, sl, v, h⟩ := h1
  obtain ⟨m, b, e1, e2, h⟩ := out_tru h
  refine ⟨b, tru_of (peek_pv rs v e1) e2, ?_⟩
  cases b with
  | true => rw [if_pos rfl]; exact h L H1 x .refl rs v
  | false => rw [if_neg Bool.false_ne_true]; exact ⟨F0, L, σm, S, rs, sl, h⟩
theorem bE_tru (s : SV) (k : Bool → RE) (g : SV → Sto → RE) : bE (tru S s k) g = tru S s fun b => bE (k b) g := by
  show bE (oR (peek S s) .bad fun a => oR (truM a) .bad k) g = oR (peek S s) .bad fun a => oR (truM a) .bad fun b => bE (k b) g
  cases peek S s with
  | none => rfl
  | some m =>
    show bE (oR (truM m) .bad k) g = oR (truM m) .bad fun b => bE (k b) g
    cases truM m <;> rfl
theorem bE_bR (b : Bool) (r r' : RE) (g : SV → Sto → RE) : bE (bR b r r') g = bR b (bE r g) (bE r' g) := by cases b <;> rfl
theorem tT_and {Q : Bool → Hp → Prop} (h : tT K fa ct (evE C (.and ea eb)) W σ H Q) : tAnd (tT K fa ct (evE C ea) W) (tT K fa ct (evE C eb) W) σ H Q := by
  have h : tE K fa ct (fun σ S => bE (evE C ea σ S) fun x S1 => tru S1 x fun b => bR b (xTru (evE C eb) σ S1) (tru S1 x fun b => .val (.v (.bl b)) S1)) W σ H fun x H1 => ∃ k, x = .bl k ∧ Q k H1 := by
    obtain ⟨F0, L, σm, S, rs, sl, o⟩ := h
    refine ⟨F0, L, σm, S, rs, sl, ?_⟩
    have o : Out K fa ct F0 L S H (bE (bE (evE C ea σm S) fun x S1 => tru S1 x fun b => bR b (evE C eb σm S1) (.val x S1)) fun x S1 => tru S1 x fun b => .val (.v (.bl b)) S1) _ _ := o
    rw [bE_bE] at o
    simp only [bE_tru, bE_bR] at o
    exact o
  obtain ⟨F0, L, σm, S, rs, sl, h⟩ := tT_k (k := fun σ b x S1 => bR b (xTru (evE C eb) σ S1) (tru S1 x fun b => .val (.v (.bl b)) S1)) h
  refine ⟨F0, L, σm, S, rs, sl, h.mono (fun x H1 h1 => ?_) fun _ _ _ h => h⟩
  obtain ⟨b, rfl, F0, L, σm, S, s, m, rs, sl, e1, e2, h⟩ := h1
  refine ⟨b, rfl, ?_⟩
  cases b with
  | true => rw [if_pos rfl]; exact ⟨F0, L, σm, S, rs, sl, h⟩
  | false =>
    rw [if_neg Bool.false_ne_true]
    have h : Out K fa ct F0 L S H1 (tru S s fun b => .val (.v (.bl b)) S) _ _ := h
    rw [tru_at e1 e2] at h
    obtain ⟨k, ek, q⟩ := bl_here rs h
    cases ek
    exact q
theorem tT_or {Q : Bool → Hp → Prop} (h : tT K fa ct (evE C (.or ea eb)) W σ H Q) : tOr (tT K fa ct (evE C ea) W) (tT K fa ct (evE C eb) W) σ H Q := by
  have h : tE K fa ct (fun σ S => bE (evE C ea σ S) fun x S1 => tru S1 x fun b => bR b (tru S1 x fun b => .val (.v (.bl b)) S1) (xTru (evE C eb) σ S1)) W σ H fun x H1 => ∃ k, x = .bl k ∧ Q k H1 := by
    obtain ⟨F0, L, σm, S, rs, sl, o⟩ := h
    refine ⟨F0, L, σm, S, rs, sl, ?_⟩
    have o : Out K fa ct F0 L S H (bE (bE (evE C ea σm S) fun x S1 => tru S1 x fun b => bR b (.val x S1) (evE C eb σm S1)) fun x S1 => tru S1 x fun b => .val (.v (.bl b)) S1) _ _ := o
    rw [bE_bE] at o
    simp only [bE_tru, bE_bR] at o
    exact o
  obtain ⟨F0, L, σm, S, rs, sl, h⟩ := tT_k (k := fun σ b x S1 => bR b (tru S1 x fun b => .val (.v (.bl b)) S1) (xTru (evE C eb) σ S1)) h
  refine ⟨F0, L, σm, S, rs, sl, h.mono (fun x H1 h1 => ?_) fun _ _ _ h => h⟩
  obtain ⟨b, rfl, F0, L, σm, S, s, m, rs, sl, e1, e2, h⟩ := h1
  refine ⟨b, rfl, ?_⟩
  cases b with
  | false => rw [if_neg Bool.false_ne_true]; exact ⟨F0, L, σm, S, rs, sl, h⟩
  | true =>
    rw [if_pos rfl]
    have h : Out K fa ct F0 L S H1 (tru S s fun b => .val (.v (.bl b)) S) _ _ := h
    rw [tru_at e1 e2] at h
    obtain ⟨k, ek, q⟩ := bl_here rs h
    cases ek
    exact q
theorem ew_and (ha : PT X a (tT X.K fa ct (evE C ea) W)) (hb : PW X (.BoolOp .And (b :: rest) pos) (tT X.K fa ct (evE C eb) W)) : PW X (.BoolOp .And (a :: b :: rest) pos) (tT X.K fa ct (evE C (.and ea eb)) W) :=
  pw_imp (pw_and ha hb) fun _ _ _ => tT_and
theorem ew_or (ha : PT X a (tT X.K fa ct (evE C ea) W)) (hb : PW X (.BoolOp .Or (b :: rest) pos) (tT X.K fa ct (evE C eb) W)) : PW X (.BoolOp .Or (a :: b :: rest) pos) (tT X.K fa ct (evE C (.or ea eb)) W) :=
  pw_imp (pw_or ha hb) fun _ _ _ => tT_or
theorem ev_ite (hc : PT X c (tT X.K fa ct (evE C ec) W)) (ha : PE X a (tE X.K fa ct (evE C ea) W)) (hb : PE X b (tE X.K fa ct (evE C eb) W)) : PE X (.IfExp c a b pos) (tE X.K fa ct (evE C (.ite ec ea eb)) W) := by
  refine pe_imp (pe_ifExp hc ha hb) fun σ H Q h => ?_
  obtain ⟨F0, L, σm, S, rs, sl, h⟩ := tT_k (f := evE C ec) (k := fun σ b x S1 => bR b (evE C ea σ S1) (evE C eb σ S1)) h
  refine ⟨F0, L, σm, S, rs, sl, h.mono (fun x H1 h1 => ?_) fun _ _ _ h => h⟩
  obtain ⟨b, rfl, F0, L, σm, S, s, m, rs, sl, e1, e2, h⟩ := h1
  refine ⟨b, rfl, ?_⟩
  cases b with
  | true => rw [if_pos rfl]; exact ⟨F0, L, σm, S, rs, sl, h⟩
  | false => rw [if_neg Bool.false_ne_true]; exact ⟨F0, L, σm, S, rs, sl, h⟩
end
/-! one operand -/
theorem ev_neg (ha : PE X a (tE X.K fa ct (evE C ea) W)) : PE X (.UnaryOp .USub a pos) (tE X.K fa ct (evE C (.neg ea)) W) := by
  refine pe_imp (pe_un un_neg ha) fun σ H Q h => ?_
  obtain ⟨F0, L, σm, S, rs, sl, h⟩ := tE_1 (f := evE C ea) (k := fun _ x S1 => pk S1 x fun a => cInt a .bad fun i => .val (.v (.int (Int.neg i))) S1) h
  refine ⟨F0, L, σm, S, rs, sl, h.mono (fun x H1 h1 => ?_) fun _ _ _ h => h⟩
  obtain ⟨F0, L, σm, S, s, rs, sl, v, h⟩ := h1
  obtain ⟨m, e1, h⟩ := out_pk h
  have p := peek_pv rs v e1
  cases m with
  | int i => exact ⟨i, p.int, Out.here rs h (.int _)⟩
  | _ => exact False.elim h
theorem cNon_dec {F : Addr → Prop} {H : Hp} {K : PySem.W.Frag} {m : MV} {x : V} (p : Pv K fa F H m x) : cNon m true false = decide (x = .non) := by
  cases m with
  | non => rw [p.non]; rfl
  | bl b => rw [p.bl]; rfl
  | int i => rw [p.int]; rfl
  | str s => rw [p.str]; rfl
  | tup ms => obtain ⟨a, xs, rfl, _⟩ := p.tup; rfl
  | lst ms => obtain ⟨a, xs, rfl, _⟩ := p.lst; rfl
  | fn i => obtain ⟨a, rfl, _⟩ := p.fn; rfl
  | dct ks vs => exact p.dct.elim
theorem ev_isN {j : Nat} {pos' : Pos} (ha : PE X a (tE X.K fa ct (evE C ea) W)) : PE X (.Compare a [.Is] [.Constant .none j pos'] pos) (tE X.K fa ct (evE C (.isN false ea)) W) := by
  refine pe_imp (pe_cmp (pc_isN ha) (nobehind _ (by decide) (by decide))) fun σ H Q h => ?_
  obtain ⟨F0, L, σm, S, rs, sl, h⟩ := tE_1 (f := evE C ea) (k := fun _ x S1 => pk S1 x fun a => .val (.v (.bl (cNon a true false))) S1) h
  refine ⟨F0, L, σm, S, rs, sl, h.mono (fun x H1 h1 => ?_) fun _ _ _ h => h⟩
  obtain ⟨F0, L, σm, S, s, rs, sl, v, h⟩ := h1
  obtain ⟨m, e1, h⟩ := out_pk h
  have q := bl_here rs h
  rw [cNon_dec (peek_pv rs v e1)] at q
  exact q
theorem ev_notN {j : Nat} {pos' : Pos} (ha : PE X a (tE X.K fa ct (evE C ea) W)) : PE X (.Compare a [.IsNot] [.Constant .none j pos'] pos) (tE X.K fa ct (evE C (.isN true ea)) W) := by
  refine pe_imp (pe_cmp (pc_notN ha) (nobehind _ (by decide) (by decide))) fun σ H Q h => ?_
  obtain ⟨F0, L, σm, S, rs, sl, h⟩ := tE_1 (f := evE C ea) (k := fun _ x S1 => pk S1 x fun a => .val (.v (.bl (notB (cNon a true false)))) S1) h
  refine ⟨F0, L, σm, S, rs, sl, h.mono (fun x H1 h1 => ?_) fun _ _ _ h => h⟩
  obtain ⟨F0, L, σm, S, s, rs, sl, v, h⟩ := h1
  obtain ⟨m, e1, h⟩ := out_pk h
  have q := bl_here rs h
  rw [notB_eq, cNon_dec (peek_pv rs v e1)] at q
  exact q
theorem isN_bl (no : Bool) (f : FE) (σ : List SV) (S : Sto) : ∀ s S', xIsN no f σ S = .val s S' → ∃ b, s = .v (.bl b) := fun s S' h => by
  have h : bE (f σ S) (fun x S1 => pk S1 x fun a => .val (.v (.bl (bR no (notB (cNon a true false)) (cNon a true false)))) S1) = .val s S' := h
  cases q : f σ S with
  | bad => rw [q] at h; cases h
  | exc c as S1 => rw [q] at h; cases h
  | val x S1 =>
    rw [q] at h
    have h : oR (peek S1 x) RE.bad (fun a => RE.val (.v (.bl (bR no (notB (cNon a true false)) (cNon a true false)))) S1) = .val s S' := h
    cases q3 : peek S1 x with
    | none => rw [q3] at h; cases h
    | some m => rw [q3] at h; exact ⟨_, by injection h with h1 h2; exact h1.symm⟩
theorem et_isN {j : Nat} {pos' : Pos} (ha : PE X a (tE X.K fa ct (evE C ea) W)) : PT X (.Compare a [.Is] [.Constant .none j pos'] pos) (tT X.K fa ct (evE C (.isN false ea)) W) := by
  refine pt_imp (pt_cmp (pc_isN ha) (nobehind _ (by decide) (by decide))) fun σ H Q ⟨F0, L, σm, S, rs, sl, h⟩ => ?_
  have h : tE X.K fa ct (evE C (.isN false ea)) W σ H _ := ⟨F0, L, σm, S, rs, sl, out_blT h (isN_bl _ _ _ _)⟩
  obtain ⟨F0, L, σm, S, rs, sl, h⟩ := tE_1 (f := evE C ea) (k := fun _ x S1 => pk S1 x fun a => .val (.v (.bl (cNon a true false))) S1) h
  refine ⟨F0, L, σm, S, rs, sl, h.mono (fun x H1 h1 => ?_) fun _ _ _ h => h⟩
  obtain ⟨F0, L, σm, S, s, rs, sl, v, h⟩ := h1
  obtain ⟨m, e1, h⟩ := out_pk h
  have q := bl_here rs h
  rw [cNon_dec (peek_pv rs v e1)] at q
  exact q
theorem et_notN {j : Nat} {pos' : Pos} (ha : PE X a (tE X.K fa ct (evE C ea) W)) : PT X (.Compare a [.IsNot] [.Constant .none j pos'] pos) (tT X.K fa ct (evE C (.isN true ea)) W) := by
  refine pt_imp (pt_cmp (pc_notN ha) (nobehind _ (by decide) (by decide))) fun σ H Q ⟨F0, L, σm, S, rs, sl, h⟩ => ?_
  have h : tE X.K fa ct (evE C (.isN true ea)) W σ H _ := ⟨F0, L, σm, S, rs, sl, out_blT h (isN_bl _ _ _ _)⟩
  obtain ⟨F0, L, σm, S, rs, sl, h⟩ := tE_1 (f := evE C ea) (k := fun _ x S1 => pk S1 x fun a => .val (.v (.bl (notB (cNon a true false)))) S1) h
  refine ⟨F0, L, σm, S, rs, sl, h.mono (fun x H1 h1 => ?_) fun _ _ _ h => h⟩
  obtain ⟨F0, L, σm, S, s, rs, sl, v, h⟩ := h1
  obtain ⟨m, e1, h⟩ := out_pk h
  have q := bl_here rs h
  rw [notB_eq, cNon_dec (peek_pv rs v e1)] at q
  exact q
end
end Ev

/-! Chains, argument lists, displays, places, slices, builtins. -/
namespace Ev
open PySem PySem.Spec PyProof.Rows L2
variable {X : Cx} {fa ct : Nat → Option Addr} {W : WX} {C : Cfg}
section
variable {F0 : Addr → Prop} {L : List Addr} {S : Sto} {H : Hp} {E : XK} {K : PySem.W.Frag} {σ : L2.St}
theorem out_bEA {r : RE} {k : SV → Sto → RA} {Q : List V → Hp → Prop} (h : OutA K fa ct F0 L S H (bEA r k) Q E) :
    Out K fa ct F0 L S H r (fun x H1 => ∃ L1 S1 s, Ex L S H L1 S1 H1 ∧ RepS K fa F0 L1 S1 H1 ∧ RepV K fa F0 L1 S1 H1 s x ∧ OutA K fa ct F0 L1 S1 H1 (k s S1) Q E) E := by
  cases r with
  | bad => exact h
  | val s S' => exact fun L' H' x a b c => ⟨L', S', s, a, b, c, OutA.from a h⟩
  | exc c as S' => exact h
theorem out_bAA {r : RA} {k : List SV → Sto → RA} {Q : List V → Hp → Prop} (h : OutA K fa ct F0 L S H (bAA r k) Q E) :
    OutA K fa ct F0 L S H r (fun x H1 => ∃ L1 S1 s, Ex L S H L1 S1 H1 ∧ RepS K fa F0 L1 S1 H1 ∧ RepVs K fa F0 L1 S1 H1 s x ∧ OutA K fa ct F0 L1 S1 H1 (k s S1) Q E) E := by
  cases r with
  | bad => exact h
  | vals s S' => exact fun L' H' x a b c => ⟨L', S', s, a, b, c, OutA.from a h⟩
  | exc c as S' => exact h
theorem RepV.as {s : SV} {x : V} {m : MV} (r : RepV K fa F0 L S H s x) (e : asV s = some m) : Rv K fa (Fz F0 L S) H m x := by
  cases s with
  | u => cases e
  | v n => cases e; exact r
  | r k => cases e
theorem RepVs.as : ∀ {ss : List SV} {xs : List V} {ms : List MV}, RepVs K fa F0 L S H ss xs → asVs ss = some ms → Rvs K fa (Fz F0 L S) H ms xs
  | _, _, ms, .nil, e => by cases (show some [] = some ms from e); exact .nil
  | _, _, ms, .cons (s := s) (ss := ss) r t, e => by
    have e : oR (asV s) none (fun m => oR (asVs ss) none fun ms => some (m :: ms)) = some ms := e
    cases q : asV s with
    | none => rw [q] at e; cases e
    | some m =>
      rw [q] at e
      have e : oR (asVs ss) none (fun ms => some (m :: ms)) = some ms := e
      cases q2 : asVs ss with
      | none => rw [q2] at e; cases e
      | some ns =>
        rw [q2] at e
        cases e
        exact .cons (r.as q) (RepVs.as t q2)
inductive Pvs (K : PySem.W.Frag) (fa : Nat → Option Addr) (F : Addr → Prop) (H : Hp) : List MV → List V → Prop
  | nil : Pvs K fa F H [] []
  | cons {m : MV} {ms : List MV} {x : V} {xs : List V} : Pv K fa F H m x → Pvs K fa F H ms xs → Pvs K fa F H (m :: ms) (x :: xs)
theorem RepVs.pk (rs : RepS K fa F0 L S H) : ∀ {ss : List SV} {xs : List V} {ms : List MV}, RepVs K fa F0 L S H ss xs → pks S ss = some ms → Pvs K fa (Fz F0 L S) H ms xs
  | _, _, ms, .nil, e => by cases (show some [] = some ms from e); exact .nil
  | _, _, ms, .cons (s := s) (ss := ss) r t, e => by
    have e : oR (peek S s) none (fun m => oR (pks S ss) none fun ms => some (m :: ms)) = some ms := e
    cases q : peek S s with
    | none => rw [q] at e; cases e
    | some m =>
      rw [q] at e
      have e : oR (pks S ss) none (fun ms => some (m :: ms)) = some ms := e
      cases q2 : pks S ss with
      | none => rw [q2] at e; cases e
      | some ns =>
        rw [q2] at e
        cases e
        exact .cons (peek_pv rs r q) (RepVs.pk rs t q2)
end
/-! argument lists -/
section
variable {e : Expr} {es : List Expr} {ea : E} {eas : Es} {pos : Pos}
theorem ea_nil : PA X [] (tA X.K fa ct W (evEs C .nil)) :=
  pa_imp pa_nil fun σ H Q ⟨F0, L, σm, S, rs, sl, o⟩ => (show OutA X.K fa ct F0 L S H (.vals [] S) Q _ from o) L H [] .refl rs .nil
theorem ea_cons (ha : PE X e (tE X.K fa ct (evE C ea) W)) (hr : PA X es (tA X.K fa ct W (evEs C eas))) (hs : starEach (e :: es) X.env = (false, eval e X.env) :: starEach es X.env := by rfl) : PA X (e :: es) (tA X.K fa ct W (evEs C (.cons ea eas))) := by
  refine pa_imp (pa_cons ha hr hs) fun σ H Q ⟨F0, L, σm, S, rs, sl, o⟩ => ?_
  have o : OutA X.K fa ct F0 L S H (bEA (evE C ea σm S) fun x S1 => bAA (evEs C eas σm S1) fun xs S2 => .vals (x :: xs) S2) Q _ := o
  refine ⟨F0, L, σm, S, rs, sl, (out_bEA o).mono (fun x H1 ⟨L1, S1, s, ex, r1, v1, o1⟩ => ?_) fun _ _ _ h => h⟩
  refine ⟨F0, L1, σm, S1, r1, sl.ex ex, (out_bAA o1).mono (fun xs H2 ⟨L2, S2, ss, ex2, r2, v2, o2⟩ => ?_) fun _ _ _ h => h⟩
  exact o2 L2 H2 (x :: xs) .refl r2 (.cons (v1.ex ex2) v2)
end
/-! displays -/
section
variable {es : List Expr} {eas : Es} {pos : Pos} {n : Nat}
theorem ev_tup (ha : PA X es (tA X.K fa ct W (evEs C eas))) : PE X (.Tuple es n pos) (tE X.K fa ct (evE C (.tup eas)) W) := by
  refine pe_imp (pe_tup ha) fun σ H Q h => ?_
  obtain ⟨F0, L, σm, S, rs, sl, h⟩ := tE_A (f := evEs C eas) (k := fun _ vs S1 => oR (asVs vs) .bad fun ms => oE (mkT ms) S1) h
  refine ⟨F0, L, σm, S, rs, sl, h.mono (fun xs H1 h1 => ?_) fun _ _ _ h => h⟩
  obtain ⟨F0, L, σm, S, ss, rs, sl, v, o⟩ := h1
  obtain ⟨ms, e1, o⟩ := out_oR o
  obtain ⟨m, e2, o⟩ := out_oE o
  obtain ⟨rfl, hl⟩ := mkT_some e2
  have r := v.as e1
  refine ⟨by rw [← r.length]; exact million hl, fun p hp => Out.tup rs o hp r⟩
theorem ev_lst {own : Bool} (ha : PA X es (tA X.K fa ct W (evEs C eas))) : PE X (.List es pos) (tE X.K fa ct (evE C (.lst own eas)) W) := by
  refine pe_imp (pe_lst ha) fun σ H Q h => ?_
  obtain ⟨F0, L, σm, S, rs, sl, h⟩ := tE_A (f := evEs C eas) (k := fun _ vs S1 => oR (asVs vs) .bad fun ms => newL own (revL ms) S1) h
  refine ⟨F0, L, σm, S, rs, sl, h.mono (fun xs H1 h1 => ?_) fun _ _ _ h => h⟩
  obtain ⟨F0, L, σm, S, ss, rs, sl, v, o⟩ := h1
  obtain ⟨ms, e1, o⟩ := out_oR o
  have r : Rvs X.K fa (Fz F0 L S) H1 (revL ms).reverse xs := by rw [revL_eq, List.reverse_reverse]; exact v.as e1
  refine ⟨?_, fun p hp => (Out.newL rs o hp r).2⟩
  by_cases hf : fits (lenL (revL ms)) = true
  · have := (fits_iff _).mp hf
    rw [lenL_eq, revL_eq, List.length_reverse] at this
    have hl := r.length
    rw [revL_eq, List.reverse_reverse] at hl
    exact million (by rw [← hl]; exact this)
  · have z : newL own (revL ms) S = .bad := by
      unfold newL
      rw [Bool.eq_false_iff.mpr hf]
      rfl
    rw [z] at o
    exact False.elim o
end
/-! a op b op c -/
section
variable {a b c : Expr} {ea eb ec : E} {pos : Pos} {K : PySem.W.Frag}
/-- the last link: the middle value is known -/
noncomputable def kLast (C : Cfg) (p : Cop) (ec : E) : List SV → SV → SV → Sto → RE := fun σ _ y S2 => bE (evE C ec σ S2) fun z S3 => pk S3 y fun b' => pk S3 z fun c => oE (cmpM p b' c) S3
theorem chain_reads {o p : Cop} {σ : L2.St} {H : Hp} {Q : VK} (h : tE K fa ct (evE C (.chain o p ea eb ec)) W σ H Q) :
    tChain (rC K fa ct o) (rC K fa ct p) (tE K fa ct (evE C ea) W) (tE K fa ct (evE C eb) W) (tE K fa ct (evE C ec) W) σ H Q := by
  obtain ⟨F0, L, σm, S, rs, sl, h⟩ := tE_1 (f := evE C ea) (k := fun σ x S1 => bE (evE C eb σ S1) fun y S2 => pk S2 x fun a => pk S2 y fun b => oR (cmpB o a b) .bad fun r => bR r (kLast C p ec σ x y S2) (.val (.v (.bl false)) S2)) h
  refine ⟨F0, L, σm, S, rs, sl, h.mono (fun x H1 h1 => ?_) fun _ _ _ h => h⟩
  obtain ⟨F0, L, σm, S, rs, sl, h⟩ := tK1_2 (g := evE C eb) (k := fun σ x y S2 => pk S2 x fun a => pk S2 y fun b => oR (cmpB o a b) .bad fun r => bR r (kLast C p ec σ x y S2) (.val (.v (.bl false)) S2)) h1
  refine ⟨F0, L, σm, S, rs, sl, h.mono (fun y H2 h2 => ?_) fun _ _ _ h => h⟩
  obtain ⟨F0, L, σm, S, s, t, rs, sl, v1, v2, h⟩ := h2
  obtain ⟨m, e1, h⟩ := out_pk h
  obtain ⟨n, e2, h⟩ := out_pk h
  obtain ⟨r, e3, h⟩ := out_oR h
  refine ⟨F0, L, S, m, n, rs, peek_pv rs v1 e1, peek_pv rs v2 e2, ?_⟩
  have ec : cmpM o m n = some (.bl r) := by show oR (cmpB o m n) none (fun r => some (MV.bl r)) = _; rw [e3]; rfl
  rw [ec]
  show ∀ L' H' x, Ex L S H2 L' S H' → RepS K fa F0 L' S H' → RepV K fa F0 L' S H' (.v (.bl r)) x → _
  intro L' H' z ex r1 vz
  cases vz
  refine ⟨r, rfl, ?_⟩
  cases r with
  | false =>
    rw [if_neg Bool.false_ne_true]
    exact (h.from ex) L' H' _ .refl r1 (Rv.bl _)
  | true =>
    rw [if_pos rfl]
    have h : Out K fa ct F0 L' S H' (kLast C p _ σm s t S) Q _ := h.from ex
    refine ⟨F0, L', σm, S, r1, sl.ex ex, (out_bE h).mono (fun z H3 ⟨L3, S3, u, ex3, r3, v3, o3⟩ => ?_) fun _ _ _ h => h⟩
    obtain ⟨b', e4, o3⟩ := out_pk o3
    obtain ⟨c', e5, o3⟩ := out_pk o3
    exact ⟨F0, L3, S3, b', c', r3, peek_pv r3 ((v2.ex ex).ex ex3) e4, peek_pv r3 v3 e5, o3.any⟩
theorem ev_chain {op op' : CmpOp} {o p : Cop} (ho : OpR X (compareOp op) (rC X.K fa ct o)) (ho' : OpR X (compareOp op') (rC X.K fa ct p)) (ha : PE X a (tE X.K fa ct (evE C ea) W)) (hb : PE X b (tE X.K fa ct (evE C eb) W)) (hc : PE X c (tE X.K fa ct (evE C ec) W))
    (hm : lastMarks [op, op'] [b, c] = false := by with_unfolding_all rfl) : PE X (.Compare a [op, op'] [b, c] pos) (tE X.K fa ct (evE C (.chain o p ea eb ec)) W) :=
  pe_imp (pe_chain ho ho' ha hb hc hm) fun _ _ _ => chain_reads
theorem chain_bl (o p : Cop) (f g k : FE) (σ : List SV) (S : Sto) : ∀ s S', xChain o p f g k σ S = .val s S' → ∃ b, s = .v (.bl b) := fun s S' h => by
  have h : bE (f σ S) (fun x S1 => bE (g σ S1) fun y S2 => pk S2 x fun a => pk S2 y fun b => oR (cmpB o a b) .bad fun r => bR r (bE (k σ S2) fun z S3 => pk S3 y fun b' => pk S3 z fun c => oE (cmpM p b' c) S3) (.val (.v (.bl false)) S2)) = .val s S' := h
  cases q : f σ S with
  | bad => rw [q] at h; cases h
  | exc c as S1 => rw [q] at h; cases h
  | val x S1 =>
    rw [q] at h
    have h : bE (g σ S1) (fun y S2 => pk S2 x fun a => pk S2 y fun b => oR (cmpB o a b) .bad fun r => bR r (bE (k σ S2) fun z S3 => pk S3 y fun b' => pk S3 z fun c => oE (cmpM p b' c) S3) (.val (.v (.bl false)) S2)) = .val s S' := h
    cases q2 : g σ S1 with
    | bad => rw [q2] at h; cases h
    | exc c as S2 => rw [q2] at h; cases h
    | val y S2 =>
      rw [q2] at h
      have h : oR (peek S2 x) .bad (fun a => oR (peek S2 y) .bad fun b => oR (cmpB o a b) .bad fun r => bR r (bE (k σ S2) fun z S3 => pk S3 y fun b' => pk S3 z fun c => oE (cmpM p b' c) S3) (.val (.v (.bl false)) S2)) = .val s S' := h
      cases q3 : peek S2 x with
      | none => rw [q3] at h; cases h
      | some m =>
        rw [q3] at h
        have h : oR (peek S2 y) .bad (fun b => oR (cmpB o m b) .bad fun r => bR r (bE (k σ S2) fun z S3 => pk S3 y fun b' => pk S3 z fun c => oE (cmpM p b' c) S3) (.val (.v (.bl false)) S2)) = .val s S' := h
        cases q4 : peek S2 y with
        | none => rw [q4] at h; cases h
        | some n =>
          rw [q4] at h
          have h : oR (cmpB o m n) .bad (fun r => bR r (bE (k σ S2) fun z S3 => pk S3 y fun b' => pk S3 z fun c => oE (cmpM p b' c) S3) (.val (.v (.bl false)) S2)) = .val s S' := h
          cases q5 : cmpB o m n with
          | none => rw [q5] at h; cases h
          | some r =>
            rw [q5] at h
            cases r with
            | false => exact ⟨false, by injection h with h1 h2; exact h1.symm⟩
            | true =>
              have h : bE (k σ S2) (fun z S3 => pk S3 y fun b' => pk S3 z fun c => oE (cmpM p b' c) S3) = .val s S' := h
              cases q6 : k σ S2 with
              | bad => rw [q6] at h; cases h
              | exc c as S2 => rw [q6] at h; cases h
              | val z S3 =>
                rw [q6] at h
                have h : oR (peek S3 y) .bad (fun b' => oR (peek S3 z) .bad fun c => oE (cmpM p b' c) S3) = .val s S' := h
                cases q7 : peek S3 y with
                | none => rw [q7] at h; cases h
                | some m' =>
                  rw [q7] at h
                  have h : oR (peek S3 z) .bad (fun c => oE (cmpM p m' c) S3) = .val s S' := h
                  cases q8 : peek S3 z with
                  | none => rw [q8] at h; cases h
                  | some n' => rw [q8] at h; exact oE_bl h
theorem et_chain {op op' : CmpOp} {o p : Cop} (ho : OpR X (compareOp op) (rC X.K fa ct o)) (ho' : OpR X (compareOp op') (rC X.K fa ct p)) (ha : PE X a (tE X.K fa ct (evE C ea) W)) (hb : PE X b (tE X.K fa ct (evE C eb) W)) (hc : PE X c (tE X.K fa ct (evE C ec) W))
    (hm : lastMarks [op, op'] [b, c] = false := by with_unfolding_all rfl) : PT X (.Compare a [op, op'] [b, c] pos) (tT X.K fa ct (evE C (.chain o p ea eb ec)) W) :=
  pt_imp (pt_chain ho ho' ha hb hc hm) fun σ H Q ⟨F0, L, σm, S, rs, sl, h⟩ => chain_reads ⟨F0, L, σm, S, rs, sl, out_blT h (chain_bl _ _ _ _ _ _ _)⟩
end
end Ev

/-! Places, slices, freezing, isinstance. -/
namespace Ev
open PySem PySem.Spec PyProof.Rows L2
variable {X : Cx} {fa ct : Nat → Option Addr} {W : WX} {C : Cfg}
/-- a rule of two values -/
def rG (K : PySem.W.Frag) (fa ct : Nat → Option Addr) (g : MV → MV → Option MV) : R2 := fun x y H Q => ∃ F0 L S a b, RepS K fa F0 L S H ∧ Pv K fa (Fz F0 L S) H a x ∧ Pv K fa (Fz F0 L S) H b y ∧ Out K fa ct F0 L S H (oE (g a b) S) Q (fun _ _ _ => True)
theorem bin_reads {K : PySem.W.Frag} {f g : FE} {o : MV → MV → Option MV} {σ : L2.St} {H : Hp} {Q : VK} (h : tE K fa ct (fun σ S => bE (f σ S) fun x S1 => bE (g σ S1) fun y S2 => pk S2 x fun a => pk S2 y fun b => oE (o a b) S2) W σ H Q) :
    tOp (rG K fa ct o) (tE K fa ct f W) (tE K fa ct g W) σ H Q := by
  obtain ⟨F0, L, σm, S, rs, sl, h⟩ := tE_1 h
  refine ⟨F0, L, σm, S, rs, sl, h.mono (fun x H1 h1 => ?_) fun _ _ _ h => h⟩
  obtain ⟨F0, L, σm, S, rs, sl, h⟩ := tK1_2 h1
  refine ⟨F0, L, σm, S, rs, sl, h.mono (fun y H2 h2 => ?_) fun _ _ _ h => h⟩
  obtain ⟨F0, L, σm, S, s, t, rs, sl, v1, v2, h⟩ := h2
  obtain ⟨m, e1, h⟩ := out_pk h
  obtain ⟨n, e2, h⟩ := out_pk h
  exact ⟨F0, L, S, m, n, rs, peek_pv rs v1 e1, peek_pv rs v2 e2, h.any⟩
theorem ixN_eq (n : Nat) (i : Int) : Ev.ixN n i = L2.ixN n i := by
  unfold L2.ixN
  cases i with
  | ofNat k =>
    show bR (Nat.blt k n) (some k) none = if (0 : Int) ≤ (k : Int) then (if (k : Int) < n then some (k : Int).toNat else none) else _
    rw [if_pos (by omega)]
    by_cases h : k < n
    · rw [blt_iff.mpr h, if_pos (by omega)]; rfl
    · rw [if_neg (by omega)]
      cases q : Nat.blt k n with
      | false => rfl
      | true => exact absurd (blt_iff.mp q) h
  | negSucc k =>
    show bR (Nat.blt k n) (some (n - (k + 1))) none = if (0 : Int) ≤ Int.negSucc k then _ else if -(n : Int) ≤ Int.negSucc k then some (Int.negSucc k + n).toNat else none
    rw [if_neg (by omega)]
    by_cases h : k < n
    · rw [blt_iff.mpr h, if_pos (by omega)]
      show some (n - (k + 1)) = some (Int.negSucc k + n).toNat
      congr 1
      omega
    · rw [if_neg (by omega)]
      cases q : Nat.blt k n with
      | false => rfl
      | true => exact absurd (blt_iff.mp q) h
theorem at_of {K : PySem.W.Frag} {F : Addr → Prop} {H : Hp} {l : List MV} {xs : List V} {i : Int} {m : MV} (r : Rvs K fa F H l xs) (e : oR (Ev.ixN (lenL l) i) none (fun k => getL l k) = some m) : ∃ v, L2.atI xs i = some v ∧ Rv K fa F H m v := by
  rw [lenL_eq, ixN_eq] at e
  cases q : L2.ixN l.length i with
  | none => rw [q] at e; cases e
  | some k =>
    rw [q] at e
    have e : getL l k = some m := e
    rw [getL_eq] at e
    obtain ⟨v, h1, h2⟩ := r.get e
    refine ⟨v, ?_, h2⟩
    unfold L2.atI
    rw [← r.length, q]
    exact h1
theorem ix_all : IxR X (rG X.K fa ct idxM) := by
  intro value slice pins s σ H x y v u Q I rx ry h hs
  refine ix_seq value slice pins s σ H x y v u Q I rx ry ?_ hs
  obtain ⟨F0, L, S, a, b, rs, pa, pb, o0⟩ := h
  obtain ⟨m, e, o⟩ := out_oE o0
  clear o0
  have seq : ∀ {l : List MV} {xs : List V}, Rvs X.K fa (Fz F0 L S) H l xs → cInt b none (fun i => oR (Ev.ixN (lenL l) i) none fun k => getL l k) = some m → ∃ i v, y = .int i ∧ L2.atI xs i = some v ∧ Q v H := by
    intro l xs r e
    cases b with
    | int i =>
      obtain ⟨v, h1, h2⟩ := at_of r (show oR (Ev.ixN (lenL l) i) none (fun k => getL l k) = some m from e)
      exact ⟨i, v, pb.int, h1, Out.here rs o h2⟩
    | _ => cases e
  cases a with
  | lst l =>
    obtain ⟨p, xs, rfl, hp, r⟩ := pa.lst
    obtain ⟨i, v, ey, h1, q⟩ := seq r e
    exact .inl ⟨p, xs, i, v, rfl, ey, .inl (.inl hp), h1, q⟩
  | tup l =>
    obtain ⟨p, xs, rfl, hp, r⟩ := pa.tup
    obtain ⟨i, v, ey, h1, q⟩ := seq r e
    exact .inr (.inl ⟨p, xs, i, v, rfl, ey, hp.sq, h1, q⟩)
  | str z =>
    have e : cInt b none (fun i => oR (Ev.ixN (lenL z) i) none fun k => oR (getL z k) none fun c => some (.str [c])) = some m := e
    have ex := pa.str
    have hl := pa.strLen
    cases b with
    | int i =>
      have e : oR (Ev.ixN (lenL z) i) none (fun k => oR (getL z k) none fun c => some (.str [c])) = some m := e
      rw [lenL_eq, ixN_eq] at e
      cases q : L2.ixN z.length i with
      | none => rw [q] at e; cases e
      | some k =>
        rw [q] at e
        have e : oR (getL z k) none (fun c => some (.str [c])) = some m := e
        rw [getL_eq] at e
        cases q2 : z[k]? with
        | none => rw [q2] at e; cases e
        | some c =>
          rw [q2] at e
          cases e
          refine .inr (.inr ⟨⟨z.toArray⟩, i, c, ex, pb.int, ?_, ?_, ?_⟩)
          · show z.toArray.size ≤ sizeLine
            rw [List.size_toArray]; exact million hl
          · unfold L2.atI
            rw [show (⟨z.toArray⟩ : Str).cps.toList = z from rfl, q]
            exact q2
          · exact Out.here rs o (.str [c] (by simp))
    | _ => cases e
  | dct ks vs => exact pa.dct.elim
  | _ => cases e
section
variable {a b e : Expr} {ea eb : E} {pos : Pos}
theorem ev_idx (ha : PE X a (tE X.K fa ct (evE C ea) W)) (hb : PE X b (tE X.K fa ct (evE C eb) W)) (hs : PlainIx b := by intro _ _; rfl) : PE X (.Subscript a b pos) (tE X.K fa ct (evE C (.idx ea eb)) W) :=
  pe_imp (pe_ix (ix_all (fa := fa) (ct := ct)) ha hb hs) fun _ _ _ h => bin_reads h
/-! freezing -/
theorem RepS.freeze {K : PySem.W.Frag} {F0 : Addr → Prop} {L : List Addr} {S : Sto} {H : Hp} {k : Nat} {o : MO} {a : Addr} (rs : RepS K fa F0 L S H) (hg : S.get k = some o) (hL : L[k]? = some a) :
    Ex L S H L (S.put k none) H ∧ RepS K fa F0 L (S.put k none) H ∧ ¬ Fz F0 L (S.put k none) a := by
  have hk := get_lt hg
  have sub : ∀ j o', (S.put k none).get j = some o' → j ≠ k ∧ S.get j = some o' := fun j o' e => by
    rw [get_put S rs.wf] at e
    by_cases hj : j = k
    · rw [if_pos ⟨hj, hk⟩] at e; cases e
    · rw [if_neg fun q => hj q.1] at e; exact ⟨hj, e⟩
  have lv : ∀ b, live L (S.put k none) b → live L S b := fun b ⟨j, o', e1, e2⟩ => ⟨j, o', (sub j o' e1).2, e2⟩
  have ex : Ex L S H L (S.put k none) H := ⟨⟨[], by simp⟩, fun _ _ e _ => e, fun b q => .inl (lv b q)⟩
  refine ⟨ex, ⟨by rw [put_len, put_n]; exact rs.wf, by rw [put_n]; exact rs.len, fun j ob e => ?_, fun i j o1 o2 b e1 e2 => rs.inj i j o1 o2 b (sub _ _ e1).2 (sub _ _ e2).2, fun b q => rs.off b (lv b q), rs.trk⟩, fun q => ?_⟩
  · obtain ⟨b, h1, h2⟩ := rs.obj j ob (sub j ob e).2
    refine ⟨b, h1, ?_⟩
    cases ob with
    | lst n rev =>
      obtain ⟨xs, h3, h4, h5⟩ := h2
      exact ⟨xs, h3, Rvs.ex (F0 := F0) ex h4, h5⟩
    | dct _ _ _ => exact h2
  · rcases q with q | ⟨j, o', e1, e2⟩
    · exact rs.off a ⟨k, o, hg, hL⟩ q
    · obtain ⟨hj, e1⟩ := sub j o' e1
      exact hj (rs.inj j k o' o a e1 hg e2 hL)
theorem ev_frz {i : Nat} {x : Str} {pos : Pos} (hN : X.N[i]? = some x) (hv : Vis X.env.scope x) (hd : (x == ("__debug__" : Str)) = false := by decide) (hcd : (x == ("__classdict__" : Str)) = false := by decide) : PE X (.Name x pos) (tE X.K fa ct (evE C (.frz i)) W) := by
  refine pe_imp (pe_var hN hv hd hcd) fun σ H Q ⟨F0, L, σm, S, rs, sl, o⟩ => ?_
  have o : Out X.K fa ct F0 L S H (oR (getL σm i) .bad fun s => @SV.rec (fun _ => RE) .bad (fun m => .val (.v m) S) (fun k => oR (S.get k) .bad fun o => .val (.v (peekO o)) (S.put k none)) s) Q _ := o
  obtain ⟨s, es, o⟩ := out_oR o
  rw [getL_eq] at es
  rcases sl.at_ i s es with rfl | ⟨x, hx, rx⟩
  · exact False.elim o
  · refine ⟨x, hx, ?_⟩
    cases s with
    | u => exact False.elim o
    | v m => exact o L H x .refl rs rx
    | r k =>
      obtain ⟨ob, eg, o⟩ := out_oR (show Out X.K fa ct F0 L S H (oR (S.get k) .bad fun o => .val (.v (peekO o)) (S.put k none)) Q _ from o)
      obtain ⟨a, rfl, hL⟩ := rx
      obtain ⟨ex, rs', off⟩ := rs.freeze eg hL
      obtain ⟨a', h1, h2⟩ := rs.obj k ob eg
      rw [hL] at h1
      cases h1
      cases ob with
      | dct _ _ _ => exact False.elim h2
      | lst n rev =>
        obtain ⟨xs, h3, h4, h5⟩ := h2
        refine o L H (.ref a) ex rs' ?_
        show Rv X.K fa (Fz F0 L (S.put k none)) H (.lst (revL rev)) (.ref a)
        rw [revL_eq]
        exact .lst ⟨h3, off⟩ (Rvs.ex (F0 := F0) ex h4)
/-! slices -/
theorem cutN_eq (n d : Nat) (o : Option Int) : cutN n d o = HT.sIx n d o := by
  cases o with
  | none => rfl
  | some i =>
    cases i with
    | ofNat k =>
      show bR (Nat.ble k n) k n = if (k : Int) < 0 then ((k : Int) + (n : Int)).toNat else min (k : Int).toNat n
      rw [if_neg (by omega)]
      show _ = min k n
      by_cases h : k ≤ n
      · rw [Nat.ble_eq_true_of_le h, Nat.min_eq_left h]; rfl
      · have : Nat.ble k n = false := by
          cases q : Nat.ble k n with
          | false => rfl
          | true => exact absurd (Nat.le_of_ble_eq_true q) h
        rw [this, Nat.min_eq_right (by omega)]; rfl
    | negSucc k =>
      show n - (k + 1) = if Int.negSucc k < 0 then (Int.negSucc k + (n : Int)).toNat else min (Int.negSucc k).toNat n
      rw [if_pos (by omega)]
      omega
theorem cutL_eq (xs : List MV) (lo hi : Option Int) : cutL xs lo hi = (xs.drop (HT.sIx xs.length 0 lo)).take (HT.sIx xs.length xs.length hi - HT.sIx xs.length 0 lo) := by
  unfold cutL
  rw [takeL_eq, dropL_eq, lenL_eq, cutN_eq, cutN_eq]
  rfl
theorem Rvs.cut {K : PySem.W.Frag} {F : Addr → Prop} {H : Hp} {l : List MV} {xs : List V} (r : Rvs K fa F H l xs) (lo hi : Option Int) : Rvs K fa F H (cutL l lo hi) (cutV xs lo hi) := by
  rw [cutL_eq]
  unfold cutV
  rw [r.length]
  exact (r.drop _).take _
/-- a slice by values: no str -/
def rSl (K : PySem.W.Frag) (fa ct : Nat → Option Addr) : V → Option Int → Option Int → Hp → VK → Prop := fun x lo hi H Q => ∃ F0 L S a, RepS K fa F0 L S H ∧ Pv K fa (Fz F0 L S) H a x ∧ Out K fa ct F0 L S H (oE (slcM a lo hi) S) Q (fun _ _ _ => True)
theorem sl_all : SlR X (rSl X.K fa ct) := by
  intro pins s σ H x v vl vu lo hi sl Q I rx hs pl pu h
  refine (sl_list.or sl_tupA) pins s σ H x v vl vu lo hi sl Q I rx hs pl pu ?_
  obtain ⟨F0, L, S, a, rs, pa, o⟩ := h
  obtain ⟨m, e, o⟩ := out_oE o
  cases a with
  | lst l =>
    obtain ⟨p, xs, rfl, hp, r⟩ := pa.lst
    cases (show some (MV.lst (cutL l lo hi)) = some m from e)
    exact .inl ⟨p, xs, rfl, .inl (.inl hp), fun q hq => Out.lst rs o hq (r.cut lo hi)⟩
  | tup l =>
    obtain ⟨p, xs, rfl, hp, r⟩ := pa.tup
    cases (show some (MV.tup (cutL l lo hi)) = some m from e)
    refine .inr ⟨p, xs, rfl, hp.sq, fun ⟨w1, w2⟩ => ?_, fun _ q hq => Out.tup rs o hq (r.cut lo hi)⟩
    have ec : cutL l lo hi = l := by
      rw [cutL_eq, r.length, w1, w2]
      simp [← r.length]
    rw [ec] at o
    exact Out.here rs o (.tup hp r)
  | dct ks vs => exact pa.dct.elim
  | _ => cases e
/-- a part of a slice -/
def tO (K : PySem.W.Frag) (fa ct : Nat → Option Addr) (W : WX) (fo : Option FE) : TO := fun σ H Q => match fo with
  | none => Q none H
  | some f => tE K fa ct f W σ H fun x H1 => ∃ i, x = .int i ∧ Q (some i) H1
theorem eo_no : PO X none (tO X.K fa ct W (evOe C .no).2) := ⟨fun pins s σ H Q I h => po_none.run pins s σ H Q I h⟩
theorem eo_yes (ha : PE X a (tE X.K fa ct (evE C ea) W)) : PO X (some a) (tO X.K fa ct W (evOe C (.yes ea)).2) := ⟨fun pins s σ H Q I h => (po_some ha).run pins s σ H Q I h⟩

theorem tK2_part {K : PySem.W.Frag} {fl : Option FE} {k : List SV → SV → Option Int → Sto → RE} {σ : L2.St} {x : V} {H : Hp} {Q : VK} (h : tK1 K fa ct W (fun σ s S => intO fl σ S (k σ s)) σ x H Q) :
    tO K fa ct W fl σ H fun lo H1 => tK1 K fa ct W (fun σ s S => k σ s lo S) σ x H1 Q := by
  cases fl with
  | none => exact h
  | some f =>
    obtain ⟨F0, L, σm, S, s, rs, sl, v, o⟩ := h
    have o : Out K fa ct F0 L S H (bE (f σm S) fun x S1 => pk S1 x fun a => cInt a .bad fun i => k σm s (some i) S1) Q _ := o
    refine ⟨F0, L, σm, S, rs, sl, (out_bE o).mono (fun y H1 ⟨L1, S1, t, ex, r1, v1, o1⟩ => ?_) fun _ _ _ h => h⟩
    obtain ⟨m, e1, o1⟩ := out_pk o1
    have p := peek_pv r1 v1 e1
    cases m with
    | int i => exact ⟨i, p.int, F0, L1, σm, S1, s, r1, sl.ex ex, v.ex ex, o1⟩
    | _ => exact False.elim o1
theorem ev_slc {lo hi : Option Expr} {ol oh : Oe} {p2 : Pos} (ha : PE X a (tE X.K fa ct (evE C ea) W)) (hl : PO X lo (tO X.K fa ct W (evOe C ol).2)) (hh : PO X hi (tO X.K fa ct W (evOe C oh).2)) :
    PE X (.Subscript a (.Slice lo hi none p2) pos) (tE X.K fa ct (evE C (.slc ea ol oh)) W) := by
  refine pe_imp (pe_slice (sl_all (fa := fa) (ct := ct)) ha hl hh) fun σ H Q h => ?_
  obtain ⟨F0, L, σm, S, rs, sl, h⟩ := tE_1 (f := evE C ea) (k := fun σ x S1 => intO (evOe C ol).2 σ S1 fun lo S2 => intO (evOe C oh).2 σ S2 fun hi S3 => pk S3 x fun a => oE (slcM a lo hi) S3) h
  refine ⟨F0, L, σm, S, rs, sl, h.mono (fun x H1 h1 => ?_) fun _ _ _ h => h⟩
  have two : ∀ (x : V) (lo : Option Int) (H2 : Hp), tK1 X.K fa ct W (fun σ x S2 => intO (evOe C oh).2 σ S2 fun hi S3 => pk S3 x fun a => oE (slcM a lo hi) S3) σ x H2 Q → tO X.K fa ct W (evOe C oh).2 σ H2 fun u H3 => rSl X.K fa ct x lo u H3 Q := fun x lo H2 h2 => by
    have h2 := tK2_part (k := fun _ x hi S3 => pk S3 x fun a => oE (slcM a lo hi) S3) h2
    have fin : ∀ u H3, tK1 X.K fa ct W (fun σ x S3 => pk S3 x fun a => oE (slcM a lo u) S3) σ x H3 Q → rSl X.K fa ct x lo u H3 Q := fun u H3 ⟨F0, L, σm, S, s, rs, sl, v, o⟩ => by
      obtain ⟨m, e1, o⟩ := out_pk o
      exact ⟨F0, L, S, m, rs, peek_pv rs v e1, o.any⟩
    cases q : (evOe C oh).2 with
    | none => rw [q] at h2; exact fin _ _ h2
    | some f =>
      rw [q] at h2
      obtain ⟨F0, L, σm, S, rs, sl, h2⟩ := h2
      exact ⟨F0, L, σm, S, rs, sl, h2.mono (fun y H3 ⟨i, e, h3⟩ => ⟨i, e, fin _ _ h3⟩) fun _ _ _ h => h⟩
  have h1 := tK2_part (k := fun σ x lo S2 => intO (evOe C oh).2 σ S2 fun hi S3 => pk S3 x fun a => oE (slcM a lo hi) S3) h1
  cases q : (evOe C ol).2 with
  | none => rw [q] at h1; exact two _ _ _ h1
  | some f =>
    rw [q] at h1
    obtain ⟨F0, L, σm, S, rs, sl, h1⟩ := h1
    exact ⟨F0, L, σm, S, rs, sl, h1.mono (fun y H3 ⟨i, e, h3⟩ => ⟨i, e, two _ _ _ h3⟩) fun _ _ _ h => h⟩
/-! isinstance -/
noncomputable def tyName (t : Ty) : String := @Ty.rec (fun _ => String) "int" "bool" "str" "list" "tuple" "dict" t
def mName : MV → String
  | .non => "NoneType"
  | .bl _ => "bool"
  | .int _ => "int"
  | .str _ => "str"
  | .tup _ => "tuple"
  | .lst _ => "list"
  | .dct _ _ => "dict"
  | .fn _ => "function"
theorem tyx_of {K : PySem.W.Frag} {F : Addr → Prop} {H : Hp} {m : MV} {x : V} (p : Pv K fa F H m x) (n : noFn m = true) : TyX K H x (.type (mName m)) := by
  cases m with
  | non => rw [p.non]; exact .base .non
  | bl b => rw [p.bl]; exact .base (.bl _)
  | int i => rw [p.int]; exact .base (.int _)
  | str s => rw [p.str]; exact .base (.str _)
  | lst l => obtain ⟨a, xs, rfl, h, _⟩ := p.lst; exact .base (.lst h)
  | tup l =>
    obtain ⟨a, xs, rfl, h, _⟩ := p.tup
    rcases h with ⟨h | ⟨o, h⟩, _⟩ | ⟨o, its, n, h1, h2, _⟩
    · exact .base (.tup h)
    · exact .fTuple h
    · exact .kTuple h1 h2
  | dct ks vs => exact p.dct.elim
  | fn i => cases n
theorem kit_all (t : Ty) (m : MV) (n : noFn m = true) : kitB (mName m) (tyName t) = some (isTy t m) := by
  cases t with
  | int => cases m with
    | non => exact (by decide +kernel : kitB "NoneType" "int" = some false)
    | bl b => exact (by decide +kernel : kitB "bool" "int" = some true)
    | int i => exact (by decide +kernel : kitB "int" "int" = some true)
    | str z => exact (by decide +kernel : kitB "str" "int" = some false)
    | tup l => exact (by decide +kernel : kitB "tuple" "int" = some false)
    | lst l => exact (by decide +kernel : kitB "list" "int" = some false)
    | dct ks vs => exact (by decide +kernel : kitB "dict" "int" = some false)
    | fn i => cases n
  | bool => cases m with
    | non => exact (by decide +kernel : kitB "NoneType" "bool" = some false)
    | bl b => exact (by decide +kernel : kitB "bool" "bool" = some true)
    | int i => exact (by decide +kernel : kitB "int" "bool" = some false)
    | str z => exact (by decide +kernel : kitB "str" "bool" = some false)
    | tup l => exact (by decide +kernel : kitB "tuple" "bool" = some false)
    | lst l => exact (by decide +kernel : kitB "list" "bool" = some false)
    | dct ks vs => exact (by decide +kernel : kitB "dict" "bool" = some false)
    | fn i => cases n
  | str => cases m with
    | non => exact (by decide +kernel : kitB "NoneType" "str" = some false)
    | bl b => exact (by decide +kernel : kitB "bool" "str" = some false)
    | int i => exact (by decide +kernel : kitB "int" "str" = some false)
    | str z => exact (by decide +kernel : kitB "str" "str" = some true)
    | tup l => exact (by decide +kernel : kitB "tuple" "str" = some false)
    | lst l => exact (by decide +kernel : kitB "list" "str" = some false)
    | dct ks vs => exact (by decide +kernel : kitB "dict" "str" = some false)
    | fn i => cases n
  | list => cases m with
    | non => exact (by decide +kernel : kitB "NoneType" "list" = some false)
    | bl b => exact (by decide +kernel : kitB "bool" "list" = some false)
    | int i => exact (by decide +kernel : kitB "int" "list" = some false)
    | str z => exact (by decide +kernel : kitB "str" "list" = some false)
    | tup l => exact (by decide +kernel : kitB "tuple" "list" = some false)
    | lst l => exact (by decide +kernel : kitB "list" "list" = some true)
    | dct ks vs => exact (by decide +kernel : kitB "dict" "list" = some false)
    | fn i => cases n
  | tuple => cases m with
    | non => exact (by decide +kernel : kitB "NoneType" "tuple" = some false)
    | bl b => exact (by decide +kernel : kitB "bool" "tuple" = some false)
    | int i => exact (by decide +kernel : kitB "int" "tuple" = some false)
    | str z => exact (by decide +kernel : kitB "str" "tuple" = some false)
    | tup l => exact (by decide +kernel : kitB "tuple" "tuple" = some true)
    | lst l => exact (by decide +kernel : kitB "list" "tuple" = some false)
    | dct ks vs => exact (by decide +kernel : kitB "dict" "tuple" = some false)
    | fn i => cases n
  | dict => cases m with
    | non => exact (by decide +kernel : kitB "NoneType" "dict" = some false)
    | bl b => exact (by decide +kernel : kitB "bool" "dict" = some false)
    | int i => exact (by decide +kernel : kitB "int" "dict" = some false)
    | str z => exact (by decide +kernel : kitB "str" "dict" = some false)
    | tup l => exact (by decide +kernel : kitB "tuple" "dict" = some false)
    | lst l => exact (by decide +kernel : kitB "list" "dict" = some false)
    | dct ks vs => exact (by decide +kernel : kitB "dict" "dict" = some true)
    | fn i => cases n
theorem isi_one {K : PySem.W.Frag} {F : Addr → Prop} {H : Hp} {m : MV} {x : V} (p : Pv K fa F H m x) (n : noFn m = true) (t : Ty) : PySem.W.kitOne K (.type (mName m)) (.type (tyName t)) = some (isTy t m) :=
  kit_ty (kit_all t m n)
end
end Ev

/-! isinstance, the builtins. -/
namespace Ev
open PySem PySem.Spec PyProof.Rows L2
variable {X : Cx} {fa ct : Nat → Option Addr} {W : WX} {C : Cfg}
/-- a builtin name of the frame -/
structure Bn (X : Cx) (x : Str) (v : Value) : Prop where
  gl : Gl X x
  mg : X.mg x = none
  bt : bootBuiltins x = some v
  nn : x ≠ "__name__"
  db : (x == ("__debug__" : Str)) = false
section
variable {e : Expr} {es : List Expr} {ea : E} {eas : Es} {pos p : Pos}
/-- names of classes -/
noncomputable def tTys (ts : List Ty) : TA := fun _ H Q => Q (ts.map fun t => V.ty (tyName t)) H
theorem et_nil : PA X [] (tTys []) := pa_imp pa_nil fun _ _ _ h => h
theorem et_cons {x : Str} {t : Ty} {ts : List Ty} (b : Bn X x (.type (tyName t))) (hr : PA X es (tTys ts)) : PA X (.Name x p :: es) (tTys (t :: ts)) :=
  pa_imp (pa_cons (pe_bltn (v := .ty (tyName t)) b.gl b.mg b.bt rfl b.nn b.db) hr (by rfl)) fun _ _ _ h => h
theorem Pv.ex {K : PySem.W.Frag} {F0 : Addr → Prop} {L L' : List Addr} {S S' : Sto} {H H' : Hp} (ex : Ex L S H L' S' H') {m : MV} {x : V} (kl : ∀ a xs, H a = some (.lst xs) → H' a = some (.lst xs)) (h : Pv K fa (Fz F0 L S) H m x) : Pv K fa (Fz F0 L' S') H' m x := by
  rcases h with h | ⟨a, xs, ms, h1, h2, h3, h4⟩
  · exact .inl (Rv.ex (F0 := F0) ex h)
  · exact .inr ⟨a, xs, ms, h1, h2, kl a xs h3, Rvs.ex (F0 := F0) ex h4⟩
theorem clsv_all : ∀ ts : List Ty, Paired ClsV (ts.map fun t => V.ty (tyName t)) (ts.map fun t => Value.type (tyName t))
  | [] => .nil
  | _ :: ts => .cons (.ty _) (clsv_all ts)
theorem kit_any {K : PySem.W.Frag} {F : Addr → Prop} {H : Hp} {m : MV} {x : V} (p : Pv K fa F H m x) (n : noFn m = true) : ∀ ts : List Ty, PySem.W.kitAny K (.type (mName m)) (ts.map fun t => Value.type (tyName t)) = some (isiM ts m)
  | [] => kitAny_nil
  | t :: ts => by
    refine kitAny_cons (isi_one p n t) (fun h => ?_) fun h => ?_
    · show _ = some (bR (isTy t m) true (isiM ts m))
      rw [h]
      exact kit_any p n ts
    · show bR (isTy t m) true (isiM ts m) = true
      rw [h]
      rfl
theorem isi_reads {K : PySem.W.Frag} {ts : List Ty} {σ : L2.St} {H : Hp} {Q : VK} (h : tE K fa ct (evE C (.isi ts ea)) W σ H Q) : tE K fa ct (evE C ea) W σ H fun x H1 => ∃ F0 L S a, RepS K fa F0 L S H1 ∧ Pv K fa (Fz F0 L S) H1 a x ∧ noFn a = true ∧ Out K fa ct F0 L S H1 (.val (.v (.bl (isiM ts a))) S) Q (fun _ _ _ => True) := by
  obtain ⟨F0, L, σm, S, rs, sl, h⟩ := tE_1 (f := evE C ea) (k := fun _ x S1 => pk S1 x fun a => bR (noFn a) (.val (.v (.bl (isiM ts a))) S1) .bad) h
  refine ⟨F0, L, σm, S, rs, sl, h.mono (fun x H1 h1 => ?_) fun _ _ _ h => h⟩
  obtain ⟨F0, L, σm, S, s, rs, sl, v, o⟩ := h1
  obtain ⟨m, e1, o⟩ := out_pk o
  cases q : noFn m with
  | false => rw [q] at o; exact False.elim o
  | true =>
    rw [q] at o
    exact ⟨F0, L, S, m, rs, peek_pv rs v e1, q, Out.any o⟩
theorem ev_isi1 {x y : Str} {t : Ty} {p1 p2 : Pos} (b : Bn X x (.builtin "isinstance")) (b2 : Bn X y (.type (tyName t))) (ha : PE X e (tE X.K fa ct (evE C ea) W))
    (he : starEach (e :: [.Name y p2]) X.env = (false, eval e X.env) :: starEach [.Name y p2] X.env := by rfl) (hpl : (backTo pos (starEach [.Name y p2] X.env)).any (·.1) = false := by rfl) :
    PE X (.Call (.Name x p1) [e, .Name y p2] [] pos) (tE X.K fa ct (evE C (.isi [t] ea)) W) := by
  have hp : PA X [e, .Name y p2] (tCons (tE X.K fa ct (evE C ea) W) (tTys [t])) := pa_cons ha (et_cons b2 et_nil) he
  refine pe_imp (pe_callB call_isi b.gl b.mg b.bt hp b.nn b.db he hpl) fun σ H Q h => ?_
  obtain ⟨F0, L, σm, S, rs, sl, h⟩ := isi_reads h
  refine ⟨F0, L, σm, S, rs, sl, h.mono (fun x H1 ⟨F0, L, S, a, rs, pa, n, o⟩ => ?_) fun _ _ _ h => h⟩
  refine ⟨x, _, _, _, _, rfl, .ty (tyName t), tyx_of pa n, isi_one pa n t, ?_⟩
  have q := bl_here rs o
  have e : isiM [t] a = isTy t a := by
    show bR (isTy t a) true false = _
    cases isTy t a <;> rfl
  rw [e] at q
  exact q
theorem ev_isi {x : Str} {ts : List Ty} {n : Nat} {p1 p2 : Pos} (b : Bn X x (.builtin "isinstance")) (ha : PE X e (tE X.K fa ct (evE C ea) W)) (ht : PA X es (tTys ts)) (hl : ts.length ≤ 100 := by decide)
    (he : starEach (e :: [.Tuple es n p2]) X.env = (false, eval e X.env) :: starEach [.Tuple es n p2] X.env := by rfl) (hpl : (backTo pos (starEach [.Tuple es n p2] X.env)).any (·.1) = false := by rfl) :
    PE X (.Call (.Name x p1) [e, .Tuple es n p2] [] pos) (tE X.K fa ct (evE C (.isi ts ea)) W) := by
  have hp : PA X [e, .Tuple es n p2] (tCons (tE X.K fa ct (evE C ea) W) (tCons (tTup (tTys ts)) tNil)) := pa_cons ha (pa_cons (pe_tup ht) pa_nil (by rfl)) he
  refine pe_imp (pe_callB call_isiT b.gl b.mg b.bt hp b.nn b.db he hpl) fun σ H Q h => ?_
  obtain ⟨F0, L, σm, S, rs, sl, h⟩ := isi_reads h
  refine ⟨F0, L, σm, S, rs, sl, h.mono (fun x H1 ⟨F0, L, S, a, rs, pa, nf, o⟩ => ?_) fun _ _ _ h => h⟩
  refine ⟨by rw [List.length_map, sizeLine_eq]; omega, fun p hp => ?_⟩
  obtain ⟨ex, rs'⟩ := rs.fresh (o := .tup (ts.map fun t => V.ty (tyName t))) hp
  have pa' := Pv.ex ex (fun a xs e => by rw [upd_ne (ne_of_none e hp)]; exact e) pa
  exact ⟨x, p, _, _, _, _, rfl, upd_same, clsv_all ts, tyx_of pa' nf, kit_any pa' nf ts, bl_here rs' (o.from ex)⟩
/-! builtins -/
/-- a builtin's promise by the evaluator -/
def rP (K : PySem.W.Frag) (fa ct : Nat → Option Addr) (p : Prim) : List V → Hp → VK → Prop := fun xs H Q => ∃ F0 L S ms, RepS K fa F0 L S H ∧ Pvs K fa (Fz F0 L S) H ms xs ∧ Out K fa ct F0 L S H (primM p ms S) Q (fun _ _ _ => True)
theorem pr_reads {K : PySem.W.Frag} {pr : Prim} {σ : L2.St} {H : Hp} {Q : VK} (h : tE K fa ct (evE C (.pr pr eas)) W σ H Q) : tCB (rP K fa ct pr) (tA K fa ct W (evEs C eas)) σ H Q := by
  obtain ⟨F0, L, σm, S, rs, sl, h⟩ := tE_A (f := evEs C eas) (k := fun _ vs S1 => oR (pks S1 vs) .bad fun ms => primM pr ms S1) h
  refine ⟨F0, L, σm, S, rs, sl, h.mono (fun xs H1 h1 => ?_) fun _ _ _ h => h⟩
  obtain ⟨F0, L, σm, S, ss, rs, sl, v, o⟩ := h1
  obtain ⟨ms, e1, o⟩ := out_oR o
  exact ⟨F0, L, S, ms, rs, v.pk rs e1, o.any⟩
theorem ev_pr {x : Str} {id : String} {pr : Prim} {p1 : Pos} (b : Bn X x (.builtin id)) (hc : CallR X (.builtin id) (rP X.K fa ct pr)) (ha : PA X (e :: es) (tA X.K fa ct W (evEs C eas)))
    (he : starEach (e :: es) X.env = (false, eval e X.env) :: starEach es X.env := by rfl) (hpl : (backTo pos (starEach es X.env)).any (·.1) = false := by rfl) : PE X (.Call (.Name x p1) (e :: es) [] pos) (tE X.K fa ct (evE C (.pr pr eas)) W) :=
  pe_imp (pe_callB hc b.gl b.mg b.bt ha b.nn b.db he hpl) fun _ _ _ => pr_reads
theorem ev_prT {x : Str} {T : String} {pr : Prim} {p1 : Pos} (b : Bn X x (.type T)) (hc : CallR X (.type T) (rP X.K fa ct pr)) (ha : PA X (e :: es) (tA X.K fa ct W (evEs C eas)))
    (he : starEach (e :: es) X.env = (false, eval e X.env) :: starEach es X.env := by rfl) (hpl : (backTo pos (starEach es X.env)).any (·.1) = false := by rfl) : PE X (.Call (.Name x p1) (e :: es) [] pos) (tE X.K fa ct (evE C (.pr pr eas)) W) :=
  pe_imp (pe_callTy hc b.gl b.mg b.bt ha b.nn b.db he hpl) fun _ _ _ => pr_reads
end
theorem one_some {l : List MV} {k : MV → Option MV} {m : MV} (h : one l k = some m) : ∃ x, l = [x] ∧ k x = some m := by
  cases l with
  | nil => cases h
  | cons x r => cases r with
    | nil => exact ⟨x, rfl, h⟩
    | cons y r => cases h
theorem two_some {l : List MV} {k : MV → MV → Option MV} {m : MV} (h : two l k = some m) : ∃ x y, l = [x, y] ∧ k x y = some m := by
  cases l with
  | nil => cases h
  | cons x r =>
    obtain ⟨y, rfl, h⟩ := one_some (show one r (k x) = some m from h)
    exact ⟨x, y, rfl, h⟩
section
variable {K : PySem.W.Frag} {F : Addr → Prop} {H : Hp}
theorem Pvs.one {m : MV} {xs : List V} (h : Pvs K fa F H [m] xs) : ∃ x, xs = [x] ∧ Pv K fa F H m x := by
  cases h with
  | cons p t => cases t; exact ⟨_, rfl, p⟩
theorem Pvs.two {m n : MV} {xs : List V} (h : Pvs K fa F H [m, n] xs) : ∃ x y, xs = [x, y] ∧ Pv K fa F H m x ∧ Pv K fa F H n y := by
  cases h with
  | cons p t =>
    obtain ⟨y, rfl, q⟩ := Pvs.one t
    exact ⟨_, y, rfl, p, q⟩
theorem CallR.imp {f : Value} {r r' : List V → Hp → VK → Prop} (h : CallR X f r) (i : ∀ xs H Q, r' xs H Q → r xs H Q) : CallR X f r' := fun pins s σ H xs us Q I rv q => h pins s σ H xs us Q I rv (i _ _ _ q)
theorem cp_len : CallR X (.builtin "len") (rP X.K fa ct .len) := by
  refine CallR.imp call_len fun xs H Q ⟨F0, L, S, ms, rs, pv, o⟩ => ?_
  obtain ⟨m, e, o1⟩ := out_oE (o := one ms lenM) o
  clear o
  obtain ⟨a, rfl, e⟩ := one_some e
  obtain ⟨x, rfl, p⟩ := pv.one
  cases a with
  | lst l =>
    obtain ⟨a, ys, rfl, h, r⟩ := p.lst
    cases (show some (MV.int (Int.ofNat (lenL l))) = some m from e)
    refine ⟨.ref a, l.length, rfl, ?_, ?_⟩
    · exact .inl ⟨ys, .inl (.inl h), r.length⟩
    · rw [← lenL_eq]; exact Out.here rs o1 (.int _)
  | tup l =>
    obtain ⟨a, ys, rfl, h, r⟩ := p.tup
    cases (show some (MV.int (Int.ofNat (lenL l))) = some m from e)
    refine ⟨.ref a, l.length, rfl, ?_, ?_⟩
    · exact .inr ⟨ys, h.sq, r.length⟩
    · rw [← lenL_eq]; exact Out.here rs o1 (.int _)
  | str z =>
    cases (show some (MV.int (Int.ofNat (lenL z))) = some m from e)
    refine ⟨_, z.length, rfl, ?_, ?_⟩
    · rw [p.str]
      refine ⟨?_, ?_⟩
      · show z.toArray.size ≤ sizeLine
        rw [List.size_toArray]; exact million p.strLen
      · show z.length = z.toArray.size
        rw [List.size_toArray]
    · rw [← lenL_eq]; exact Out.here rs o1 (.int _)
  | dct ks vs => exact p.dct.elim
  | _ => cases e
theorem cp_tuple : CallR X (.type "tuple") (rP X.K fa ct .tuple) := by
  refine CallR.imp call_tuple_of fun xs H Q ⟨F0, L, S, ms, rs, pv, o⟩ => ?_
  obtain ⟨m, e, o1⟩ := out_oE (o := one ms fun x => oR (iterM x) none fun ms => some (.tup ms)) o
  clear o
  obtain ⟨a, rfl, e⟩ := one_some e
  obtain ⟨x, rfl, p⟩ := pv.one
  cases a with
  | lst l =>
    obtain ⟨a, ys, rfl, h, r⟩ := p.lst
    cases (show some (MV.tup l) = some m from e)
    exact ⟨a, ys, rfl, .inl ⟨.inl (.inl h), fun q hq => Out.tup rs o1 hq r⟩⟩
  | tup l =>
    obtain ⟨a, ys, rfl, h, r⟩ := p.tup
    cases (show some (MV.tup l) = some m from e)
    exact ⟨a, ys, rfl, .inr ⟨h.sq, Out.here rs o1 (.tup h r)⟩⟩
  | dct ks vs => exact p.dct.elim
  | _ => cases e
theorem cp_list {own : Bool} : CallR X (.type "list") (rP X.K fa ct (.list own)) := by
  refine CallR.imp call_list_of fun xs H Q ⟨F0, L, S, ms, rs, pv, o⟩ => ?_
  have o : Out X.K fa ct F0 L S H (oR (@List.rec MV (fun _ => Option (List MV)) none (fun x r _ => @List.rec MV (fun _ => Option (List MV)) (iterM x) (fun _ _ _ => none) r) ms) .bad fun ms => newL own (revL ms) S) Q _ := o
  obtain ⟨l, e, o1⟩ := out_oR o
  clear o
  cases ms with
  | nil => cases e
  | cons a r => cases r with
    | cons _ _ => cases e
    | nil =>
      obtain ⟨x, rfl, p⟩ := pv.one
      have e : iterM a = some l := e
      cases a with
      | lst l =>
        obtain ⟨a, ys, rfl, h, r⟩ := p.lst
        cases e
        exact ⟨a, ys, rfl, .inl (.inl (.inl h)), fun q hq => (Out.newL rs o1 hq (by rw [revL_eq, List.reverse_reverse]; exact r)).2⟩
      | tup l =>
        obtain ⟨a, ys, rfl, h, r⟩ := p.tup
        cases e
        exact ⟨a, ys, rfl, .inr h.sq, fun q hq => (Out.newL rs o1 hq (by rw [revL_eq, List.reverse_reverse]; exact r)).2⟩
      | dct ks vs => exact p.dct.elim
      | _ => cases e
theorem Rvs.bls : ∀ {bs : List Bool} {xs : List V}, Rvs K fa F H (bs.map MV.bl) xs → xs = bs.map V.bl
  | [], _, h => by cases h; rfl
  | b :: bs, _, h => by
    rw [List.map_cons] at h
    cases h with
    | cons r t =>
      cases r
      rw [List.map_cons, Rvs.bls t]
theorem Rvs.ints : ∀ {bs : List Int} {xs : List V}, Rvs K fa F H (bs.map MV.int) xs → xs = bs.map V.int
  | [], _, h => by cases h; rfl
  | b :: bs, _, h => by
    rw [List.map_cons] at h
    cases h with
    | cons r t =>
      cases r
      rw [List.map_cons, Rvs.ints t]
theorem allBl_some : ∀ {l : List MV} {b : Bool}, allBl l = some b → ∃ bs : List Bool, l = bs.map MV.bl ∧ b = bs.all id
  | [], b, h => by cases (show some true = some b from h); exact ⟨[], rfl, rfl⟩
  | x :: l, b, h => by
    cases x with
    | bl c =>
      have h : oR (allBl l) none (fun r => some (bR c r false)) = some b := h
      cases q : allBl l with
      | none => rw [q] at h; cases h
      | some d =>
        rw [q] at h
        obtain ⟨bs, rfl, rfl⟩ := allBl_some q
        cases (show some (bR c (bs.all id) false) = some b from h)
        exact ⟨c :: bs, rfl, by cases c <;> rfl⟩
    | _ => cases h
theorem anyBl_some : ∀ {l : List MV} {b : Bool}, anyBl l = some b → ∃ bs : List Bool, l = bs.map MV.bl ∧ b = bs.any id
  | [], b, h => by cases (show some false = some b from h); exact ⟨[], rfl, rfl⟩
  | x :: l, b, h => by
    cases x with
    | bl c =>
      have h : oR (anyBl l) none (fun r => some (bR c true r)) = some b := h
      cases q : anyBl l with
      | none => rw [q] at h; cases h
      | some d =>
        rw [q] at h
        obtain ⟨bs, rfl, rfl⟩ := anyBl_some q
        cases (show some (bR c true (bs.any id)) = some b from h)
        exact ⟨c :: bs, rfl, by cases c <;> rfl⟩
    | _ => cases h
theorem sumI_some : ∀ {l : List MV} {b : Int}, sumI l = some b → ∃ bs : List Int, l = bs.map MV.int ∧ b = bs.sum
  | [], b, h => by cases (show some (0 : Int) = some b from h); exact ⟨[], rfl, rfl⟩
  | x :: l, b, h => by
    cases x with
    | int c =>
      have h : oR (sumI l) none (fun r => some (addI c r)) = some b := h
      cases q : sumI l with
      | none => rw [q] at h; cases h
      | some d =>
        rw [q] at h
        obtain ⟨bs, rfl, rfl⟩ := sumI_some q
        cases (show some (addI c bs.sum) = some b from h)
        exact ⟨c :: bs, rfl, by rw [addI_eq, List.sum_cons]⟩
    | _ => cases h
theorem maxI_some : ∀ {l : List MV} {i k : Int}, maxI l i = some k → ∃ bs : List Int, l = bs.map MV.int ∧ k ∈ i :: bs ∧ ∀ y ∈ i :: bs, y ≤ k
  | [], i, k, h => by cases (show some i = some k from h); exact ⟨[], rfl, by simp, by simp⟩
  | x :: l, i, k, h => by
    cases x with
    | int c =>
      have h : maxI l (bR (ltB i c) c i) = some k := h
      obtain ⟨bs, rfl, h1, h2⟩ := maxI_some h
      refine ⟨c :: bs, rfl, ?_, ?_⟩
      · cases q : ltB i c with
        | true =>
          rw [q] at h1
          rcases List.mem_cons.mp (show k ∈ c :: bs from h1) with z | z
          · rw [z]; simp
          · simp [z]
        | false =>
          rw [q] at h1
          rcases List.mem_cons.mp (show k ∈ i :: bs from h1) with z | z
          · rw [z]; simp
          · simp [z]
      · have hb : ∀ y ∈ bs, y ≤ k := fun y hy => h2 y (List.mem_cons_of_mem _ hy)
        have hi := h2 _ List.mem_cons_self
        have hic : i ≤ k ∧ c ≤ k := by
          cases q : ltB i c with
          | true =>
            rw [q] at hi
            have := (ltB_iff i c).mp q
            have hi : c ≤ k := hi
            omega
          | false =>
            rw [q] at hi
            have hi : i ≤ k := hi
            have : ¬ i < c := fun z => by rw [(ltB_iff i c).mpr z] at q; cases q
            omega
        intro y hy
        rcases List.mem_cons.mp hy with rfl | hy
        · exact hic.1
        · rcases List.mem_cons.mp hy with rfl | hy
          · exact hic.2
          · exact hb y hy
    | _ => cases h
theorem minI_some : ∀ {l : List MV} {i k : Int}, minI l i = some k → ∃ bs : List Int, l = bs.map MV.int ∧ k ∈ i :: bs ∧ ∀ y ∈ i :: bs, k ≤ y
  | [], i, k, h => by cases (show some i = some k from h); exact ⟨[], rfl, by simp, by simp⟩
  | x :: l, i, k, h => by
    cases x with
    | int c =>
      have h : minI l (bR (ltB c i) c i) = some k := h
      obtain ⟨bs, rfl, h1, h2⟩ := minI_some h
      refine ⟨c :: bs, rfl, ?_, ?_⟩
      · cases q : ltB c i with
        | true =>
          rw [q] at h1
          rcases List.mem_cons.mp (show k ∈ c :: bs from h1) with z | z
          · rw [z]; simp
          · simp [z]
        | false =>
          rw [q] at h1
          rcases List.mem_cons.mp (show k ∈ i :: bs from h1) with z | z
          · rw [z]; simp
          · simp [z]
      · have hb : ∀ y ∈ bs, k ≤ y := fun y hy => h2 y (List.mem_cons_of_mem _ hy)
        have hi := h2 _ List.mem_cons_self
        have hic : k ≤ i ∧ k ≤ c := by
          cases q : ltB c i with
          | true =>
            rw [q] at hi
            have := (ltB_iff c i).mp q
            have hi : k ≤ c := hi
            omega
          | false =>
            rw [q] at hi
            have hi : k ≤ i := hi
            have : ¬ c < i := fun z => by rw [(ltB_iff c i).mpr z] at q; cases q
            omega
        intro y hy
        rcases List.mem_cons.mp hy with rfl | hy
        · exact hic.1
        · rcases List.mem_cons.mp hy with rfl | hy
          · exact hic.2
          · exact hb y hy
    | _ => cases h
theorem exM_some {l : List MV} {f : List MV → Int → Option Int} {m : MV} (h : exM l f = some m) : ∃ i r k, l = .int i :: r ∧ f r i = some k ∧ m = .int k := by
  cases l with
  | nil => cases h
  | cons x r =>
    cases x with
    | int i =>
      have h : oR (f r i) none (fun k => some (.int k)) = some m := h
      cases q : f r i with
      | none => rw [q] at h; cases h
      | some k => rw [q] at h; cases h; exact ⟨i, r, k, rfl, q, rfl⟩
    | _ => cases h
theorem cp_all (hc : X.calm = true) : CallR X (.builtin "all") (rP X.K fa ct .all) := by
  refine CallR.imp (cr_all hc) fun xs H Q ⟨F0, L, S, ms, rs, pv, o⟩ => ?_
  obtain ⟨m, e, o1⟩ := out_oE (o := one ms fun x => cLst x none fun ms => ofB (allBl ms)) o
  clear o
  obtain ⟨a, rfl, e⟩ := one_some e
  obtain ⟨x, rfl, p⟩ := pv.one
  cases a with
  | lst l =>
    obtain ⟨a, ys, rfl, h, r⟩ := p.lst
    have e : oR (allBl l) none (fun b => some (.bl b)) = some m := e
    cases q : allBl l with
    | none => rw [q] at e; cases e
    | some b =>
      rw [q] at e; cases e
      obtain ⟨bs, rfl, rfl⟩ := allBl_some q
      exact ⟨a, bs, rfl, by rw [← r.bls]; exact .inl (.inl h), bl_here rs o1⟩
  | _ => cases e
theorem cp_any (hc : X.calm = true) : CallR X (.builtin "any") (rP X.K fa ct .any) := by
  refine CallR.imp (cr_any hc) fun xs H Q ⟨F0, L, S, ms, rs, pv, o⟩ => ?_
  obtain ⟨m, e, o1⟩ := out_oE (o := one ms fun x => cLst x none fun ms => ofB (anyBl ms)) o
  clear o
  obtain ⟨a, rfl, e⟩ := one_some e
  obtain ⟨x, rfl, p⟩ := pv.one
  cases a with
  | lst l =>
    obtain ⟨a, ys, rfl, h, r⟩ := p.lst
    have e : oR (anyBl l) none (fun b => some (.bl b)) = some m := e
    cases q : anyBl l with
    | none => rw [q] at e; cases e
    | some b =>
      rw [q] at e; cases e
      obtain ⟨bs, rfl, rfl⟩ := anyBl_some q
      exact ⟨a, bs, rfl, by rw [← r.bls]; exact .inl (.inl h), bl_here rs o1⟩
  | _ => cases e
theorem cp_sum (hc : X.calm = true) : CallR X (.builtin "sum") (rP X.K fa ct .sum) := by
  refine CallR.imp (cr_sum hc) fun xs H Q ⟨F0, L, S, ms, rs, pv, o⟩ => ?_
  obtain ⟨m, e, o1⟩ := out_oE (o := one ms fun x => cLst x none fun ms => ofI (sumI ms)) o
  clear o
  obtain ⟨a, rfl, e⟩ := one_some e
  obtain ⟨x, rfl, p⟩ := pv.one
  cases a with
  | lst l =>
    obtain ⟨a, ys, rfl, h, r⟩ := p.lst
    have e : oR (sumI l) none (fun b => some (.int b)) = some m := e
    cases q : sumI l with
    | none => rw [q] at e; cases e
    | some b =>
      rw [q] at e; cases e
      obtain ⟨bs, rfl, rfl⟩ := sumI_some q
      exact ⟨a, bs, rfl, by rw [← r.ints]; exact .inl (.inl h), Out.here rs o1 (.int _)⟩
  | _ => cases e
theorem cp_max1 (hc : X.calm = true) : CallR X (.builtin "max") (rP X.K fa ct .max1) := by
  refine CallR.imp (cr_max hc) fun xs H Q ⟨F0, L, S, ms, rs, pv, o⟩ => ?_
  obtain ⟨m, e, o1⟩ := out_oE (o := one ms fun x => cLst x none fun ms => exM ms maxI) o
  clear o
  obtain ⟨a, rfl, e⟩ := one_some e
  obtain ⟨x, rfl, p⟩ := pv.one
  cases a with
  | lst l =>
    obtain ⟨a, ys, rfl, h, r⟩ := p.lst
    obtain ⟨i, t, k, rfl, h1, rfl⟩ := exM_some e
    obtain ⟨bs, rfl, h2, h3⟩ := maxI_some h1
    have r : Rvs X.K fa (Fz F0 L S) H ((i :: bs).map MV.int) ys := r
    refine ⟨a, i :: bs, rfl, by rw [← r.ints]; exact .inl (.inl h), by simp, fun n hn hu => ?_⟩
    have : n = k := Int.le_antisymm (h3 n hn) (hu k h2)
    rw [this]
    exact Out.here rs o1 (.int _)
  | _ => cases e
theorem cp_min1 (hc : X.calm = true) : CallR X (.builtin "min") (rP X.K fa ct .min1) := by
  refine CallR.imp (cr_min hc) fun xs H Q ⟨F0, L, S, ms, rs, pv, o⟩ => ?_
  obtain ⟨m, e, o1⟩ := out_oE (o := one ms fun x => cLst x none fun ms => exM ms minI) o
  clear o
  obtain ⟨a, rfl, e⟩ := one_some e
  obtain ⟨x, rfl, p⟩ := pv.one
  cases a with
  | lst l =>
    obtain ⟨a, ys, rfl, h, r⟩ := p.lst
    obtain ⟨i, t, k, rfl, h1, rfl⟩ := exM_some e
    obtain ⟨bs, rfl, h2, h3⟩ := minI_some h1
    have r : Rvs X.K fa (Fz F0 L S) H ((i :: bs).map MV.int) ys := r
    refine ⟨a, i :: bs, rfl, by rw [← r.ints]; exact .inl (.inl h), by simp, fun n hn hu => ?_⟩
    have : n = k := Int.le_antisymm (hu k h2) (h3 n hn)
    rw [this]
    exact Out.here rs o1 (.int _)
  | _ => cases e
theorem cp_max2 (hc : X.calm = true) : CallR X (.builtin "max") (rP X.K fa ct .max2) := by
  refine CallR.imp (call_max2 hc) fun xs H Q ⟨F0, L, S, ms, rs, pv, o⟩ => ?_
  obtain ⟨m, e, o1⟩ := out_oE (o := two ms fun x y => exM [x, y] maxI) o
  clear o
  obtain ⟨a, b, rfl, e2⟩ := two_some e
  clear e
  obtain ⟨x, y, rfl, p, q⟩ := pv.two
  obtain ⟨i, t, k, e1, h1, rfl⟩ := exM_some e2
  cases e1
  cases b with
  | int j =>
    have h1 : some (bR (ltB i j) j i) = some k := h1
    cases h1
    refine ⟨i, j, by rw [p.int, q.int], ?_⟩
    have z := Out.here rs o1 (.int _)
    have hd := ltB_dec i j
    by_cases hij : i < j
    · rw [if_pos hij]; rw [hd, decide_eq_true hij] at z; exact z
    · rw [if_neg hij]; rw [hd, decide_eq_false hij] at z; exact z
  | _ => cases h1
theorem cp_min2 (hc : X.calm = true) : CallR X (.builtin "min") (rP X.K fa ct .min2) := by
  refine CallR.imp (call_min2 hc) fun xs H Q ⟨F0, L, S, ms, rs, pv, o⟩ => ?_
  obtain ⟨m, e, o1⟩ := out_oE (o := two ms fun x y => exM [x, y] minI) o
  clear o
  obtain ⟨a, b, rfl, e2⟩ := two_some e
  clear e
  obtain ⟨x, y, rfl, p, q⟩ := pv.two
  obtain ⟨i, t, k, e1, h1, rfl⟩ := exM_some e2
  cases e1
  cases b with
  | int j =>
    have h1 : some (bR (ltB j i) j i) = some k := h1
    cases h1
    refine ⟨i, j, by rw [p.int, q.int], ?_⟩
    have z := Out.here rs o1 (.int _)
    have hd := ltB_dec j i
    by_cases hij : j < i
    · rw [if_pos hij]; rw [hd, decide_eq_true hij] at z; exact z
    · rw [if_neg hij]; rw [hd, decide_eq_false hij] at z; exact z
  | _ => cases h1
theorem cp_abs : CallR X (.builtin "abs") (rP X.K fa ct .abs) := by
  refine CallR.imp call_abs fun xs H Q ⟨F0, L, S, ms, rs, pv, o⟩ => ?_
  obtain ⟨m, e, o1⟩ := out_oE (o := one ms fun x => cInt x none fun i => some (.int (bR (ltB i 0) (Int.neg i) i))) o
  clear o
  obtain ⟨a, rfl, e⟩ := one_some e
  obtain ⟨x, rfl, p⟩ := pv.one
  cases a with
  | int i =>
    cases (show some (MV.int (bR (ltB i 0) (Int.neg i) i)) = some m from e)
    refine ⟨i, by rw [p.int], ?_⟩
    have z := Out.here rs o1 (.int _)
    have hd := ltB_dec i 0
    by_cases hij : i < 0
    · rw [if_pos hij]; rw [hd, decide_eq_true hij] at z; exact z
    · rw [if_neg hij]; rw [hd, decide_eq_false hij] at z; exact z
  | _ => cases e
theorem cp_int : CallR X (.type "int") (rP X.K fa ct .int) := by
  refine CallR.imp call_int1 fun xs H Q ⟨F0, L, S, ms, rs, pv, o⟩ => ?_
  obtain ⟨m, e, o1⟩ := out_oE (o := one ms fun x => cInt x (cBl x none fun b => some (.int (b2n b))) fun i => some (.int i)) o
  clear o
  obtain ⟨a, rfl, e⟩ := one_some e
  obtain ⟨x, rfl, p⟩ := pv.one
  cases a with
  | int i =>
    cases (show some (MV.int i) = some m from e)
    exact .inl ⟨i, by rw [p.int], Out.here rs o1 (.int _)⟩
  | bl b =>
    cases (show some (MV.int (b2n b)) = some m from e)
    refine .inr ⟨b, by rw [p.bl], ?_⟩
    have z := Out.here rs o1 (.int _)
    cases b <;> exact z
  | _ => cases e
end
end Ev

/-! Calls of defs. -/
namespace Ev
open PySem PySem.Spec PyProof.Rows L2
variable {X : Cx} {fa ct : Nat → Option Addr} {W : WX} {C : Cfg}
section
variable (K : PySem.W.Frag) (fa ct : Nat → Option Addr)
inductive RepVo (F0 : Addr → Prop) (L : List Addr) (S : Sto) (H : Hp) : List SV → List V → Prop
  | nil : RepVo F0 L S H [] []
  | cons {s : SV} {ss : List SV} {x : V} {xs : List V} : (s = .u ∨ RepV K fa F0 L S H s x) → RepVo F0 L S H ss xs → RepVo F0 L S H (s :: ss) (x :: xs)
/-- the promise of the f-th def -/
def spF (call : Calls) (f : Nat) : Sp := fun vs H Q E => ∃ F0 L S svs, RepS K fa F0 L S H ∧ RepVo K fa F0 L S H svs vs ∧ Out K fa ct F0 L S H (call f svs S) Q E
end
section
variable {K : PySem.W.Frag} {F0 : Addr → Prop} {L L' : List Addr} {S S' : Sto} {H H' : Hp} {Q : VK} {E : XK}
theorem RepVs.vo : ∀ {s : List SV} {x : List V}, RepVs K fa F0 L S H s x → RepVo K fa F0 L S H s x
  | _, _, .nil => .nil
  | _, _, .cons r t => .cons (.inr r) (RepVs.vo t)
theorem RepVo.as : ∀ {ss : List SV} {xs : List V} {ms : List MV}, RepVo K fa F0 L S H ss xs → asVs ss = some ms → ss = ms.map SV.v ∧ Rvs K fa (Fz F0 L S) H ms xs
  | _, _, ms, .nil, e => by cases (show some [] = some ms from e); exact ⟨rfl, .nil⟩
  | _, _, ms, .cons (s := s) (ss := ss) r t, e => by
    have e : oR (asV s) none (fun m => oR (asVs ss) none fun ms => some (m :: ms)) = some ms := e
    cases s with
    | u => cases e
    | r k => cases e
    | v m =>
      have e : oR (asVs ss) none (fun ms => some (m :: ms)) = some ms := e
      cases q2 : asVs ss with
      | none => rw [q2] at e; cases e
      | some ns =>
        rw [q2] at e
        cases e
        obtain ⟨h1, h2⟩ := RepVo.as t q2
        rcases r with r | r
        · cases r
        · exact ⟨by rw [h1]; rfl, .cons r h2⟩
theorem repVo_all : ∀ {ms : List MV} {xs : List V}, Rvs K fa (Fz F0 L S) H ms xs → RepVo K fa F0 L S H (ms.map SV.v) xs
  | _, _, .nil => .nil
  | _, _, .cons r t => .cons (.inr r) (repVo_all t)
theorem emp_get (k : Nat) : emp.get k = none := by
  rw [get_eq]
  show (if k < 0 then _ else none) = none
  rw [if_neg (by omega)]
theorem emp_live {a : Addr} : ¬ live [] emp a := fun ⟨k, o, e, _⟩ => by rw [emp_get] at e; cases e
theorem fz_emp {F : Addr → Prop} {a : Addr} : Fz F [] emp a ↔ F a := ⟨fun h => h.elim id fun z => (emp_live z).elim, .inl⟩
/-- all that was tracked stands as it was -/
theorem RepS.kept (rs : RepS K fa F0 L S H) (kp : ∀ b u, H b = some u → H' b = some u) : Ex L S H L S H' ∧ RepS K fa F0 L S H' := by
  have ex : Ex L S H L S H' := ⟨⟨[], by simp⟩, fun b u e _ => kp b u e, fun _ q => .inl q⟩
  refine ⟨ex, rs.wf, rs.len, fun k ob e => ?_, rs.inj, rs.off, fun a h q => ?_⟩
  · obtain ⟨a, h1, h2⟩ := rs.obj k ob e
    refine ⟨a, h1, ?_⟩
    cases ob with
    | lst n rev =>
      obtain ⟨xs, h3, h4, h5⟩ := h2
      exact ⟨xs, kp a _ h3, Rvs.ex (F0 := F0) ex h4, h5⟩
    | dct _ _ _ => exact h2
  · cases e : H a with
    | none => exact rs.trk a h e
    | some u => rw [kp a u e] at q; cases q
theorem RepS.fz_there (rs : RepS K fa F0 L S H) {a : Addr} (h : Fz F0 L S a) : H a ≠ none := by
  rcases h with h | ⟨k, o, e1, e2⟩
  · exact rs.trk a h
  · obtain ⟨b, h1, h2⟩ := rs.obj k o e1
    rw [e2] at h1
    cases h1
    cases o with
    | lst n rev => obtain ⟨xs, h3, _⟩ := h2; rw [h3]; exact fun q => nomatch q
    | dct _ _ _ => exact False.elim h2
/-- the callee's start -/
theorem RepS.empty (rs : RepS K fa F0 L S H) : RepS K fa (Fz F0 L S) [] emp H where
  wf := rfl
  len := rfl
  obj := fun k o e => by rw [emp_get] at e; cases e
  inj := fun j k o o' a e => by rw [emp_get] at e; cases e
  off := fun a h => (emp_live h).elim
  trk := fun a h => rs.fz_there h
theorem Ro.gr {F F' : Addr → Prop} {o : MO} {a : Addr} (h : Ro K fa F H o a) (g : ∀ a, F' a → F a) : Ro K fa F' H o a := by
  cases o with
  | lst n rev =>
    obtain ⟨xs, h3, h4, h5⟩ := h
    exact ⟨xs, h3, h4.mono (fun _ _ e _ => e) fun a q => .inl (g a q), h5⟩
  | dct _ _ _ => exact h
theorem Ro.step {o : MO} {a : Addr} {F F' : Addr → Prop} (kp : ∀ b u, H b = some u → H' b = some u) (gr : Gr F F' H) (h : Ro K fa F H o a) : Ro K fa F' H' o a := by
  cases o with
  | lst n rev =>
    obtain ⟨xs, h3, h4, h5⟩ := h
    exact ⟨xs, kp a _ h3, h4.mono (fun b u e _ => kp b u e) gr, h5⟩
  | dct _ _ _ => exact h
/-- an object is taken over -/
theorem RepS.adopt {p : Addr} {o : MO} (rs : RepS K fa F0 L S H) (kp : ∀ b u, H b = some u → H' b = some u) (hp : H p = none) (ro : Ro K fa (Fz F0 (L ++ [p]) (S.push o)) H' o p) :
    Ex L S H (L ++ [p]) (S.push o) H' ∧ RepS K fa F0 (L ++ [p]) (S.push o) H' := by
  have ex : Ex L S H (L ++ [p]) (S.push o) H' := ⟨⟨[p], rfl⟩, fun b u e _ => kp b u e, fun a q => ((live_push rs a).mp q).imp id fun z => by rw [z]; exact hp⟩
  have top : (L ++ [p])[S.n]? = some p := by
    rw [← rs.len, List.getElem?_append_right (Nat.le_refl _)]
    simp
  refine ⟨ex, by rw [push_l, push_n, List.length_cons, rs.wf], by rw [push_n, List.length_append, rs.len]; rfl, fun k ob e => ?_, fun j k o1 o2 a h1 h2 h3 h4 => ?_, fun a q => ?_, fun a h q => ?_⟩
  · rw [get_push] at e
    by_cases hk : k = S.n
    · rw [if_pos hk] at e
      cases e
      subst hk
      exact ⟨p, top, ro⟩
    · rw [if_neg hk] at e
      obtain ⟨a, h1, h2⟩ := rs.obj k ob e
      exact ⟨a, ex.look h1, h2.step kp ex.grF⟩
  · have key : ∀ i o', (S.push o).get i = some o' → (L ++ [p])[i]? = some a → (i = S.n ∧ a = p) ∨ (S.get i = some o' ∧ L[i]? = some a) := fun i o' e1 e2 => by
      rw [get_push] at e1
      by_cases hi : i = S.n
      · subst hi
        rw [top] at e2
        cases e2
        exact .inl ⟨rfl, rfl⟩
      · rw [if_neg hi] at e1
        rw [List.getElem?_append_left (by rw [rs.len]; exact get_lt e1)] at e2
        exact .inr ⟨e1, e2⟩
    have no : ∀ i o', S.get i = some o' → L[i]? = some p → False := fun i o' e1 e2 => rs.offF hp (.inr ⟨i, o', e1, e2⟩)
    rcases key j o1 h1 h3 with ⟨rfl, rfl⟩ | ⟨g1, g2⟩
    · rcases key k o2 h2 h4 with ⟨rfl, _⟩ | ⟨g3, g4⟩
      · rfl
      · exact (no k o2 g3 g4).elim
    · rcases key k o2 h2 h4 with ⟨rfl, rfl⟩ | ⟨g3, g4⟩
      · exact (no j o1 g1 g2).elim
      · exact rs.inj j k o1 o2 a g1 g3 g2 g4
  · rcases (live_push rs a).mp q with z | rfl
    · exact rs.off a z
    · exact fun f => rs.trk a f hp
  · cases e : H a with
    | none => exact rs.trk a h e
    | some u => rw [kp a u e] at q; cases q
theorem sp_doCall {f : Nat} {svs : List SV} {vs : List V} (rs : RepS K fa F0 L S H) (rv : RepVo K fa F0 L S H svs vs) (o : Out K fa ct F0 L S H (doCall C f svs S) Q E) : spF K fa ct C.call f vs H Q E := by
  unfold doCall at o
  cases q : asVs svs with
  | none => rw [q] at o; exact ⟨F0, L, S, svs, rs, rv, o⟩
  | some ms =>
    rw [q] at o
    obtain ⟨es, r⟩ := rv.as q
    have o : Out K fa ct F0 L S H (xfer S (C.call f svs emp)) Q E := o
    refine ⟨Fz F0 L S, [], emp, svs, rs.empty, ?_, ?_⟩
    · rw [es]
      exact repVo_all (r.mono (fun _ _ e _ => e) fun a q => .inl (fz_emp.mp q))
    · cases h : C.call f svs emp with
      | bad => rw [h] at o; exact o
      | exc c as S2 =>
        rw [h] at o
        intro L' H' cls d ex rs' rx
        have kp : ∀ b u, H b = some u → H' b = some u := fun b u e => ex.kp b u e emp_live
        obtain ⟨ex2, rs2⟩ := rs.kept kp
        exact o L H' cls d ex2 rs2 rx
      | val s S2 =>
        rw [h] at o
        intro L' H' x ex rs' vx
        have kp : ∀ b u, H b = some u → H' b = some u := fun b u e => ex.kp b u e emp_live
        obtain ⟨ex2, rs2⟩ := rs.kept kp
        cases s with
        | u => exact vx.elim
        | v m => exact o L H' x ex2 rs2 (Rv.mono (fun _ _ e _ => e) (fun a q => .inl (.inl q)) vx)
        | r k =>
          have o : Out K fa ct F0 L S H (oR (S2.get k) .bad fun o => .val (.r S.n) (S.push o)) Q E := o
          obtain ⟨ob, eo, o⟩ := out_oR o
          obtain ⟨a, rfl, ha⟩ := vx
          obtain ⟨a', h1, h2⟩ := rs'.obj k ob eo
          rw [ha] at h1
          cases h1
          have hp : H a = none := (ex.new a ⟨k, ob, eo, ha⟩).elim (fun z => (emp_live z).elim) id
          obtain ⟨ex3, rs3⟩ := rs.adopt (p := a) (o := ob) kp hp (h2.gr fun b q => by
            rcases q with q | q
            · exact .inl (.inl q)
            · rcases (live_push rs b).mp q with z | rfl
              · exact .inl (.inr z)
              · exact .inr ⟨k, ob, eo, ha⟩)
          refine o _ H' (.ref a) ex3 rs3 ⟨a, rfl, ?_⟩
          rw [← rs.len, List.getElem?_append_right (Nat.le_refl _)]
          simp
end
/-- the f-th def, as a caller sees it -/
structure FnAt (P : Program) (w : World) (K : PySem.W.Frag) (mg : Str → Option Value) (base : Heap) (fa ct : Nat → Option Addr) (call : Calls) (k : Nat) (x : Str) (st : Stmt) (f : Nat) (ps : List Str) : Prop where
  ex : ∃ (a : Addr) (fd : FuncData), Fun K x x st a fd ∧ FnOk P w K mg base (L2.CX P w) k a fd ps (spF K fa ct call f) ∧ mg x = some (.ref a) ∧ Binds K fd ps []
section
variable {x : Str} {st : Stmt} {f k k' : Nat} {ps ks : List Str} {p pos : Pos} {e : Expr} {es : List Expr} {eas eks : Es} {kws : List Keyword}
theorem call_reads {K : PySem.W.Frag} {σ : L2.St} {H : Hp} {Q : VK} (h : tE K fa ct (evE C (.call f eas)) W σ H Q) : tCallSD (spF K fa ct C.call f) [] (WE W) (tA K fa ct W (evEs C eas)) σ H Q := by
  obtain ⟨F0, L, σm, S, rs, sl, h⟩ := tE_A (f := evEs C eas) (k := fun _ vs S1 => doCall C f vs S1) h
  refine ⟨F0, L, σm, S, rs, sl, h.mono (fun xs H1 h1 => ?_) fun _ _ _ h => h⟩
  obtain ⟨F0, L, σm, S, ss, rs, sl, v, o⟩ := h1
  rw [List.append_nil]
  exact sp_doCall rs v.vo o
theorem ev_call (c : Cn X W k') (hk : k ≤ k') (hf : FnAt X.prog X.w X.K X.mg X.base fa ct C.call k x st f ps) (hg : Gl X x) (ha : PA X (e :: es) (tA X.K fa ct W (evEs C eas)))
    (hdb : (x == ("__debug__" : Str)) = false := by decide) (he : starEach (e :: es) X.env = (false, eval e X.env) :: starEach es X.env := by rfl) (hpl : (backTo pos (starEach es X.env)).any (·.1) = false := by rfl) :
    PE X (.Call (.Name x p) (e :: es) [] pos) (tE X.K fa ct (evE C (.call f eas)) W) := by
  obtain ⟨a, fd, F, ok, hm, hb⟩ := hf.ex
  exact pe_imp (pe_callSD ok (c.room.mono hk) hg hm F.kp hb .nil (passAt c.tk) ha hdb he hpl) fun _ _ _ => call_reads
/-- nothing given -/
theorem ev_call0 (c : Cn X W k') (hk : k ≤ k') (hf : FnAt X.prog X.w X.K X.mg X.base fa ct C.call k x st f ps) (hg : Gl X x) (hdb : (x == ("__debug__" : Str)) = false := by decide) :
    PE X (.Call (.Name x p) [] [] pos) (tE X.K fa ct (evE C (.call f .nil)) W) := by
  obtain ⟨a, fd, F, ok, hm, hb⟩ := hf.ex
  refine ⟨fun pins s σ H Q I h => ?_⟩
  have h := call_reads h
  have h : tA X.K fa ct W (evEs C .nil) σ H fun vs H1 => spF X.K fa ct C.call f (vs ++ []) H1 Q (WE W σ) := h
  refine wpAny_Call_Name_kw (ld_glob I hg hm (PySem.W.callWith_K0 I.kIn F.kp ?_) hdb)
  obtain ⟨F0, L, σm, S, rs, sl, o⟩ := h
  have o : OutA X.K fa ct F0 L S H (.vals [] S) _ _ := o
  exact run_fnSD (vs := []) (us := []) ok (c.room.mono hk) hb .nil (passAt c.tk σ) I .nil (o L H [] .refl rs .nil)
/-- how keywords bind -/
def pick {α : Type} (d : α) (perm : List Nat) (l : List α) : List α := perm.map fun i => (l[i]?).getD d
def KwB (st : Stmt) (x : Str) (ps ks : List Str) (m : Nat) (perm : List Nat) : Prop :=
  ∀ (kV doc pm : Value) (an : Option Addr) (cdv ct : Value) (us ws : List Value), us.length = m → ws.length = ks.length →
    bindArgs (PySem.W.fnOf x x (defArgs st) (defBody st) (defScope st) .none kV doc pm an cdv ct) ⟨us, ks.zip ws⟩ = pure (ps.zip (pick .none perm (us ++ ws)))
theorem permL_eq (l : List SV) (perm : List Nat) : permL l perm = pick .u perm l := by
  unfold permL pick
  rw [mapL_eq]
  congr 1
  funext i
  rw [getL_eq]
  cases l[i]? <;> rfl
theorem RepVo.get {K : PySem.W.Frag} {F0 : Addr → Prop} {L : List Addr} {S : Sto} {H : Hp} : ∀ {ss : List SV} {xs : List V}, RepVo K fa F0 L S H ss xs → ∀ i : Nat, (ss[i]? = none ∧ xs[i]? = none) ∨ ∃ s x, ss[i]? = some s ∧ xs[i]? = some x ∧ (s = .u ∨ RepV K fa F0 L S H s x)
  | _, _, .nil, i => .inl ⟨rfl, rfl⟩
  | _, _, .cons r _, 0 => .inr ⟨_, _, rfl, rfl, r⟩
  | _, _, .cons _ t, i + 1 => RepVo.get t i
theorem RepVo.pick {K : PySem.W.Frag} {F0 : Addr → Prop} {L : List Addr} {S : Sto} {H : Hp} {ss : List SV} {xs : List V} (r : RepVo K fa F0 L S H ss xs) : ∀ perm : List Nat, RepVo K fa F0 L S H (pick .u perm ss) (pick .non perm xs)
  | [] => .nil
  | i :: perm => by
    refine .cons ?_ (RepVo.pick r perm)
    show (ss[i]?).getD .u = .u ∨ RepV K fa F0 L S H ((ss[i]?).getD .u) ((xs[i]?).getD .non)
    rcases r.get i with ⟨e1, e2⟩ | ⟨s, x, e1, e2, h⟩
    · rw [e1]; exact .inl rfl
    · rw [e1, e2]; exact h
theorem Vals.pick {vs : List V} {us : List Value} (r : Vals vs us) : ∀ perm : List Nat, Vals (pick .non perm vs) (pick .none perm us)
  | [] => .nil
  | i :: perm => by
    refine .cons ?_ (Vals.pick r perm)
    show L2.RelV ((vs[i]?).getD .non) ((us[i]?).getD .none)
    cases e : vs[i]? with
    | none => rw [Vals.none_of r e]; exact rfl
    | some x =>
      obtain ⟨u, h1, h2⟩ := Vals.get r e
      rw [h1]; exact h2
theorem pick_len {α : Type} (d : α) (perm : List Nat) (l : List α) : (pick d perm l).length = perm.length := List.length_map ..
/-- the call itself -/
theorem run_kw {pins : List (Addr × Obj)} {σ : L2.St} {H : Hp} {s : Shared} {Q : VK} {us ws : List Value} {vs zs : List V} {perm : List Nat} {m : Nat} {a : Addr} {fd : FuncData} (c : Cn X W k') (hk : k ≤ k') (F : Fun X.K x x st a fd) (ok : FnOk X.prog X.w X.K X.mg X.base (L2.CX X.prog X.w) k a fd ps (spF X.K fa ct C.call f))
    (kb : KwB st x ps ks m perm) (h1 : us.length = m) (h2 : ws.length = ks.length) (I : L2.Inv X pins σ H s) (r : Vals vs us) (rz : Vals zs ws) (h : spF X.K fa ct C.call f (pick .non perm (vs ++ zs)) H Q (WE W σ)) :
    wpAny (model X.prog X.w) X.A (call (.ref a) us (ks.zip ws)) (EP X pins σ Q) X.xe s := by
  have rv := Vals.pick (Vals.append r rz) perm
  have b : BindsTo s fd ⟨us, ks.zip ws⟩ (ps.zip (pick .none perm (us ++ ws))) := by
    obtain ⟨oc, od, kV, doc, pm, an, cdv, ct', osl, rfl, _, _⟩ := F.ex
    exact .of_eq (kb kV doc pm an cdv ct' us ws h1 h2)
  refine wpAny_call (codeAny_mono (ok.run X.A X.stack s H ⟨us, ks.zip ws⟩ _ _ Q (WE W σ) (c.room.mono hk) I.env0 b rv h) fun r s' hq => ?_)
  match r, hq with
  | .error e, hq => exact passAt c.tk σ pins H s e s' I hq
  | .ok (.ret u), hq => exact I.after hq
  | .ok .next, hq => exact hq.elim
  | .ok .brk, hq => exact hq.elim
  | .ok .cont, hq => exact hq.elim
/-- keywords' values -/
theorem ek_nil : PK X [] (tA X.K fa ct W (evEs C .nil)) := ⟨fun pos pins s σ H Q I ⟨F0, L, σm, S, rs, sl, o⟩ => pk_nil.run pos pins s σ H Q I ((show OutA X.K fa ct F0 L S H (.vals [] S) Q _ from o) L H [] .refl rs .nil)⟩
theorem ek_cons {nm : Option Str} {kpos : Pos} {ea : E} (ha : PE X e (tE X.K fa ct (evE C ea) W)) (hr : PK X kws (tA X.K fa ct W (evEs C eas))) : PK X (⟨nm, e, kpos⟩ :: kws) (tA X.K fa ct W (evEs C (.cons ea eas))) := by
  refine ⟨fun pos pins s σ H Q I ⟨F0, L, σm, S, rs, sl, o⟩ => (pk_cons ha hr).run pos pins s σ H Q I ?_⟩
  have o : OutA X.K fa ct F0 L S H (bEA (evE C ea σm S) fun x S1 => bAA (evEs C eas σm S1) fun xs S2 => .vals (x :: xs) S2) Q _ := o
  refine ⟨F0, L, σm, S, rs, sl, (out_bEA o).mono (fun x H1 ⟨L1, S1, s, ex, r1, v1, o1⟩ => ?_) fun _ _ _ h => h⟩
  refine ⟨F0, L1, σm, S1, r1, sl.ex ex, (out_bAA o1).mono (fun xs H2 ⟨L2, S2, ss, ex2, r2, v2, o2⟩ => ?_) fun _ _ _ h => h⟩
  exact o2 L2 H2 (x :: xs) .refl r2 (.cons (v1.ex ex2) v2)
def esLen : Es → Nat
  | .nil => 0
  | .cons _ r => esLen r + 1
theorem evEs_len : ∀ (eas : Es) (σ : List SV) (S : Sto) (ss : List SV) (S' : Sto), evEs C eas σ S = .vals ss S' → ss.length = esLen eas
  | .nil, σ, S, ss, S', h => by
    cases (show RA.vals [] S = .vals ss S' from h)
    rfl
  | .cons e r, σ, S, ss, S', h => by
    have h : bEA (evE C e σ S) (fun x S1 => bAA (evEs C r σ S1) fun xs S2 => .vals (x :: xs) S2) = .vals ss S' := h
    cases q : evE C e σ S with
    | bad => rw [q] at h; cases h
    | exc c as S1 => rw [q] at h; cases h
    | val x S1 =>
      rw [q] at h
      have h : bAA (evEs C r σ S1) (fun xs S2 => .vals (x :: xs) S2) = .vals ss S' := h
      cases q2 : evEs C r σ S1 with
      | bad => rw [q2] at h; cases h
      | exc c as S2 => rw [q2] at h; cases h
      | vals xs S2 =>
        rw [q2] at h
        have h : RA.vals (x :: xs) S2 = .vals ss S' := h
        injection h with h1 h2
        rw [← h1]
        exact congrArg Nat.succ (evEs_len r σ S1 xs S2 q2)
theorem tA_len {K : PySem.W.Frag} {σ : L2.St} {H : Hp} {Q : List V → Hp → Prop} (h : tA K fa ct W (evEs C eas) σ H Q) : tA K fa ct W (evEs C eas) σ H fun xs H1 => xs.length = esLen eas ∧ Q xs H1 := by
  obtain ⟨F0, L, σm, S, rs, sl, o⟩ := h
  refine ⟨F0, L, σm, S, rs, sl, ?_⟩
  cases q : evEs C eas σm S with
  | bad => rw [q] at o; exact o
  | exc c as S' => rw [q] at o; exact o
  | vals ss S' =>
    rw [q] at o
    intro L' H' xs ex rs' v
    exact ⟨by rw [← v.length]; exact evEs_len _ _ _ _ _ q, o L' H' xs ex rs' v⟩
theorem callK_reads {K : PySem.W.Frag} {perm : List Nat} {σ : L2.St} {H : Hp} {Q : VK} (h : tE K fa ct (evE C (.callK f eas eks perm)) W σ H Q) :
    tA K fa ct W (evEs C eas) σ H fun vs H1 => tA K fa ct W (evEs C eks) σ H1 fun zs H2 => spF K fa ct C.call f (pick .non perm (vs ++ zs)) H2 Q (WE W σ) := by
  obtain ⟨F0, L, σm, S, rs, sl, h⟩ := tE_A (f := evEs C eas) (k := fun σ vs S1 => bA (evEs C eks σ S1) fun ws S2 => doCall C f (permL (appL vs ws) perm) S2) h
  refine ⟨F0, L, σm, S, rs, sl, h.mono (fun xs H1 h1 => ?_) fun _ _ _ h => h⟩
  obtain ⟨F0, L, σm, S, ss, rs, sl, v, o⟩ := h1
  refine ⟨F0, L, σm, S, rs, sl, (out_bA o).mono (fun zs H2 h2 => ?_) fun _ _ _ h => h⟩
  obtain ⟨L2, S2, ts, ex, r2, v2, o2⟩ := h2
  have o3 : Out K fa ct F0 L2 S2 H2 (doCall C f (permL (appL ss ts) perm) S2) Q (fun c d H' => W c d σ H') := o2
  clear o2
  rw [permL_eq, appL_eq] at o3
  have va : RepVo K fa F0 L2 S2 H2 (ss ++ ts) (xs ++ zs) := by
    have v1 := v.ex ex
    clear h v o o3
    induction v1 with
    | nil => exact v2.vo
    | cons r _ ih => exact .cons (.inr r) ih
  exact sp_doCall r2 (va.pick perm) o3
theorem ev_callK {perm : List Nat} {m : Nat} (c : Cn X W k') (hk : k ≤ k') (hf : FnAt X.prog X.w X.K X.mg X.base fa ct C.call k x st f ps) (hg : Gl X x) (ha : PA X (e :: es) (tA X.K fa ct W (evEs C eas))) (hw : PK X kws (tA X.K fa ct W (evEs C eks)))
    (kb : KwB st x ps ks m perm) (l1 : esLen eas = m := by rfl) (l2 : esLen eks = ks.length := by rfl) (hall : (backToKw pos (keywordEach kws X.env)).all (·.1.isSome) = true := by rfl) (hks : (backToKw pos (keywordEach kws X.env)).filterMap (·.1) = ks := by rfl)
    (hdb : (x == ("__debug__" : Str)) = false := by decide) (he : starEach (e :: es) X.env = (false, eval e X.env) :: starEach es X.env := by rfl)
    (hpl : ((backTo pos (starEach (e :: es) X.env)).any (·.1) || (backToKw pos (keywordEach kws X.env)).any (·.1.isNone)) = false := by rfl) :
    PE X (.Call (.Name x p) (e :: es) kws pos) (tE X.K fa ct (evE C (.callK f eas eks perm)) W) := by
  obtain ⟨a, fd, F, ok, hm, hb⟩ := hf.ex
  refine ⟨fun pins s σ H Q I h => ?_⟩
  refine wpAny_Call_Name_kw (ld_glob I hg hm ?_ hdb)
  refine PySem.W.callWith_KW (h₀ := X.base) I.ok.mod.kin F.kp hall (thn (ha.run pos pins s σ H _ I (tA_len (callK_reads h))) fun us s1 ⟨vs, H1, I1, r, n1, q⟩ => ?_) hpl he
  refine thn (hw.run pos pins s1 σ H1 _ I1 (tA_len q)) fun ws s2 ⟨zs, H2, I2, rz, n2, q2⟩ => ⟨I2.kIn, ?_⟩
  rw [hks]
  show wpAny _ _ (call (.ref a) us (ks.zip ws)) _ _ _
  exact run_kw c hk F ok kb (by rw [← Vals.length r, n1, l1]) (by rw [← Vals.length rz, n2, l2]) I2 r rz q2
theorem ev_callK0 {perm : List Nat} (c : Cn X W k') (hk : k ≤ k') (hf : FnAt X.prog X.w X.K X.mg X.base fa ct C.call k x st f ps) (hg : Gl X x) (hw : PK X kws (tA X.K fa ct W (evEs C eks)))
    (kb : KwB st x ps ks 0 perm) (l2 : esLen eks = ks.length := by rfl) (hall : (backToKw pos (keywordEach kws X.env)).all (·.1.isSome) = true := by rfl) (hks : (backToKw pos (keywordEach kws X.env)).filterMap (·.1) = ks := by rfl)
    (hdb : (x == ("__debug__" : Str)) = false := by decide)
    (hpl : ((backTo pos (starEach [] X.env)).any (·.1) || (backToKw pos (keywordEach kws X.env)).any (·.1.isNone)) = false := by rfl) :
    PE X (.Call (.Name x p) [] kws pos) (tE X.K fa ct (evE C (.callK f .nil eks perm)) W) := by
  obtain ⟨a, fd, F, ok, hm, hb⟩ := hf.ex
  refine ⟨fun pins s σ H Q I h => ?_⟩
  refine wpAny_Call_Name_kw (ld_glob I hg hm ?_ hdb)
  obtain ⟨F0, L, σm, S, rs, sl, o⟩ := callK_reads h
  have o : OutA X.K fa ct F0 L S H (.vals [] S) _ _ := o
  have q := o L H [] .refl rs .nil
  refine PySem.W.callWith_KW0 (h₀ := X.base) I.ok.mod.kin F.kp hall (thn (hw.run pos pins s σ H _ I (tA_len q)) fun ws s2 ⟨zs, H2, I2, rz, n2, q2⟩ => ⟨I2.kIn, ?_⟩) hpl
  rw [hks]
  exact run_kw (us := []) (vs := []) c hk F ok kb rfl (by rw [← Vals.length rz, n2, l2]) I2 .nil rz q2
end
end Ev

/-! What is walked. -/
namespace Ev
open PySem PySem.Spec PyProof.Rows L2
variable {X : Cx} {fa ct : Nat → Option Addr} {W : WX} {C : Cfg}
section
variable (K : PySem.W.Frag) (fa ct : Nat → Option Addr)
/-- J walks ms, as long as the frozen stands -/
def Wk (F0 : Addr → Prop) (L1 : List Addr) (S1 : Sto) (H1 : Hp) (ms : List MV) (J : L2.It) : Prop := ∃ G Y, Walk J ms.length G Y ∧ ∀ F1 L2 S2 H2, Ex L1 S1 H1 L2 S2 H2 → RepS K fa F1 L2 S2 H2 → Gr (Fz F0 L1 S1) (Fz F1 L2 S2) H1 →
  G H2 ∧ ∀ i x H', i < ms.length → Y i H2 x H' → (∀ b u, H2 b = some u → H' b = some u) ∧ ∃ m, ms[i]? = some m ∧ Rv K fa (Fz F1 L2 S2) H' m x
def OutI (F0 : Addr → Prop) (L : List Addr) (S : Sto) (H : Hp) (r : RI) (R : L2.It → Hp → Prop) (E : XK) (J0 : List MV → Sto → L2.It → Hp → Prop := fun _ _ _ _ => True) : Prop :=
  match r with
  | .bad => False
  | .its ms S' => ∀ L' H' J, Ex L S H L' S' H' → RepS K fa F0 L' S' H' → Wk K fa F0 L' S' H' ms J → R J H'
  | .exc c as S' => ∀ L' H' cls d, Ex L S H L' S' H' → RepS K fa F0 L' S' H' → RepX ct c as cls d H' → E cls d H'
def tI (W : WX) (f : FI) : TI := fun σ H R => ∃ F0 L σm S, RepS K fa F0 L S H ∧ Sl K fa F0 L S H σm σ ∧ OutI K fa ct F0 L S H (f σm S) R (fun c d H' => W c d σ H')
end
section
variable {K : PySem.W.Frag} {F0 : Addr → Prop} {L : List Addr} {S : Sto} {H : Hp} {ms : List MV} {xs : List V} {a : Addr}
theorem wk_list (h : LstAt (Fz F0 L S) H a xs) (r : Rvs K fa (Fz F0 L S) H ms xs) : Wk K fa F0 L S H ms (Itl K a) := by
  refine ⟨_, _, by rw [r.length]; exact walk_list (xs := xs), fun F1 L2 S2 H2 ex rs gr => ?_⟩
  have h2 := h.mono (fun b u e n => ex.kp b u e fun q => n (.inr q)) gr
  refine ⟨h2.sq, fun i x H' hi ⟨e, hx⟩ => ?_⟩
  subst e
  refine ⟨fun _ _ q => q, ?_⟩
  obtain ⟨m, e1, e2⟩ := (r.mono (fun b u e n => ex.kp b u e fun q => n (.inr q)) gr).get' hx
  exact ⟨m, e1, e2⟩
theorem wk_tup (h : TupAt K (Fz F0 L S) H a xs) (r : Rvs K fa (Fz F0 L S) H ms xs) : Wk K fa F0 L S H ms (Itt K a) := by
  refine ⟨_, _, by rw [r.length]; exact walk_tup (xs := xs), fun F1 L2 S2 H2 ex rs gr => ?_⟩
  have h2 := h.mono (fun b u e n => ex.kp b u e fun q => n (.inr q)) gr
  refine ⟨h2.sq, fun i x H' hi ⟨e, hx⟩ => ?_⟩
  subst e
  refine ⟨fun _ _ q => q, ?_⟩
  obtain ⟨m, e1, e2⟩ := (r.mono (fun b u e n => ex.kp b u e fun q => n (.inr q)) gr).get' hx
  exact ⟨m, e1, e2⟩
theorem upI_len (c : Int) : ∀ (n : Nat) (lo : Int), (upI n lo c).length = n
  | 0, _ => rfl
  | n + 1, lo => congrArg Nat.succ (upI_len c n (addI lo c))
theorem upI_get : ∀ (n : Nat) (lo : Int) (i : Nat), i < n → (upI n lo 1)[i]? = some (.int (lo + i))
  | 0, _, _, h => absurd h (Nat.not_lt_zero _)
  | n + 1, lo, 0, _ => by show some (MV.int lo) = _; simp
  | n + 1, lo, i + 1, h => by
    show (upI n (addI lo 1) 1)[i]? = _
    rw [upI_get n _ i (Nat.lt_of_succ_lt_succ h), addI_eq]
    congr 2
    omega
theorem wk_rng {lo : Int} {n : Nat} : Wk K fa F0 L S H (upI n lo 1) (Itr lo n) := by
  refine ⟨fun _ => True, YFn fun i => .int (lo + i), by rw [upI_len]; exact walk_range (lo := lo), fun F1 L2 S2 H2 ex rs gr => ⟨trivial, fun i x H' hi hy => ?_⟩⟩
  obtain ⟨e, hx⟩ := hy
  subst e hx
  rw [upI_len] at hi
  exact ⟨fun _ _ q => q, _, upI_get n lo i hi, .int _⟩
/-- a fresh pair -/
theorem pair_at (rs : RepS K fa F0 L S H) {T : Addr} {x y : V} {m n : MV} (hT : H T = none) (r1 : Rv K fa (Fz F0 L S) H m x) (r2 : Rv K fa (Fz F0 L S) H n y) :
    (∀ b u, H b = some u → upd H T (.tup [x, y]) b = some u) ∧ Rv K fa (Fz F0 L S) (upd H T (.tup [x, y])) (.tup [m, n]) (.ref T) := by
  have kp : ∀ b u, H b = some u → upd H T (.tup [x, y]) b = some u := fun b u e => by rw [upd_ne (ne_of_none e hT)]; exact e
  obtain ⟨ex, rs'⟩ := rs.fresh (o := .tup [x, y]) hT
  exact ⟨kp, .tup (.inl ⟨.inl upd_same, rs.offF hT⟩) (.cons (Rv.ex (F0 := F0) ex r1) (.cons (Rv.ex (F0 := F0) ex r2) .nil))⟩
theorem enumM_len : ∀ (l : List MV) (k : Nat), (enumM l k).length = l.length
  | [], _ => rfl
  | _ :: l, k => congrArg Nat.succ (enumM_len l (k + 1))
theorem enumM_get : ∀ (l : List MV) (k i : Nat), (enumM l k)[i]? = l[i]?.map fun m => .tup [.int (Int.ofNat (k + i)), m]
  | [], _, _ => rfl
  | x :: l, k, 0 => rfl
  | x :: l, k, i + 1 => by
    show (enumM l (k + 1))[i]? = l[i]?.map _
    rw [enumM_get l (k + 1) i]
    congr 1
    funext m
    congr 4
    omega
theorem wk_enum (h : LstAt (Fz F0 L S) H a xs) (r : Rvs K fa (Fz F0 L S) H ms xs) : Wk K fa F0 L S H (enumM ms 0) (Ite K a) := by
  refine ⟨_, _, by rw [enumM_len, r.length]; exact walk_enum (xs := xs), fun F1 L2 S2 H2 ex rs gr => ?_⟩
  have h2 := h.mono (fun b u e n => ex.kp b u e fun q => n (.inr q)) gr
  refine ⟨h2.sq, fun i x H' hi hy => ?_⟩
  obtain ⟨T, u, v, rfl, hT, rfl, hu, hv⟩ := hy
  cases hu
  obtain ⟨m, e1, e2⟩ := (r.mono (fun b u e n => ex.kp b u e fun q => n (.inr q)) gr).get' hv
  obtain ⟨kp, q⟩ := pair_at rs hT (.int ((i : Nat) : Int)) e2
  refine ⟨kp, _, ?_, q⟩
  rw [enumM_get, e1]
  simp
theorem zipM_get : ∀ (l k : List MV) (i : Nat) (m n : MV), l[i]? = some m → k[i]? = some n → (zipM l k)[i]? = some (.tup [m, n])
  | [], _, _, _, _, e, _ => by simp at e
  | _ :: _, [], _, _, _, _, e => by simp at e
  | x :: l, y :: k, 0, m, n, e1, e2 => by
    simp at e1 e2
    subst e1 e2
    rfl
  | x :: l, y :: k, i + 1, m, n, e1, e2 => zipM_get l k i m n (by simpa using e1) (by simpa using e2)
theorem zipM_len : ∀ (l k : List MV), (zipM l k).length = min l.length k.length
  | [], k => by show 0 = min 0 _; omega
  | _ :: _, [] => by show 0 = min _ 0; omega
  | x :: l, y :: k => by
    show (zipM l k).length + 1 = min (l.length + 1) (k.length + 1)
    rw [zipM_len l k]
    omega
variable {ns : List MV} {ys : List V} {b : Addr}
theorem wk_zipL (h : LstAt (Fz F0 L S) H a xs) (r : Rvs K fa (Fz F0 L S) H ms xs) (h' : LstAt (Fz F0 L S) H b ys) (r' : Rvs K fa (Fz F0 L S) H ns ys) : Wk K fa F0 L S H (zipM ms ns) (Itz K a b) := by
  refine ⟨_, _, walk_zip (xs := xs) (ys := ys) (by rw [zipM_len, r.length, r'.length]), fun F1 L2 S2 H2 ex rs gr => ?_⟩
  have h2 := h.mono (fun b u e n => ex.kp b u e fun q => n (.inr q)) gr
  have h3 := h'.mono (fun b u e n => ex.kp b u e fun q => n (.inr q)) gr
  refine ⟨⟨h2.sq, h3.sq⟩, fun i x H' hi hy => ?_⟩
  obtain ⟨T, u, v, rfl, hT, rfl, hu, hv⟩ := hy
  obtain ⟨m, e1, e2⟩ := (r.mono (fun b u e n => ex.kp b u e fun q => n (.inr q)) gr).get' hu
  obtain ⟨n, e3, e4⟩ := (r'.mono (fun b u e n => ex.kp b u e fun q => n (.inr q)) gr).get' hv
  obtain ⟨kp, q⟩ := pair_at rs hT e2 e4
  exact ⟨kp, _, zipM_get _ _ _ _ _ e1 e3, q⟩
theorem walk_zipT {n : Nat} (hn : n = min xs.length ys.length) : Walk (RZ.ItzT K a b) n (fun H => SqT K H a xs ∧ SqT K H b ys) (YPair (fun i => xs[i]?) (fun i => ys[i]?)) := by
  subst hn
  refine ⟨fun i _ hi q => ?_, fun _ q => ⟨xs, ys, q.1, q.2, by omega⟩, fun i H v H' _ q y => ?_⟩
  · have i1 : i < xs.length := by omega
    have i2 : i < ys.length := by omega
    exact ⟨xs, ys, xs[i], ys[i], q.1, q.2, by simp [i1], by simp [i2]⟩
  · obtain ⟨T, x, y', h1, h2, h3, h4, h5⟩ := y
    exact ⟨T, x, y', h1, h2, h3, h4 xs q.1, h5 ys q.2⟩
theorem wk_zipT (h : TupAt K (Fz F0 L S) H a xs) (r : Rvs K fa (Fz F0 L S) H ms xs) (h' : TupAt K (Fz F0 L S) H b ys) (r' : Rvs K fa (Fz F0 L S) H ns ys) : Wk K fa F0 L S H (zipM ms ns) (RZ.ItzT K a b) := by
  refine ⟨_, _, walk_zipT (xs := xs) (ys := ys) (by rw [zipM_len, r.length, r'.length]), fun F1 L2 S2 H2 ex rs gr => ?_⟩
  have h2 := h.mono (fun b u e n => ex.kp b u e fun q => n (.inr q)) gr
  have h3 := h'.mono (fun b u e n => ex.kp b u e fun q => n (.inr q)) gr
  refine ⟨⟨h2.sq, h3.sq⟩, fun i x H' hi hy => ?_⟩
  obtain ⟨T, u, v, rfl, hT, rfl, hu, hv⟩ := hy
  obtain ⟨m, e1, e2⟩ := (r.mono (fun b u e n => ex.kp b u e fun q => n (.inr q)) gr).get' hu
  obtain ⟨n, e3, e4⟩ := (r'.mono (fun b u e n => ex.kp b u e fun q => n (.inr q)) gr).get' hv
  obtain ⟨kp, q⟩ := pair_at rs hT e2 e4
  exact ⟨kp, _, zipM_get _ _ _ _ _ e1 e3, q⟩
end
section
variable {F0 : Addr → Prop} {L : List Addr} {S : Sto} {H : Hp} {E : XK} {K : PySem.W.Frag}
theorem out_bEI {r : RE} {k : SV → Sto → RI} {R : L2.It → Hp → Prop} (h : OutI K fa ct F0 L S H (bEI r k) R E) :
    Out K fa ct F0 L S H r (fun x H1 => ∃ L1 S1 s, Ex L S H L1 S1 H1 ∧ RepS K fa F0 L1 S1 H1 ∧ RepV K fa F0 L1 S1 H1 s x ∧ OutI K fa ct F0 L1 S1 H1 (k s S1) R E) E := by
  have frm : ∀ {L1 S1 H1} {q : RI}, Ex L S H L1 S1 H1 → OutI K fa ct F0 L S H q R E → OutI K fa ct F0 L1 S1 H1 q R E := fun {L1 S1 H1 q} ex h => by
    cases q with
    | bad => exact h
    | its ms S2 => exact fun L2 H2 J e2 => h L2 H2 J (ex.trans e2)
    | exc c as S2 => exact fun L2 H2 cls d e2 => h L2 H2 cls d (ex.trans e2)
  cases r with
  | bad => exact h
  | val s S' => exact fun L' H' x a b c => ⟨L', S', s, a, b, c, frm a h⟩
  | exc c as S' => exact h
theorem out_bAI {r : RA} {k : List SV → Sto → RI} {R : L2.It → Hp → Prop} (h : OutI K fa ct F0 L S H (bAI r k) R E) :
    OutA K fa ct F0 L S H r (fun x H1 => ∃ L1 S1 s, Ex L S H L1 S1 H1 ∧ RepS K fa F0 L1 S1 H1 ∧ RepVs K fa F0 L1 S1 H1 s x ∧ OutI K fa ct F0 L1 S1 H1 (k s S1) R E) E := by
  have frm : ∀ {L1 S1 H1} {q : RI}, Ex L S H L1 S1 H1 → OutI K fa ct F0 L S H q R E → OutI K fa ct F0 L1 S1 H1 q R E := fun {L1 S1 H1 q} ex h => by
    cases q with
    | bad => exact h
    | its ms S2 => exact fun L2 H2 J e2 => h L2 H2 J (ex.trans e2)
    | exc c as S2 => exact fun L2 H2 cls d e2 => h L2 H2 cls d (ex.trans e2)
  cases r with
  | bad => exact h
  | vals s S' => exact fun L' H' x a b c => ⟨L', S', s, a, b, c, frm a h⟩
  | exc c as S' => exact h
theorem oI_some {α : Type} {o : Option α} {k : α → RI} {R : L2.It → Hp → Prop} (h : OutI K fa ct F0 L S H (oR o .bad k) R E) : ∃ m, o = some m ∧ OutI K fa ct F0 L S H (k m) R E := by
  cases o with
  | none => exact False.elim h
  | some m => exact ⟨m, rfl, h⟩
theorem OutI.here {ms : List MV} {R : L2.It → Hp → Prop} {J : L2.It} (rs : RepS K fa F0 L S H) (h : OutI K fa ct F0 L S H (.its ms S) R E) (w : Wk K fa F0 L S H ms J) : R J H := h L H J .refl rs w
end
section
variable {a b tg : Expr} {ea eb : E} {p pos : Pos}
/-- a list or a tuple -/
theorem ei_seq (ha : PE X a (tE X.K fa ct (evE C ea) W)) : PI X tg a (tI X.K fa ct W (evIt C (.seq ea))) := by
  refine ⟨fun pins s σ H R I h => ?_⟩
  obtain ⟨F0, L, σm, S, rs, sl, o⟩ := h
  have o : OutI X.K fa ct F0 L S H (bEI (evE C ea σm S) fun x S1 => oR (asV x) .bad fun a => oI (cSeq a none some) S1) R _ := o
  refine thn (ha.run pins s σ H _ I ⟨F0, L, σm, S, rs, sl, out_bEI o⟩) fun v s1 ⟨x, H1, I1, r1, L1, S1, t, ex, rs1, v1, o1⟩ => ?_
  obtain ⟨m, e1, o1⟩ := oI_some o1
  obtain ⟨ms, e2, o1⟩ := oI_some (show OutI X.K fa ct F0 L1 S1 H1 (oR (cSeq m none some) .bad fun ms => .its ms S1) R _ from o1)
  have rv := v1.as e1
  have one : ∀ b, b ∈ [s1.heap.objs.size] → FpOk X pins H1 b := fun b hb => by
    have e : b = s1.heap.objs.size := by simpa using hb
    subst e
    exact I1.fpOk (Nat.le_refl _) (I1.hok.fresh (Nat.le_refl _))
  cases rv with
  | lst hl r =>
    cases e2
    cases r1
    obtain ⟨its, rr, pl, _⟩ := I1.list hl.sq
    exact wpAny_pyIter_list pl.isList ⟨_, _, _, _, H1, rfl, I1.kept (t' := s1.toks) fun b o e => Heap.get?_push_of_some _ e, turn_list _ _, ⟨_, Heap.get?_push_size _ rfl, rfl, rfl⟩, one, OutI.here rs1 o1 (wk_list hl r)⟩
  | tup hl r =>
    cases e2
    cases r1
    obtain ⟨its, rr, pl, _⟩ := I1.tuple hl.sq
    exact wpAny_pyIter_tuple (show s1.heap.IsTuple _ its.toArray from pl) ⟨_, _, _, _, H1, rfl, I1.kept (t' := s1.toks) fun b o e => Heap.get?_push_of_some _ e, turn_tuple _ _, ⟨_, Heap.get?_push_size _ rfl, rfl, rfl⟩, one, OutI.here rs1 o1 (wk_tup hl r)⟩
  | _ => cases e2
theorem pi_imp {iter : Expr} {t t' : TI} (h : PI X tg iter t) (i : ∀ σ H Q, t' σ H Q → t σ H Q) : PI X tg iter t' := ⟨fun pins s σ H Q I q => h.run pins s σ H Q I (i σ H Q q)⟩
theorem near_some {i : Int} (h : near62 i = true) : -1000000 < i ∧ i < 1000000 := by
  unfold near62 at h
  cases q : ltB (-1000000) i with
  | false => rw [q] at h; cases h
  | true =>
    rw [q] at h
    exact ⟨(ltB_iff _ _).mp q, (ltB_iff _ _).mp h⟩
theorem rng_some {i j : Int} {ms : List MV} (h : rng2M i j = some ms) : (-1000000 < i ∧ i < 1000000) ∧ (-1000000 < j ∧ j < 1000000) ∧ ms = upI (j - i).toNat i 1 := by
  unfold rng2M at h
  obtain ⟨h1, h⟩ := bR_some h
  obtain ⟨h2, h⟩ := bR_some h
  refine ⟨near_some h1, near_some h2, ?_⟩
  have e : lowHigh i j = (j - i).toNat := by
    unfold lowHigh
    rw [subI_eq]
    cases j - i <;> rfl
  rw [e] at h
  exact (Option.some.inj h).symm
theorem rng_reads {K : PySem.W.Frag} {eas : Es} {σ : L2.St} {H : Hp} {R : L2.It → Hp → Prop} (h : tI K fa ct W (evIt C (.rng eas)) σ H R) :
    tA K fa ct W (evEs C eas) σ H fun xs H1 => xs.length = esLen eas ∧ ∃ F0 L S ms, RepS K fa F0 L S H1 ∧ Rvs K fa (Fz F0 L S) H1 ms xs ∧ OutI K fa ct F0 L S H1 (@List.rec MV (fun _ => RI) .bad (fun a r _ => cInt a .bad fun i =>
      @List.rec MV (fun _ => RI) (oI (rng2M 0 i) S) (fun b r' _ => cInt b .bad fun j => @List.rec MV (fun _ => RI) (oI (rng2M i j) S) (fun _ _ _ => .bad) r') r) ms) R (fun c d H' => W c d σ H') := by
  refine tA_len ?_
  obtain ⟨F0, L, σm, S, rs, sl, o⟩ := h
  refine ⟨F0, L, σm, S, rs, sl, (out_bAI (show OutI K fa ct F0 L S H (bAI (evEs C eas σm S) _) R _ from o)).mono (fun xs H1 ⟨L1, S1, ss, ex, r1, v1, o1⟩ => ?_) fun _ _ _ h => h⟩
  obtain ⟨ms, e1, o1⟩ := oI_some o1
  exact ⟨F0, L1, S1, ms, r1, v1.as e1, o1⟩
theorem ei_rng1 (B : Bn X "range" (.type "range")) (ha : PA X [a] (tA X.K fa ct W (evEs C (.cons ea .nil)))) (hs : starEach [a] X.env = [(false, eval a X.env)] := by rfl) :
    PI X tg (.Call (.Name "range" p) [a] [] pos) (tI X.K fa ct W (evIt C (.rng (.cons ea .nil)))) := by
  refine pi_imp (pi_range1 B.gl B.mg ha hs) fun σ H R h => ?_
  obtain ⟨F0, L, σm, S, rs, sl, h⟩ := rng_reads h
  refine ⟨F0, L, σm, S, rs, sl, h.mono (fun xs H1 ⟨hl, F0, L1, S1, ms, r1, rv, o1⟩ => ?_) fun _ _ _ h => h⟩
  have hl : xs.length = 1 := hl
  cases rv with
  | nil => cases hl
  | cons r t =>
    cases t with
    | cons _ _ => exact absurd hl (by simp)
    | nil =>
      cases r with
      | int i =>
        obtain ⟨l, e2, o1⟩ := oI_some (show OutI X.K fa ct F0 L1 S1 H1 (oR (rng2M 0 i) .bad fun ms => .its ms S1) R _ from o1)
        obtain ⟨_, h2, rfl⟩ := rng_some e2
        refine ⟨i, rfl, by omega, by omega, OutI.here r1 o1 ?_⟩
        rw [Int.sub_zero]
        exact wk_rng
      | _ => exact False.elim o1
theorem ei_rng2 (B : Bn X "range" (.type "range")) (ha : PA X [a, b] (tA X.K fa ct W (evEs C (.cons ea (.cons eb .nil))))) (hs : starEach [a, b] X.env = [(false, eval a X.env), (false, eval b X.env)] := by rfl) (hs2 : starEach [b] X.env = [(false, eval b X.env)] := by rfl) :
    PI X tg (.Call (.Name "range" p) [a, b] [] pos) (tI X.K fa ct W (evIt C (.rng (.cons ea (.cons eb .nil))))) := by
  refine pi_imp (pi_range2 B.gl B.mg ha hs hs2) fun σ H R h => ?_
  obtain ⟨F0, L, σm, S, rs, sl, h⟩ := rng_reads h
  refine ⟨F0, L, σm, S, rs, sl, h.mono (fun xs H1 ⟨hl, F0, L1, S1, ms, r1, rv, o1⟩ => ?_) fun _ _ _ h => h⟩
  have hl : xs.length = 2 := hl
  cases rv with
  | nil => cases hl
  | cons r t =>
    cases t with
    | nil => exact absurd hl (by simp)
    | cons r2 t =>
      cases t with
      | cons _ _ => exact absurd hl (by simp)
      | nil =>
        cases r with
        | int i =>
          cases r2 with
          | int j =>
            obtain ⟨l, e2, o1⟩ := oI_some (show OutI X.K fa ct F0 L1 S1 H1 (oR (rng2M i j) .bad fun ms => .its ms S1) R _ from o1)
            obtain ⟨h1, h2, rfl⟩ := rng_some e2
            exact ⟨i, j, rfl, ⟨by omega, by omega, by omega, by omega⟩, OutI.here r1 o1 wk_rng⟩
          | _ => exact False.elim o1
        | _ => exact False.elim o1
/-- one place of an argument list -/
theorem tA_1 {K : PySem.W.Frag} {σ : L2.St} {H : Hp} {Q : List V → Hp → Prop} {f : FE} {k : List SV → SV → Sto → RI} {R : L2.It → Hp → Prop} (h : tI K fa ct W (fun σ S => bEI (f σ S) (k σ)) σ H R) (he : evE C ea = f)
    (hq : ∀ x H1 F0 L σm S s, RepS K fa F0 L S H1 → Sl K fa F0 L S H1 σm σ → RepV K fa F0 L S H1 s x → OutI K fa ct F0 L S H1 (k σm s S) R (fun c d H' => W c d σ H') → Q [x] H1) : tA K fa ct W (evEs C (.cons ea .nil)) σ H Q := by
  subst he
  obtain ⟨F0, L, σm, S, rs, sl, o⟩ := h
  have o := out_bEI o
  refine ⟨F0, L, σm, S, rs, sl, ?_⟩
  show OutA K fa ct F0 L S H (bEA (evE C ea σm S) fun x S1 => .vals [x] S1) Q _
  cases q : evE C ea σm S with
  | bad => rw [q] at o; exact o
  | exc c as S' => rw [q] at o; exact o
  | val s S' =>
    rw [q] at o
    show ∀ L' H' xs, Ex L S H L' S' H' → RepS K fa F0 L' S' H' → RepVs K fa F0 L' S' H' [s] xs → Q xs H'
    intro L' H' xs ex rs' v
    cases v with
    | cons v t =>
      cases t
      obtain ⟨L1, S1, s1, ex1, r1, v1, o1⟩ := o L' H' _ ex rs' v
      exact hq _ _ F0 L1 σm S1 s1 r1 (sl.ex ex1) v1 o1
theorem ei_enum {elts : List Expr} {kk : Nat} {tpos : Pos} (B : Bn X "enumerate" (.type "enumerate")) (ha : PA X [a] (tA X.K fa ct W (evEs C (.cons ea .nil)))) (hs : starEach [a] X.env = [(false, eval a X.env)] := by rfl) :
    PI X (.Tuple elts kk tpos) (.Call (.Name "enumerate" p) [a] [] pos) (tI X.K fa ct W (evIt C (.enum ea))) := by
  refine pi_imp (pi_enum B.gl B.mg ha hs) fun σ H R h => ?_
  refine tA_1 (C := C) (ea := ea) (k := fun _ x S1 => oR (asV x) .bad fun a => oI (cLst a none fun l => some (enumM l 0)) S1) h rfl fun x H1 F0 L σm S s rs sl v o => ?_
  obtain ⟨m, e1, o⟩ := oI_some o
  have rv := v.as e1
  cases rv with
  | lst hl r => exact ⟨_, _, rfl, hl.sq, OutI.here rs (show OutI X.K fa ct F0 L S H1 (.its (enumM _ 0) S) R _ from o) (wk_enum hl r)⟩
  | _ => exact False.elim o
theorem ei_zip {elts : List Expr} {kk : Nat} {tpos : Pos} (B : Bn X "zip" (.type "zip")) (ha : PA X [a, b] (tA X.K fa ct W (evEs C (.cons ea (.cons eb .nil)))))
    (hs : starEach [a, b] X.env = (false, eval a X.env) :: starEach [b] X.env := by rfl) (hpl : (backTo pos (starEach [b] X.env)).any (·.1) = false := by rfl) :
    PI X (.Tuple elts kk tpos) (.Call (.Name "zip" p) [a, b] [] pos) (tI X.K fa ct W (evIt C (.zip ea eb))) := by
  refine pi_imp (RZ.pi_zipA B.gl B.mg ha hs hpl) fun σ H R h => ?_
  obtain ⟨F0, L, σm, S, rs, sl, o⟩ := h
  have o : OutI X.K fa ct F0 L S H (bEI (evE C ea σm S) fun x S1 => bEI (evE C eb σm S1) fun y S2 => oR (asV x) .bad fun a => oR (asV y) .bad fun b => oI (cLst a (cTup a none fun l => cTup b none fun m => some (zipM l m)) fun l => cLst b none fun m => some (zipM l m)) S2) R (fun c d H' => W c d σ H') := o
  refine ⟨F0, L, σm, S, rs, sl, ?_⟩
  show OutA X.K fa ct F0 L S H (bEA (evE C ea σm S) fun x S1 => bAA (bEA (evE C eb σm S1) fun y S2 => .vals [y] S2) fun xs S2 => .vals (x :: xs) S2) _ _
  cases q : evE C ea σm S with
  | bad => rw [q] at o; exact o
  | exc c as S' => rw [q] at o; exact o
  | val s S1 =>
    rw [q] at o
    have o : OutI X.K fa ct F0 L S H (bEI (evE C eb σm S1) fun y S2 => oR (asV s) .bad fun a => oR (asV y) .bad fun b => oI (cLst a (cTup a none fun l => cTup b none fun m => some (zipM l m)) fun l => cLst b none fun m => some (zipM l m)) S2) R (fun c d H' => W c d σ H') := o
    show OutA X.K fa ct F0 L S H (bAA (bEA (evE C eb σm S1) fun y S2 => .vals [y] S2) fun xs S2 => .vals (s :: xs) S2) _ _
    cases q2 : evE C eb σm S1 with
    | bad => rw [q2] at o; exact o
    | exc c as S' => rw [q2] at o; exact o
    | val t S2 =>
      rw [q2] at o
      show ∀ L' H' xs, Ex L S H L' S2 H' → RepS X.K fa F0 L' S2 H' → RepVs X.K fa F0 L' S2 H' [s, t] xs → _
      intro L' H' xs ex rs' v
      cases v with
      | cons v1 v2 =>
        cases v2 with
        | cons v2 v3 =>
          cases v3
          obtain ⟨m, e1, o⟩ := oI_some (show OutI X.K fa ct F0 L S H (oR (asV s) .bad fun a => oR (asV t) .bad fun b => oI (cLst a (cTup a none fun l => cTup b none fun m => some (zipM l m)) fun l => cLst b none fun m => some (zipM l m)) S2) R _ from o)
          obtain ⟨n, e2, o⟩ := oI_some o
          have r1 := v1.as e1
          have r2 := v2.as e2
          cases r1 with
          | lst hl r =>
            cases r2 with
            | lst hl' r' => exact ⟨_, _, _, _, rfl, .inl ⟨hl.sq, hl'.sq, (show OutI X.K fa ct F0 L S H (.its (zipM _ _) S2) R _ from o) L' H' _ ex rs' (wk_zipL hl r hl' r')⟩⟩
            | _ => exact False.elim o
          | tup hl r =>
            cases r2 with
            | tup hl' r' => exact ⟨_, _, _, _, rfl, .inr ⟨hl.sq, hl'.sq, (show OutI X.K fa ct F0 L S H (.its (zipM _ _) S2) R _ from o) L' H' _ ex rs' (wk_zipT hl r hl' r')⟩⟩
            | _ => exact False.elim o
          | _ => exact False.elim o
end
end Ev

/-! Targets; comprehensions. -/
namespace Ev
open PySem PySem.Spec PyProof.Rows L2
variable {X : Cx} {fa ct : Nat → Option Addr} {W : WX} {C : Cfg}
mutual
def tgN : Tg → List Nat
  | .name i => [i]
  | .tup ts => tgNs ts
def tgNs : List Tg → List Nat
  | [] => []
  | t :: ts => tgN t ++ tgNs ts
end
/-- only the names ns are changed -/
def Agr (ns : List Nat) (σ σ' : L2.St) : Prop := σ'.length = σ.length ∧ ∀ j, j ∉ ns → σ'[j]? = σ[j]?
theorem Agr.trans {a b : List Nat} {σ σ1 σ2 : L2.St} (h : Agr a σ σ1) (h' : Agr b σ1 σ2) : Agr (a ++ b) σ σ2 :=
  ⟨h'.1.trans h.1, fun j hj => (h'.2 j fun q => hj (List.mem_append_right _ q)).trans (h.2 j fun q => hj (List.mem_append_left _ q))⟩
section
variable (K : PySem.W.Frag) (fa ct : Nat → Option Addr)
def gT (t : Tg) : TG := fun x σ H Q => ∃ F0 L σm S m σm2, RepS K fa F0 L S H ∧ Sl K fa F0 L S H σm σ ∧ Rv K fa (Fz F0 L S) H m x ∧ bindT t m σm = some σm2 ∧ ∀ σ2, Sl K fa F0 L S H σm2 σ2 → Agr (tgN t) σ σ2 → Q σ2 H
def gTs (ts : List Tg) : TGs := fun xs σ H Q => ∃ F0 L σm S ms σm2, RepS K fa F0 L S H ∧ Sl K fa F0 L S H σm σ ∧ Rvs K fa (Fz F0 L S) H ms xs ∧ bindTs ts ms σm = some σm2 ∧ ∀ σ2, Sl K fa F0 L S H σm2 σ2 → Agr (tgNs ts) σ σ2 → Q σ2 H
end
theorem pg_imp {e : Expr} {t t' : TG} (h : PG X e t) (i : ∀ x σ H Q, t' x σ H Q → t x σ H Q) : PG X e t' := ⟨fun pins s σ H v u Q I r q => h.run pins s σ H v u Q I r (i v σ H Q q)⟩
theorem pgs_imp {e : List Expr} {t t' : TGs} (h : PGs X e t) (i : ∀ x σ H Q, t' x σ H Q → t x σ H Q) : PGs X e t' := ⟨fun pins s σ H v u Q I r q => h.run pins s σ H v u Q I r (i v σ H Q q)⟩
section
variable {K : PySem.W.Frag} {F0 : Addr → Prop} {L : List Addr} {S : Sto} {H : Hp}
theorem Sl.set {σm : List SV} {σ : L2.St} {s : SV} {x : V} (i : Nat) (h : Sl K fa F0 L S H σm σ) (r : RepV K fa F0 L S H s x) : Sl K fa F0 L S H (setL σm i s) (σ.set i (some x)) := by
  rw [setL_eq]
  refine ⟨by rw [List.length_set, List.length_set]; exact h.len, fun j t e => ?_⟩
  by_cases hj : i = j
  · subst hj
    have hi : i < σm.length := by
      have := (List.getElem?_eq_some_iff.mp e).1
      rw [List.length_set] at this
      exact this
    rw [List.getElem?_set_self hi] at e
    cases e
    exact .inr ⟨x, by rw [List.getElem?_set_self (by rw [← h.len]; exact hi)], r⟩
  · rw [List.getElem?_set_ne hj] at e ⊢
    exact h.at_ j t e
end
theorem agr_set (i : Nat) (σ : L2.St) (x : Option V) : Agr [i] σ (σ.set i x) :=
  ⟨List.length_set .., fun j hj => List.getElem?_set_ne (fun e => hj (by simp [e]))⟩
theorem eg_name {i : Nat} {x : Str} {pos : Pos} (hN : X.N.Nodup) (hi : X.N[i]? = some x) (hx : Loc X.env.scope x) (hf : X.fn x = true ∨ X.env.scope.names.lookup x = some .local := by first | exact .inl rfl | exact .inr rfl | assumption) : PG X (.Name x pos) (gT X.K fa (.name i)) :=
  pg_imp (pg_name hN hi hx hf) fun x σ H Q ⟨F0, L, σm, S, m, σm2, rs, sl, r, e, q⟩ => by
    cases (show some (setL σm i (.v m)) = some σm2 from e)
    exact q _ (sl.set (s := .v m) i r) (agr_set i σ _)
theorem bindTs_len : ∀ (ts : List Tg) (ms : List MV) (σ σ2 : List SV), bindTs ts ms σ = some σ2 → ms.length = ts.length
  | [], [], _, _, _ => rfl
  | [], _ :: _, _, _, h => by cases h
  | _ :: _, [], _, _, h => by cases h
  | t :: ts, m :: ms, σ, σ2, h => by
    have h : oR (bindT t m σ) none (fun σ' => bindTs ts ms σ') = some σ2 := h
    cases q : bindT t m σ with
    | none => rw [q] at h; cases h
    | some σ' => rw [q] at h; exact congrArg Nat.succ (bindTs_len ts ms σ' σ2 h)
theorem eg_tup {es : List Expr} {k : Nat} {ts : List Tg} {pos : Pos} (hc : X.calm = true) (h : PGs X es (gTs X.K fa ts)) (hn : (assignEach es X.env).length = ts.length := by rfl) (hst : (assignEach es X.env).findIdx? (·.1) = none := by rfl) : PG X (.Tuple es k pos) (gT X.K fa (.tup ts)) :=
  pg_imp (pg_tup (n := ts.length) hc h hn hst) fun x σ H Q ⟨F0, L, σm, S, m, σm2, rs, sl, r, e, q⟩ => by
    cases r with
    | tup hl rr =>
      have e : bindTs ts _ σm = some σm2 := e
      exact ⟨_, _, rfl, hl.sq, by rw [← rr.length]; exact bindTs_len _ _ _ _ e, F0, L, σm, S, _, σm2, rs, sl, rr, e, q⟩
    | _ => cases e
theorem eg_nil : PGs X [] (gTs X.K fa []) := pgs_imp pgs_nil fun x σ H Q ⟨F0, L, σm, S, ms, σm2, rs, sl, r, e, q⟩ => by
  cases r with
  | nil =>
    cases (show some σm = some σm2 from e)
    exact ⟨rfl, q σ sl ⟨rfl, fun _ _ => rfl⟩⟩
  | cons _ _ => cases e
theorem eg_cons {e : Expr} {es : List Expr} {t : Tg} {ts : List Tg} (h1 : PG X e (gT X.K fa t)) (h2 : PGs X es (gTs X.K fa ts)) (hs : (assignEach (e :: es) X.env).map (·.2) = assign e X.env :: (assignEach es X.env).map (·.2) := by rfl) : PGs X (e :: es) (gTs X.K fa (t :: ts)) :=
  pgs_imp (pgs_cons h1 h2 hs) fun x σ H Q ⟨F0, L, σm, S, ms, σm2, rs, sl, r, e, q⟩ => by
    cases r with
    | nil => cases e
    | @cons m ms x xs r rr =>
      have e : oR (bindT t m σm) none (fun σ' => bindTs ts ms σ') = some σm2 := e
      cases q1 : bindT t m σm with
      | none => rw [q1] at e; cases e
      | some σ1 =>
        rw [q1] at e
        exact ⟨x, xs, rfl, F0, L, σm, S, m, σ1, rs, sl, r, q1, fun σ' sl' ag => ⟨F0, L, σ1, S, ms, σm2, rs, sl', rr, e, fun σ2 sl2 ag2 => q σ2 sl2 (ag.trans ag2)⟩⟩
/-! comprehensions -/
abbrev Wn : WX := fun _ _ _ _ => False
theorem wipeL_eq : ∀ (vs : List Nat) (σ : List SV), wipeL σ vs = vs.foldr (fun v s => s.set v .u) σ
  | [], _ => rfl
  | v :: vs, σ => by
    show setL (wipeL σ vs) v .u = (vs.foldr (fun v s => s.set v SV.u) σ).set v .u
    rw [setL_eq, wipeL_eq vs σ]
theorem wipe_agr : ∀ {vs : List Nat} {σ σ2 : L2.St}, (∀ j, j ∉ vs → σ2[j]? = σ[j]?) → σ2.length = σ.length → wipe σ2 vs = wipe σ vs := by
  intro vs σ σ2 h hl
  refine List.ext_getElem? fun j => ?_
  have key : ∀ (vs : List Nat) (σ : L2.St), j ∈ vs → j < σ.length → (wipe σ vs)[j]? = some none := by
    intro vs
    induction vs with
    | nil => intro σ hj; cases hj
    | cons v vs ih =>
      intro σ hj hl
      show ((wipe σ vs).set v none)[j]? = some none
      by_cases e : v = j
      · subst e
        exact List.getElem?_set_self (by rw [wipe_length]; exact hl)
      · rw [List.getElem?_set_ne e]
        exact ih σ ((List.mem_cons.mp hj).elim (fun z => absurd z.symm e) id) hl
  by_cases hj : j ∈ vs
  · by_cases hlt : j < σ.length
    · rw [key vs σ hj hlt, key vs σ2 hj (by rw [hl]; exact hlt)]
    · rw [List.getElem?_eq_none (by rw [wipe_length]; omega), List.getElem?_eq_none (by rw [wipe_length]; omega)]
  · rw [wipe_out hj, wipe_out hj, h j hj]
section
variable {K : PySem.W.Frag} {F0 F1 : Addr → Prop} {L L' : List Addr} {S S' : Sto} {H H' : Hp}
theorem RepV.mono {s : SV} {x : V} (kp : Kp (Fz F0 L S) H H') (gr : Gr (Fz F0 L S) (Fz F1 L' S') H) (lk : ∀ {k : Nat} {a : Addr}, L[k]? = some a → L'[k]? = some a) (h : RepV K fa F0 L S H s x) : RepV K fa F1 L' S' H' s x := by
  cases s with
  | u => exact h
  | v m => exact Rv.mono kp gr h
  | r k =>
    obtain ⟨a, e, h⟩ := h
    exact ⟨a, e, lk h⟩
theorem Sl.mono {σm : List SV} {σ : L2.St} (kp : Kp (Fz F0 L S) H H') (gr : Gr (Fz F0 L S) (Fz F1 L' S') H) (lk : ∀ {k : Nat} {a : Addr}, L[k]? = some a → L'[k]? = some a) (h : Sl K fa F0 L S H σm σ) : Sl K fa F1 L' S' H' σm σ :=
  ⟨h.len, fun i s e => (h.at_ i s e).imp id fun ⟨x, h1, h2⟩ => ⟨x, h1, h2.mono kp gr lk⟩⟩
theorem Sl.wipe {σm : List SV} {σ : L2.St} (h : Sl K fa F0 L S H σm σ) : ∀ vs : List Nat, Sl K fa F0 L S H (wipeL σm vs) (L2.wipe σ vs)
  | [] => h
  | v :: vs => by
    have ih := Sl.wipe h vs
    show Sl K fa F0 L S H (setL (wipeL σm vs) v .u) ((L2.wipe σ vs).set v none)
    rw [setL_eq]
    refine ⟨by rw [List.length_set, List.length_set]; exact ih.len, fun j t e => ?_⟩
    by_cases hj : v = j
    · subst hj
      have hi : v < (wipeL σm vs).length := by
        have := (List.getElem?_eq_some_iff.mp e).1
        rw [List.length_set] at this
        exact this
      rw [List.getElem?_set_self hi] at e
      cases e
      exact .inl rfl
    · rw [List.getElem?_set_ne hj] at e ⊢
      exact ih.at_ j t e
/-- one more address that is being changed -/
def plus (F0 : Addr → Prop) (D : Addr) : Addr → Prop := fun a => F0 a ∨ a = D
/-- a list D that is being filled -/
theorem RepS.filling {D : Addr} {o : HO} (rs : RepS K fa F0 L S H) (hD : H D = none) : Ex L S H L S (upd H D o) ∧ RepS K fa (plus F0 D) L S (upd H D o) := by
  obtain ⟨ex, r⟩ := rs.fresh (o := o) hD
  have kp : ∀ b u, H b = some u → upd H D o b = some u := fun b u e => by rw [upd_ne (ne_of_none e hD)]; exact e
  have gr : Gr (Fz F0 L S) (Fz (plus F0 D) L S) H := fun a q => by
    rcases q with (q | q) | q
    · exact .inl (.inl q)
    · exact .inr (by rw [q]; exact hD)
    · exact .inl (.inr q)
  refine ⟨ex, rs.wf, rs.len, fun k ob e => ?_, rs.inj, fun a h q => ?_, fun a h => ?_⟩
  · obtain ⟨a, h1, h2⟩ := rs.obj k ob e
    exact ⟨a, h1, h2.step kp gr⟩
  · rcases q with q | q
    · exact rs.off a h q
    · subst q
      exact rs.offF hD (.inr h)
  · rcases h with h | h
    · exact r.trk a h
    · subst h; rw [upd_same]; exact fun q => nomatch q
/-- the list is filled on -/
theorem RepS.fill {D : Addr} {o : HO} (rs : RepS K fa (plus F0 D) L S H) : RepS K fa (plus F0 D) L S (upd H D o) ∧ Kp (Fz (plus F0 D) L S) H (upd H D o) := by
  have kp : Kp (Fz (plus F0 D) L S) H (upd H D o) := fun b u e n => by
    have hb : b ≠ D := fun q => n (.inl (.inr q))
    rw [upd_ne hb]; exact e
  refine ⟨⟨rs.wf, rs.len, fun k ob e => ?_, rs.inj, rs.off, fun a h => ?_⟩, kp⟩
  · obtain ⟨a, h1, h2⟩ := rs.obj k ob e
    refine ⟨a, h1, ?_⟩
    have ha : a ≠ D := fun q => rs.off a ⟨k, ob, e, h1⟩ (.inr q)
    cases ob with
    | lst n rev =>
      obtain ⟨xs, h3, h4, h5⟩ := h2
      exact ⟨xs, by rw [upd_ne ha]; exact h3, h4.mono kp fun a q => .inl q, h5⟩
    | dct _ _ _ => exact h2
  · by_cases e : a = D
    · rw [e, upd_same]; exact fun q => nomatch q
    · rw [upd_ne e]; exact rs.trk a h
/-- it is done: a value -/
theorem RepS.filled {D : Addr} (rs : RepS K fa (plus F0 D) L S H) : RepS K fa F0 L S H ∧ ∀ a, Fz F0 L S a → Fz (plus F0 D) L S a := by
  have sub : ∀ a, Fz F0 L S a → Fz (plus F0 D) L S a := fun a q => q.imp .inl id
  exact ⟨⟨rs.wf, rs.len, fun k ob e => let ⟨a, h1, h2⟩ := rs.obj k ob e; ⟨a, h1, h2.gr sub⟩, rs.inj, fun a h q => rs.off a h (.inl q), fun a h => rs.trk a (.inl h)⟩, sub⟩
/-- it is done: an object that may be changed -/
theorem RepS.owned {D : Addr} {o : MO} (rs : RepS K fa (plus F0 D) L S H) (hF : ¬ F0 D) (ro : Ro K fa (Fz (plus F0 D) L S) H o D) : RepS K fa F0 (L ++ [D]) (S.push o) H := by
  have r0 := rs.filled.1
  have nl : ¬ live L S D := fun q => rs.off D q (.inr rfl)
  have ev : Fz F0 (L ++ [D]) (S.push o) = Fz (plus F0 D) L S := funext fun a => propext (by
    unfold Fz plus
    rw [live_push r0 a]
    constructor
    · rintro (h | h | h)
      · exact .inl (.inl h)
      · exact .inr h
      · exact .inl (.inr h)
    · rintro ((h | h) | h)
      · exact .inl h
      · exact .inr (.inr h)
      · exact .inr (.inl h))
  have top : (L ++ [D])[S.n]? = some D := by
    rw [← rs.len, List.getElem?_append_right (Nat.le_refl _)]
    simp
  refine ⟨by rw [push_l, push_n, List.length_cons, rs.wf], by rw [push_n, List.length_append, rs.len]; rfl, fun k ob e => ?_, fun j k o1 o2 a h1 h2 h3 h4 => ?_, fun a q => ?_, fun a h => rs.trk a (.inl h)⟩
  · rw [ev]
    rw [get_push] at e
    by_cases hk : k = S.n
    · rw [if_pos hk] at e
      cases e
      subst hk
      exact ⟨D, top, ro⟩
    · rw [if_neg hk] at e
      obtain ⟨a, h1, h2⟩ := rs.obj k ob e
      exact ⟨a, by rw [List.getElem?_append_left (List.getElem?_eq_some_iff.mp h1).1]; exact h1, h2⟩
  · have key : ∀ i o', (S.push o).get i = some o' → (L ++ [D])[i]? = some a → (i = S.n ∧ a = D) ∨ (S.get i = some o' ∧ L[i]? = some a) := fun i o' e1 e2 => by
      rw [get_push] at e1
      by_cases hi : i = S.n
      · subst hi
        rw [top] at e2
        cases e2
        exact .inl ⟨rfl, rfl⟩
      · rw [if_neg hi] at e1
        rw [List.getElem?_append_left (by rw [rs.len]; exact get_lt e1)] at e2
        exact .inr ⟨e1, e2⟩
    rcases key j o1 h1 h3 with ⟨rfl, rfl⟩ | ⟨g1, g2⟩
    · rcases key k o2 h2 h4 with ⟨rfl, _⟩ | ⟨g3, g4⟩
      · rfl
      · exact (nl ⟨k, o2, g3, g4⟩).elim
    · rcases key k o2 h2 h4 with ⟨rfl, rfl⟩ | ⟨g3, g4⟩
      · exact (nl ⟨j, o1, g1, g2⟩).elim
      · exact rs.inj j k o1 o2 a g1 g3 g2 g4
  · rcases (live_push r0 a).mp q with z | rfl
    · exact r0.off a z
    · exact hF
end
end Ev

/-! Comprehensions. -/
namespace Ev
open PySem PySem.Spec PyProof.Rows L2
variable {X : Cx} {fa ct : Nat → Option Addr} {W : WX} {C : Cfg}
section
variable {K : PySem.W.Frag} {F0 : Addr → Prop} {L : List Addr} {S : Sto} {H : Hp} {E : XK}
def tTs (K : PySem.W.Frag) (fa ct : Nat → Option Addr) (o : Option FE) : TT := fun σ H Q => match o with
  | none => Q true H
  | some f => tT K fa ct f Wn σ H Q
noncomputable def finC (own : Bool) (r : RI) : RE := @RI.rec (fun _ => RE) .bad (fun rev S2 => newL own rev S2) (fun _ _ _ => .bad) r
theorem out_bI {r : RI} {k : List MV → Sto → RE} {Q : VK} (h : Out K fa ct F0 L S H (bI r k) Q E) :
    OutI K fa ct F0 L S H r (fun J H1 => ∃ L1 S1 ms, Ex L S H L1 S1 H1 ∧ RepS K fa F0 L1 S1 H1 ∧ Wk K fa F0 L1 S1 H1 ms J ∧ Out K fa ct F0 L1 S1 H1 (k ms S1) Q E) E := by
  cases r with
  | bad => exact h
  | its ms S' => exact fun L' H' J a b c => ⟨L', S', ms, a, b, c, Out.from a h⟩
  | exc c as S' => exact h
theorem Ex.fill {L1 : List Addr} {S1 : Sto} {H1 : Hp} {D : Addr} {o : HO} (ex : Ex L S H L1 S1 H1) (hD : H D = none) : Ex L S H L1 S1 (upd H1 D o) :=
  ⟨ex.pre, fun b u e n => by rw [upd_ne (ne_of_none e hD)]; exact ex.kp b u e n, ex.new⟩
theorem newL_out {own : Bool} {rev : List MV} {acc : List V} {D : Addr} {Q : VK} {L2 : List Addr} {S2 : Sto} {H2 : Hp} (rs1 : RepS K fa F0 L S H) (hD : H D = none) (ex : Ex L S H L2 S2 H2) (rs2 : RepS K fa (plus F0 D) L2 S2 H2) (hd : H2 D = some (.lst acc))
    (rv : Rvs K fa (Fz (plus F0 D) L2 S2) H2 rev.reverse acc) (o : Out K fa ct F0 L S H (newL own rev S2) Q E) : Q (.ref D) H2 := by
  have nF : ¬ F0 D := fun q => rs1.trk D q hD
  have nl : ¬ live L2 S2 D := fun q => rs2.off D q (.inr rfl)
  unfold newL at o
  cases hf : fits (lenL rev) with
  | false => rw [hf] at o; exact False.elim o
  | true =>
    rw [hf] at o
    cases own with
    | false =>
      have o : Out K fa ct F0 L S H (.val (.v (.lst (revL rev))) S2) Q E := o
      obtain ⟨rs3, sub⟩ := rs2.filled
      refine o L2 H2 (.ref D) ex rs3 ?_
      show Rv K fa (Fz F0 L2 S2) H2 (.lst (revL rev)) (.ref D)
      rw [revL_eq]
      exact .lst ⟨hd, fun q => q.elim nF nl⟩ (rv.mono (fun _ _ e _ => e) fun a q => .inl (sub a q))
    | true =>
      have o : Out K fa ct F0 L S H (.val (.r S2.n) (S2.push (.lst (lenL rev) rev))) Q E := o
      have rs3 := rs2.owned (o := .lst (lenL rev) rev) nF ⟨acc, hd, rv, lenL_eq rev⟩
      refine o (L2 ++ [D]) H2 (.ref D) ⟨?_, ex.kp, fun a q => ?_⟩ rs3 ⟨D, rfl, ?_⟩
      · obtain ⟨M, rfl⟩ := ex.pre
        exact ⟨M ++ [D], List.append_assoc ..⟩
      · rcases (live_push (rs2.filled.1) a).mp q with z | z
        · exact ex.new a z
        · exact .inr (by rw [z]; exact hD)
      · rw [← rs2.len, List.getElem?_append_right (Nat.le_refl _)]
        simp
/-- where the walk stands -/
def CPv (K : PySem.W.Frag) (fa ct : Nat → Option Addr) (F0 : Addr → Prop) (L1 : List Addr) (S1 : Sto) (H1 : Hp) (D : Addr) (own : Bool) (t : Tg) (fc : Option FE) (fe : FE) (σw : List SV) (σ : L2.St) (ms : List MV) (Q : VK) (E : XK) (i : Nat) (H2 : Hp) : Prop :=
  ∃ L2 S2 rev acc, Ex L1 S1 H1 L2 S2 H2 ∧ RepS K fa (plus F0 D) L2 S2 H2 ∧ Sl K fa (plus F0 D) L2 S2 H2 σw σ ∧ H2 D = some (.lst acc) ∧ Rvs K fa (Fz (plus F0 D) L2 S2) H2 rev.reverse acc ∧ acc.length ≤ i ∧
    Out K fa ct F0 L1 S1 H1 (finC own (compGo t fc fe σw (ms.drop i) rev S2)) Q E
noncomputable def goC (ih : List MV → Sto → RI) (rev : List MV) (r : RE) : RI := @RE.rec (fun _ => RI) .bad (fun v S2 => oR (asV v) .bad fun y => ih (y :: rev) S2) (fun _ _ _ => .bad) r
theorem elt_reads {L3 : List Addr} {S3 : Sto} {H3 : Hp} {D : Addr} {own : Bool} {t : Tg} {fc : Option FE} {fe : FE} {σw σ2m : List SV} {σ σ2 : L2.St} {ms rev : List MV} {acc : List V} {Q : VK} {i : Nat}
    (hD : H D = none) (ex : Ex L S H L3 S3 H3) (rs : RepS K fa (plus F0 D) L3 S3 H3) (sw : Sl K fa (plus F0 D) L3 S3 H3 σw σ) (s2 : Sl K fa (plus F0 D) L3 S3 H3 σ2m σ2) (hd : H3 D = some (.lst acc)) (rv : Rvs K fa (Fz (plus F0 D) L3 S3) H3 rev.reverse acc) (hl : acc.length ≤ i) (hi : i < 1000000)
    (o : Out K fa ct F0 L S H (finC own (goC (compGo t fc fe σw (ms.drop (i + 1))) rev (fe σ2m S3))) Q E) :
    tE K fa ct fe Wn σ2 H3 fun y H4 => ∃ acc, H4 D = some (.lst acc) ∧ acc.length < sizeLine ∧ CPv K fa ct F0 L S H D own t fc fe σw σ ms Q E (i + 1) (upd H4 D (.lst (acc ++ [y]))) := by
  refine ⟨plus F0 D, L3, σ2m, S3, rs, s2, ?_⟩
  cases q : fe σ2m S3 with
  | bad => rw [q] at o; exact False.elim o
  | exc c as S4 => rw [q] at o; exact False.elim o
  | val s S4 =>
    rw [q] at o
    intro L4 H4 y ex4 rs4 v4
    have o : Out K fa ct F0 L S H (finC own (oR (asV s) .bad fun y => compGo t fc fe σw (ms.drop (i + 1)) (y :: rev) S4)) Q E := o
    cases e : asV s with
    | none => rw [e] at o; exact False.elim o
    | some ym =>
      rw [e] at o
      have nl : ¬ live L3 S3 D := fun q => rs.off D q (.inr rfl)
      have hd4 := ex4.kp D _ hd nl
      obtain ⟨rs5, kp5⟩ := rs4.fill (o := .lst (acc ++ [y]))
      refine ⟨acc, hd4, by rw [sizeLine_eq]; omega, L4, S4, ym :: rev, acc ++ [y], (ex.trans ex4).fill hD, rs5, ?_, upd_same, ?_, by rw [List.length_append]; simp; omega, o⟩
      · exact (sw.ex ex4).mono kp5 (fun a q => .inl q) id
      · rw [List.reverse_cons]
        exact ((Rvs.ex (F0 := plus F0 D) ex4 rv).mono kp5 fun a q => .inl q).append (.cons ((v4.as e).mono kp5 fun a q => .inl q) .nil)
theorem comp_reads {own : Bool} {vs : List Nat} {t : Tg} {it : Ev.It} {c : Oe} {e : Ev.E} {σ : L2.St} {Q : VK} (h : tE K fa ct (evE C (.comp own vs t it c e)) W σ H Q) (hv : ∀ i ∈ tgN t, i ∈ vs) :
    tLc (tI K fa ct W (evIt C it)) (gT K fa t) (tTs K fa ct (evOe C c).2) (tE K fa ct (evE C e) Wn) vs σ H Q := by
  obtain ⟨F0, L, σm, S, rs, sl, o⟩ := h
  have o := out_bI (show Out K fa ct F0 L S H (bI (evIt C it σm S) fun ms S1 => bR (fits (lenL ms)) (finC own (compGo t (evOe C c).2 (evE C e) (wipeL σm vs) ms [] S1)) .bad) Q _ from o)
  refine ⟨F0, L, σm, S, rs, sl, ?_⟩
  generalize hfc : (evOe C c).2 = fc at o
  generalize hfe : evE C e = fe at o
  cases q : evIt C it σm S with
  | bad => rw [q] at o; exact o
  | exc c as S' => rw [q] at o; exact o
  | its ms0 S0 =>
    rw [q] at o
    intro L' H1 J exJ rsJ wkJ D hD
    obtain ⟨L1, S1, ms, ex1, rs1, ⟨G, Y, wk, prop⟩, o⟩ := o L' H1 J exJ rsJ wkJ
    cases hf : fits (lenL ms) with
    | false => rw [hf] at o; exact False.elim o
    | true =>
      rw [hf] at o
      have hm : ms.length ≤ 1000000 := by rw [← lenL_eq]; exact (fits_iff _).mp hf
      have gr1 : ∀ {L2 S2 H2}, Ex L1 S1 H1 L2 S2 H2 → Gr (Fz F0 L1 S1) (Fz (plus F0 D) L2 S2) H1 := fun {L2 S2 H2} ex a q => by
        rcases q with (q | q) | q
        · exact .inl (.inl q)
        · exact .inr (by rw [q]; exact hD)
        · exact (ex.new a q).imp .inr id
      have o : Out K fa ct F0 L1 S1 H1 (finC own (compGo t fc fe (wipeL σm vs) ms [] S1)) Q (fun c d H' => W c d σ H') := o
      refine lc_it wk (CPv K fa ct F0 L1 S1 H1 D own t fc fe (wipeL σm vs) (L2.wipe σ vs) ms Q (fun c d H' => W c d σ H')) ?_ ?_ ?_ ?_
      · obtain ⟨exf, rsf⟩ := rs1.filling (o := .lst []) hD
        refine ⟨L1, S1, [], [], exf, rsf, ?_, upd_same, .nil, Nat.le_refl _, o⟩
        exact Sl.wipe ((sl.ex ex1).mono (fun b u e n => exf.kp b u e fun q => n (.inr q)) (gr1 exf) id) vs
      · rintro i H2 hi ⟨L2, S2, rev, acc, ex2, rs2, _⟩
        exact (prop _ L2 S2 H2 ex2 rs2 (gr1 ex2)).1
      · rintro i x H2 H2' hi ⟨L2, S2, rev, acc, ex2, rs2, sw2, hd2, rv2, hl2, o2⟩ hy
        obtain ⟨kp, m, em, rm⟩ := (prop _ L2 S2 H2 ex2 rs2 (gr1 ex2)).2 i x H2' hi hy
        obtain ⟨ex3, rs3⟩ := rs2.kept kp
        have hdrop : ms.drop i = m :: ms.drop (i + 1) := by
          have hlt : i < ms.length := hi
          rw [List.drop_eq_getElem_cons hlt]
          rw [List.getElem?_eq_getElem hlt] at em
          cases em
          rfl
        rw [hdrop] at o2
        have o2 : Out K fa ct F0 L1 S1 H1 (finC own (oR (bindT t m (wipeL σm vs)) .bad fun σ2 => oR fc (goC (compGo t fc fe (wipeL σm vs) (ms.drop (i + 1))) rev (fe σ2 S2)) fun f =>
          @RE.rec (fun _ => RI) .bad (fun c S1 => oR (peek S1 c) .bad fun a => oR (truM a) .bad fun b => bR b (goC (compGo t fc fe (wipeL σm vs) (ms.drop (i + 1))) rev (fe σ2 S1)) (compGo t fc fe (wipeL σm vs) (ms.drop (i + 1)) rev S1)) (fun _ _ _ => .bad) (f σ2 S2))) Q (fun c d H' => W c d σ H') := o2
        cases eb : bindT t m (wipeL σm vs) with
        | none => rw [eb] at o2; exact False.elim o2
        | some σ2m =>
          rw [eb] at o2
          refine ⟨plus F0 D, L2, wipeL σm vs, S2, m, σ2m, rs3, sw2.ex ex3, rm, eb, fun σ2 sl2 ag => ⟨?_, ?_⟩⟩
          · refine wipe_agr (fun j hj => ?_) ?_
            · rw [ag.2 j fun q => hj (hv j q), wipe_out hj]
            · rw [ag.1, wipe_length]
          · have rv3 := Rvs.ex (F0 := plus F0 D) ex3 rv2
            have hd3 := kp _ _ hd2
            cases fc with
            | none =>
              simp only [tTs, ↓reduceIte]
              exact elt_reads hD (ex2.trans ex3) rs3 (sw2.ex ex3) sl2 hd3 rv3 hl2 (by omega) o2
            | some f =>
              refine ⟨plus F0 D, L2, σ2m, S2, rs3, sl2, ?_⟩
              have o2 : Out K fa ct F0 L1 S1 H1 (finC own (@RE.rec (fun _ => RI) .bad (fun c S1 => oR (peek S1 c) .bad fun a => oR (truM a) .bad fun b => bR b (goC (compGo t (some f) fe (wipeL σm vs) (ms.drop (i + 1))) rev (fe σ2m S1)) (compGo t (some f) fe (wipeL σm vs) (ms.drop (i + 1)) rev S1)) (fun _ _ _ => .bad) (f σ2m S2))) Q (fun c d H' => W c d σ H') := o2
              show Out K fa ct (plus F0 D) L2 S2 H2' (bE (f σ2m S2) fun x S1 => tru S1 x fun b => .val (.v (.bl b)) S1) _ _
              cases qf : f σ2m S2 with
              | bad => rw [qf] at o2; exact False.elim o2
              | exc c as S3 => rw [qf] at o2; exact False.elim o2
              | val s S3 =>
                rw [qf] at o2
                have o2 : Out K fa ct F0 L1 S1 H1 (finC own (oR (peek S3 s) .bad fun a => oR (truM a) .bad fun b => bR b (goC (compGo t (some f) fe (wipeL σm vs) (ms.drop (i + 1))) rev (fe σ2m S3)) (compGo t (some f) fe (wipeL σm vs) (ms.drop (i + 1)) rev S3))) Q (fun c d H' => W c d σ H') := o2
                cases ep : peek S3 s with
                | none => rw [ep] at o2; exact False.elim o2
                | some mm =>
                  rw [ep] at o2
                  have o2 : Out K fa ct F0 L1 S1 H1 (finC own (oR (truM mm) .bad fun b => bR b (goC (compGo t (some f) fe (wipeL σm vs) (ms.drop (i + 1))) rev (fe σ2m S3)) (compGo t (some f) fe (wipeL σm vs) (ms.drop (i + 1)) rev S3))) Q (fun c d H' => W c d σ H') := o2
                  cases et : truM mm with
                  | none => rw [et] at o2; exact False.elim o2
                  | some b =>
                    rw [et] at o2
                    show Out K fa ct (plus F0 D) L2 S2 H2' (tru S3 s fun b => .val (.v (.bl b)) S3) _ _
                    rw [tru_at ep et]
                    intro L4 H4 z ex4 rs4 v4
                    cases v4
                    refine ⟨b, rfl, ?_⟩
                    have nl : ¬ live L2 S2 D := fun q => rs3.off D q (.inr rfl)
                    have hd4 := ex4.kp D _ hd3 nl
                    have sw4 := (sw2.ex ex3).ex ex4
                    have rv4 := Rvs.ex (F0 := plus F0 D) ex4 rv3
                    have ex5 := (ex2.trans ex3).trans ex4
                    cases b with
                    | true =>
                      refine iteT ?_
                      exact elt_reads hD ex5 rs4 sw4 (sl2.ex ex4) hd4 rv4 hl2 (by omega) o2
                    | false =>
                      refine iteF ?_
                      exact ⟨L4, S3, rev, acc, ex5, rs4, sw4, hd4, rv4, by omega, o2⟩
      · rintro H2 ⟨L2, S2, rev, acc, ex2, rs2, sw2, hd2, rv2, hl2, o2⟩
        rw [List.drop_length] at o2
        exact newL_out rs1 hD ex2 rs2 hd2 rv2 (show Out K fa ct F0 L1 S1 H1 (newL own rev S2) Q _ from o2)
end
end Ev

/-! Statements. -/
namespace Ev
open PySem PySem.Spec PyProof.Rows L2
variable {X : Cx} {fa ct : Nat → Option Addr} {W : WX} {C : Cfg}
theorem Cn.blk {k : Nat} (c : Cn X W k) (s : Shared) (H : Hp) (scope : Scope) (cenv : Env) (fp : List Addr) : Cn (X.blk s H scope cenv fp) Wn k := ⟨c.calm, c.nd, c.room, PassesOwn.never, takes_none5⟩
section
variable {elt tg iter : Expr} {scope : Scope} {own : List (Str × Nat)} {ifs : List Expr} {pos : Pos} {o : Bool} {t : Tg} {it : Ev.It} {oc : Oe} {e : Ev.E} {k : Nat}
theorem ets_nil : PTs X [] (tTs X.K fa ct (evOe C .no).2) := ⟨fun pins s σ H Q I h => pts_nil.run pins s σ H Q I h⟩
theorem ets_one {c : Expr} {ec : Ev.E} (h : PT X c (tT X.K fa ct (evE C ec) Wn)) : PTs X [c] (tTs X.K fa ct (evOe C (.yes ec)).2) := ⟨fun pins s σ H Q I q => (pts_one h).run pins s σ H Q I q⟩
theorem ev_comp (c : Cn X W k) (hi : PI X tg iter (tI X.K fa ct W (evIt C it))) (ok : BlkOk X.N X.env.scope scope own)
    (hg : ∀ (s : Shared) (H : Hp) (D : Addr) (cl : List (Str × Addr)) (fp : List Addr), PG (X.blk s H scope (compEnvC scope cl D X.env) fp) tg (gT X.K fa t)) (ht : ∀ (s : Shared) (H : Hp) (D : Addr) (cl : List (Str × Addr)) (fp : List Addr), PTs (X.blk s H scope (compEnvC scope cl D X.env) fp) ifs (tTs X.K fa ct (evOe C oc).2))
    (he : ∀ (s : Shared) (H : Hp) (D : Addr) (cl : List (Str × Addr)) (fp : List Addr), PE (X.blk s H scope (compEnvC scope cl D X.env) fp) elt (tE X.K fa ct (evE C e) Wn)) (hv : ∀ i ∈ tgN t, i ∈ own.map (·.2)) (hs : ∀ x, foldedSetIterable iter X.env x = pure x := by intro _; rfl) :
    PE X (.ListComp elt [⟨tg, iter, ifs, 0⟩] scope pos) (tE X.K fa ct (evE C (.comp o (own.map (·.2)) t it oc e)) W) :=
  pe_imp (pe_lc c.calm c.nd hi ok hg ht he hs) fun _ _ _ h => comp_reads h hv
end
/-! what is wanted behind a statement -/
section
variable (K : PySem.W.Frag) (fa ct : Nat → Option Addr)
def OutS (F0 : Addr → Prop) (L : List Addr) (S : Sto) (H : Hp) (r : RS) (D : Ends) (W : WX) : Prop :=
  match r with
  | .bad => False
  | .nxt σm S' => ∀ L' H' σ, Ex L S H L' S' H' → RepS K fa F0 L' S' H' → Sl K fa F0 L' S' H' σm σ → D.nx σ H'
  | .ret s S' => ∀ L' H' x, Ex L S H L' S' H' → RepS K fa F0 L' S' H' → RepV K fa F0 L' S' H' s x → D.rt x H'
  | .brk σm S' => ∀ L' H' σ, Ex L S H L' S' H' → RepS K fa F0 L' S' H' → Sl K fa F0 L' S' H' σm σ → D.bk σ H'
  | .cnt σm S' => ∀ L' H' σ, Ex L S H L' S' H' → RepS K fa F0 L' S' H' → Sl K fa F0 L' S' H' σm σ → D.ct σ H'
  | .exc c as σm S' => ∀ L' H' cls d σ, Ex L S H L' S' H' → RepS K fa F0 L' S' H' → Sl K fa F0 L' S' H' σm σ → RepX ct c as cls d H' → W cls d σ H'
def tS (f : FS) (W : WX) : TS := fun D σ H => ∃ F0 L σm S, RepS K fa F0 L S H ∧ Sl K fa F0 L S H σm σ ∧ OutS K fa ct F0 L S H (f σm S) D W
end
theorem ps_imp {st : Stmt} {t t' : TS} (h : PS X st t) (i : ∀ D σ H, t' D σ H → t D σ H) : PS X st t' := ⟨fun pins s σ H D I q => h.run pins s σ H D I (i D σ H q)⟩
theorem pss_imp {st : List Stmt} {t t' : TS} (h : PSs X st t) (i : ∀ D σ H, t' D σ H → t D σ H) : PSs X st t' := ⟨fun pins s σ H D I q => h.run pins s σ H D I (i D σ H q)⟩
section
variable {K : PySem.W.Frag} {F0 : Addr → Prop} {L L1 : List Addr} {S S1 : Sto} {H H1 : Hp} {D : Ends} {σm : List SV} {σ : L2.St}
theorem OutS.from {r : RS} (ex : Ex L S H L1 S1 H1) (h : OutS K fa ct F0 L S H r D W) : OutS K fa ct F0 L1 S1 H1 r D W := by
  cases r with
  | bad => exact h
  | nxt σm S' => exact fun L' H' σ a b c => h L' H' σ (ex.trans a) b c
  | ret s S' => exact fun L' H' x a b c => h L' H' x (ex.trans a) b c
  | brk σm S' => exact fun L' H' σ a b c => h L' H' σ (ex.trans a) b c
  | cnt σm S' => exact fun L' H' σ a b c => h L' H' σ (ex.trans a) b c
  | exc c as σm S' => exact fun L' H' cls d σ a b c => h L' H' cls d σ (ex.trans a) b c
theorem out_bES {r : RE} {k : SV → Sto → RS} (sl : Sl K fa F0 L S H σm σ) (h : OutS K fa ct F0 L S H (bES σm r k) D W) :
    Out K fa ct F0 L S H r (fun x H1 => ∃ L1 S1 s, Ex L S H L1 S1 H1 ∧ RepS K fa F0 L1 S1 H1 ∧ Sl K fa F0 L1 S1 H1 σm σ ∧ RepV K fa F0 L1 S1 H1 s x ∧ OutS K fa ct F0 L1 S1 H1 (k s S1) D W) (fun c d H' => W c d σ H') := by
  cases r with
  | bad => exact h
  | val s S' => exact fun L' H' x a b c => ⟨L', S', s, a, b, sl.ex a, c, OutS.from a h⟩
  | exc c as S' => exact fun L' H' cls d a b x => h L' H' cls d σ a b (sl.ex a) x
theorem out_bAS {r : RA} {k : List SV → Sto → RS} (sl : Sl K fa F0 L S H σm σ) (h : OutS K fa ct F0 L S H (bAS σm r k) D W) :
    OutA K fa ct F0 L S H r (fun x H1 => ∃ L1 S1 s, Ex L S H L1 S1 H1 ∧ RepS K fa F0 L1 S1 H1 ∧ Sl K fa F0 L1 S1 H1 σm σ ∧ RepVs K fa F0 L1 S1 H1 s x ∧ OutS K fa ct F0 L1 S1 H1 (k s S1) D W) (fun c d H' => W c d σ H') := by
  cases r with
  | bad => exact h
  | vals s S' => exact fun L' H' x a b c => ⟨L', S', s, a, b, sl.ex a, c, OutS.from a h⟩
  | exc c as S' => exact fun L' H' cls d a b x => h L' H' cls d σ a b (sl.ex a) x
theorem out_bIS {r : RI} {k : List MV → Sto → RS} (sl : Sl K fa F0 L S H σm σ) (h : OutS K fa ct F0 L S H (bIS σm r k) D W) :
    OutI K fa ct F0 L S H r (fun J H1 => ∃ L1 S1 ms, Ex L S H L1 S1 H1 ∧ RepS K fa F0 L1 S1 H1 ∧ Sl K fa F0 L1 S1 H1 σm σ ∧ Wk K fa F0 L1 S1 H1 ms J ∧ OutS K fa ct F0 L1 S1 H1 (k ms S1) D W) (fun c d H' => W c d σ H') := by
  cases r with
  | bad => exact h
  | its s S' => exact fun L' H' x a b c => ⟨L', S', s, a, b, sl.ex a, c, OutS.from a h⟩
  | exc c as S' => exact fun L' H' cls d a b x => h L' H' cls d σ a b (sl.ex a) x
theorem outS_oR {α : Type} {o : Option α} {k : α → RS} (h : OutS K fa ct F0 L S H (oR o .bad k) D W) : ∃ m, o = some m ∧ OutS K fa ct F0 L S H (k m) D W := by
  cases o with
  | none => exact False.elim h
  | some m => exact ⟨m, rfl, h⟩
end
section
variable {st : Stmt} {rest : List Stmt} {s : Ev.St} {r : Ss} {e : Expr} {ee : Ev.E} {pos : Pos} {k : Nat}
theorem es_nil : PSs X [] (tS X.K fa ct (evSs C .nil) W) := pss_imp pss_nil fun D σ H ⟨F0, L, σm, S, rs, sl, o⟩ => (show OutS X.K fa ct F0 L S H (.nxt σm S) D W from o) L H σ .refl rs sl
theorem es_cons (h1 : PS X st (tS X.K fa ct (evS C s) W)) (h2 : PSs X rest (tS X.K fa ct (evSs C r) W)) : PSs X (st :: rest) (tS X.K fa ct (evSs C (.cons s r)) W) := by
  refine pss_imp (pss_cons h1 h2) fun D σ H ⟨F0, L, σm, S, rs, sl, o⟩ => ?_
  have o : OutS X.K fa ct F0 L S H (@RS.rec (fun _ => RS) .bad (fun σ' S' => evSs C r σ' S') RS.ret RS.brk RS.cnt RS.exc (evS C s σm S)) D W := o
  refine ⟨F0, L, σm, S, rs, sl, ?_⟩
  cases q : evS C s σm S with
  | bad => rw [q] at o; exact o
  | nxt σ1 S1 =>
    rw [q] at o
    exact fun L' H' σ' ex rs' sl' => ⟨F0, L', σ1, S1, rs', sl', OutS.from ex o⟩
  | ret v S1 => rw [q] at o; exact o
  | brk σ1 S1 => rw [q] at o; exact o
  | cnt σ1 S1 => rw [q] at o; exact o
  | exc c as σ1 S1 => rw [q] at o; exact o
theorem nop_reads {D : Ends} {σ : L2.St} {H : Hp} (h : tS X.K fa ct (evS C .nop) W D σ H) : tNext D σ H := by
  obtain ⟨F0, L, σm, S, rs, sl, o⟩ := h
  exact (show OutS X.K fa ct F0 L S H (.nxt σm S) D W from o) L H σ .refl rs sl
theorem es_pass : PS X (.Pass pos) (tS X.K fa ct (evS C .nop) W) := ps_imp ps_pass fun _ _ _ => nop_reads
theorem es_doc {x : Str} {j : Nat} {pos' : Pos} : PS X (.Expr (.Constant (.str x) j pos) pos') (tS X.K fa ct (evS C .nop) W) := ps_imp ps_doc fun _ _ _ => nop_reads
theorem es_break : PS X (.Break pos) (tS X.K fa ct (evS C .brk) W) := ps_imp ps_break fun D σ H ⟨F0, L, σm, S, rs, sl, o⟩ => (show OutS X.K fa ct F0 L S H (.brk σm S) D W from o) L H σ .refl rs sl
theorem es_continue : PS X (.Continue pos) (tS X.K fa ct (evS C .cnt) W) := ps_imp ps_continue fun D σ H ⟨F0, L, σm, S, rs, sl, o⟩ => (show OutS X.K fa ct F0 L S H (.cnt σm S) D W from o) L H σ .refl rs sl
theorem es_expr (he : PE X e (tE X.K fa ct (evE C ee) W)) (hs : swapsWith e none pos.line X.env = pure false := by rfl) : PS X (.Expr e pos) (tS X.K fa ct (evS C (.expr ee)) W) := by
  refine ps_imp (ps_expr he hs) fun D σ H ⟨F0, L, σm, S, rs, sl, o⟩ => ?_
  refine ⟨F0, L, σm, S, rs, sl, (out_bES sl (show OutS X.K fa ct F0 L S H (bES σm (evE C ee σm S) fun _ S1 => .nxt σm S1) D W from o)).mono (fun x H1 ⟨L1, S1, s, ex, r1, sl1, v, o1⟩ => ?_) fun _ _ _ h => h⟩
  exact o1 L1 H1 σ .refl r1 sl1
theorem es_ret (he : PE X e (tE X.K fa ct (evE C ee) W)) : PS X (.Return (some e) pos) (tS X.K fa ct (evS C (.ret ee)) W) := by
  refine ps_imp (ps_ret he) fun D σ H ⟨F0, L, σm, S, rs, sl, o⟩ => ?_
  refine ⟨F0, L, σm, S, rs, sl, (out_bES sl (show OutS X.K fa ct F0 L S H (bES σm (evE C ee σm S) fun x S1 => .ret x S1) D W from o)).mono (fun x H1 ⟨L1, S1, s, ex, r1, sl1, v, o1⟩ => ?_) fun _ _ _ h => h⟩
  exact o1 L1 H1 x .refl r1 v
theorem es_retN : PS X (.Return none pos) (tS X.K fa ct (evS C (.ret (.lit .non))) W) := ps_imp ps_retN fun D σ H ⟨F0, L, σm, S, rs, sl, o⟩ => (show OutS X.K fa ct F0 L S H (.ret (.v .non) S) D W from o) L H .non .refl rs .non
theorem set_reads {i : Nat} {D : Ends} {σ : L2.St} {H : Hp} (h : tS X.K fa ct (evS C (.asg (.name i) ee)) W D σ H) : tE X.K fa ct (evE C ee) W σ H fun x H1 => gName i x σ H1 D.nx := by
  obtain ⟨F0, L, σm, S, rs, sl, o⟩ := h
  refine ⟨F0, L, σm, S, rs, sl, (out_bES sl (show OutS X.K fa ct F0 L S H (bES σm (evE C ee σm S) fun x S1 => .nxt (setL σm i x) S1) D W from o)).mono (fun x H1 ⟨L1, S1, s, ex, r1, sl1, v, o1⟩ => ?_) fun _ _ _ h => h⟩
  exact o1 L1 H1 _ .refl r1 (sl1.set i v)
theorem es_set {i : Nat} {x : Str} {pos' : Pos} (c : Cn X W k) (hi : X.N[i]? = some x) (hx : Loc X.env.scope x) (he : PE X e (tE X.K fa ct (evE C ee) W)) (hf : X.fn x = true ∨ X.env.scope.names.lookup x = some .local) (hs : swapsWith e (some (.Name x pos')) pos.line X.env = pure false := by rfl) :
    PS X (.Assign [.Name x pos'] e pos) (tS X.K fa ct (evS C (.asg (.name i) ee)) W) := ps_imp (ps_set c.nd hi hx he hs hf) fun _ _ _ => set_reads
/-- a comprehension stored on its line -/
theorem es_setLc {i : Nat} {y : Str} {py : Pos} {elt tg iter : Expr} {ifs : List Expr} {scope : Scope} {own : List (Str × Nat)} {spos : Pos} {o : Bool} {t : Tg} {it : Ev.It} {oc : Oe} {ee : Ev.E} (c : Cn X W k) (hy : X.N[i]? = some y) (hyl : X.env.scope.names.lookup y = some .local)
    (hi : PI X tg iter (tI X.K fa ct W (evIt C it))) (ok : BlkOk X.N X.env.scope scope own)
    (hg : ∀ (s : Shared) (H : Hp) (D : Addr) (cl : List (Str × Addr)) (fp : List Addr), PG (X.blk s H scope (compEnvC scope cl D X.env) fp) tg (gT X.K fa t)) (ht : ∀ (s : Shared) (H : Hp) (D : Addr) (cl : List (Str × Addr)) (fp : List Addr), PTs (X.blk s H scope (compEnvC scope cl D X.env) fp) ifs (tTs X.K fa ct (evOe C oc).2))
    (he : ∀ (s : Shared) (H : Hp) (D : Addr) (cl : List (Str × Addr)) (fp : List Addr), PE (X.blk s H scope (compEnvC scope cl D X.env) fp) elt (tE X.K fa ct (evE C ee) Wn)) (hv : ∀ i ∈ tgN t, i ∈ own.map (·.2)) (hsw : swapsWith (.ListComp elt [⟨tg, iter, ifs, 0⟩] scope pos) (some (.Name y py)) spos.line X.env = pure true) (hs : ∀ x, foldedSetIterable iter X.env x = pure x := by intro _; rfl) :
    PS X (.Assign [.Name y py] (.ListComp elt [⟨tg, iter, ifs, 0⟩] scope pos) spos) (tS X.K fa ct (evS C (.asg (.name i) (.comp o (own.map (·.2)) t it oc ee))) W) :=
  ps_imp (ps_setLc c.calm c.nd hy hyl hsw hi ok hg ht he hs) fun D σ H h => comp_reads (set_reads h) hv
theorem es_asg {tg : Expr} {ts : List Tg} (he : PE X e (tE X.K fa ct (evE C ee) W)) (hg : PG X tg (gT X.K fa (.tup ts))) (hs : swapsWithSole [tg] e pos.line X.env = pure false := by rfl) (hw : swappedStores [tg] e X.env = pure none := by rfl)
    (h1 : (assignEach [tg] X.env).map (·.2) = [assign tg X.env] := by rfl) : PS X (.Assign [tg] e pos) (tS X.K fa ct (evS C (.asg (.tup ts) ee)) W) := by
  refine ps_imp (ps_asg he hg hs hw h1) fun D σ H ⟨F0, L, σm, S, rs, sl, o⟩ => ?_
  refine ⟨F0, L, σm, S, rs, sl, (out_bES sl (show OutS X.K fa ct F0 L S H (bES σm (evE C ee σm S) fun x S1 => oR (asV x) .bad fun m => oR (bindT (.tup ts) m σm) .bad fun σ' => .nxt σ' S1) D W from o)).mono (fun x H1 ⟨L1, S1, s, ex, r1, sl1, v, o1⟩ => ?_) fun _ _ _ h => h⟩
  obtain ⟨m, e1, o1⟩ := outS_oR o1
  obtain ⟨σ2, e2, o1⟩ := outS_oR o1
  exact ⟨F0, L1, σm, S1, m, σ2, r1, sl1, v.as e1, e2, fun σ' sl' _ => o1 L1 H1 σ' .refl r1 sl'⟩
theorem es_if {a b : List Stmt} {c : Expr} {ec : Ev.E} {sa sb : Ss} (hc : PT X c (tT X.K fa ct (evE C ec) W)) (ha : PSs X a (tS X.K fa ct (evSs C sa) W)) (hb : PSs X b (tS X.K fa ct (evSs C sb) W)) : PS X (.If c a b pos) (tS X.K fa ct (evS C (.ifs ec sa sb)) W) := by
  refine ps_imp (ps_if hc ha hb) fun D σ H ⟨F0, L, σm, S, rs, sl, o⟩ => ?_
  have o : OutS X.K fa ct F0 L S H (bES σm (evE C ec σm S) fun x S1 => oR (peek S1 x) .bad fun a => oR (truM a) .bad fun b => bR b (evSs C sa σm S1) (evSs C sb σm S1)) D W := o
  refine ⟨F0, L, σm, S, rs, sl, ?_⟩
  show Out X.K fa ct F0 L S H (bE (evE C ec σm S) fun x S1 => tru S1 x fun b => .val (.v (.bl b)) S1) _ _
  cases q : evE C ec σm S with
  | bad => rw [q] at o; exact o
  | exc c as S1 => rw [q] at o; exact fun L' H' cls d a b x => o L' H' cls d σ a b (sl.ex a) x
  | val s S1 =>
    rw [q] at o
    obtain ⟨m, e1, o⟩ := outS_oR (show OutS X.K fa ct F0 L S H (oR (peek S1 s) .bad fun a => oR (truM a) .bad fun b => bR b (evSs C sa σm S1) (evSs C sb σm S1)) D W from o)
    obtain ⟨b, e2, o⟩ := outS_oR o
    show Out X.K fa ct F0 L S H (tru S1 s fun b => .val (.v (.bl b)) S1) _ _
    rw [tru_at e1 e2]
    intro L' H' x ex rs' v
    cases v
    refine ⟨b, rfl, ?_⟩
    cases b with
    | true => exact iteT ⟨F0, L', σm, S1, rs', sl.ex ex, OutS.from ex o⟩
    | false => exact iteF ⟨F0, L', σm, S1, rs', sl.ex ex, OutS.from ex o⟩
end
end Ev

/-! More statements. -/
namespace Ev
open PySem PySem.Spec PyProof.Rows L2
variable {X : Cx} {fa ct : Nat → Option Addr} {W : WX} {C : Cfg}
section
variable {st : Stmt} {rest : List Stmt} {s : Ev.St} {r : Ss} {e : Expr} {ee : Ev.E} {pos : Pos} {k : Nat}
theorem RepVs.two {K : PySem.W.Frag} {F0 : Addr → Prop} {L : List Addr} {S : Sto} {H : Hp} {s t : SV} {xs : List V} (h : RepVs K fa F0 L S H [s, t] xs) : ∃ x y, xs = [x, y] ∧ RepV K fa F0 L S H s x ∧ RepV K fa F0 L S H t y := by
  cases h with
  | cons a h => cases h with
    | cons b h => cases h; exact ⟨_, _, rfl, a, b⟩
theorem RepVs.one {K : PySem.W.Frag} {F0 : Addr → Prop} {L : List Addr} {S : Sto} {H : Hp} {s : SV} {xs : List V} (h : RepVs K fa F0 L S H [s] xs) : ∃ x, xs = [x] ∧ RepV K fa F0 L S H s x := by
  cases h with
  | cons a h => cases h; exact ⟨_, rfl, a⟩
/-- a, b = x, y -/
theorem es_par {i j : Nat} {x y : Str} {a b : Expr} {ea eb : Ev.E} {px py pt : Pos} {kt k2 pt2} (c : Cn X W k) (hi : X.N[i]? = some x) (hj : X.N[j]? = some y) (hij : i ≠ j) (hx : X.env.scope.names.lookup x = some .local) (hy : X.env.scope.names.lookup y = some .local)
    (ha : PA X [a, b] (tA X.K fa ct W (evEs C (.cons ea (.cons eb .nil))))) (hw : swappedStores [.Tuple [.Name x px, .Name y py] kt pt] (.Tuple [a, b] k2 pt2) X.env = pure (some [x, y]))
    (hs : swapsWithSole [.Tuple [.Name x px, .Name y py] kt pt] (.Tuple [a, b] k2 pt2) pos.line X.env = pure false := by rfl) :
    PS X (.Assign [.Tuple [.Name x px, .Name y py] kt pt] (.Tuple [a, b] k2 pt2) pos) (tS X.K fa ct (evS C (.par i j ea eb)) W) := by
  refine ps_imp (ps_par c.calm c.nd hi hj hij hx hy ha hw hs) fun D σ H ⟨F0, L, σm, S, rs, sl, o⟩ => ?_
  have o : OutS X.K fa ct F0 L S H (bES σm (evE C ea σm S) fun x S1 => bES σm (evE C eb σm S1) fun y S2 => .nxt (setL (setL σm i x) j y) S2) D W := o
  refine ⟨F0, L, σm, S, rs, sl, ?_⟩
  show OutA X.K fa ct F0 L S H (bEA (evE C ea σm S) fun x S1 => bAA (bEA (evE C eb σm S1) fun y S2 => .vals [y] S2) fun xs S2 => .vals (x :: xs) S2) _ _
  cases q : evE C ea σm S with
  | bad => rw [q] at o; exact o
  | exc c as S' => rw [q] at o; exact fun L' H' cls d a b x => o L' H' cls d σ a b (sl.ex a) x
  | val s S1 =>
    rw [q] at o
    have o : OutS X.K fa ct F0 L S H (bES σm (evE C eb σm S1) fun y S2 => .nxt (setL (setL σm i s) j y) S2) D W := o
    show OutA X.K fa ct F0 L S H (bAA (bEA (evE C eb σm S1) fun y S2 => .vals [y] S2) fun xs S2 => .vals (s :: xs) S2) _ _
    cases q2 : evE C eb σm S1 with
    | bad => rw [q2] at o; exact o
    | exc c as S' => rw [q2] at o; exact fun L' H' cls d a b x => o L' H' cls d σ a b (sl.ex a) x
    | val t S2 =>
      rw [q2] at o
      show ∀ L' H' xs, Ex L S H L' S2 H' → RepS X.K fa F0 L' S2 H' → RepVs X.K fa F0 L' S2 H' [s, t] xs → _
      intro L' H' xs ex rs' v
      obtain ⟨u, w, rfl, v1, v2⟩ := v.two
      exact ⟨u, w, rfl, o L' H' _ ex rs' (((sl.ex ex).set i v1).set j v2)⟩
/-- name op= int -/
theorem ip_all {op : Operator} {o : Bop} {r : R2} (ho : OpR X (inplaceOp op) r) (hr : ∀ i j m, binM o (.int i) (.int j) = some m → ∃ n, m = .int n ∧ ∀ H Q, Q (.int n) H → r (.int i) (.int j) H Q) : PIp X op (fun x y H Q => ∃ i j n, x = .int i ∧ y = .int j ∧ binM o (.int i) (.int j) = some (.int n) ∧ Q (.int n) H) := by
  intro pins s σ H x y v u Q I rx ry ⟨i, j, n, ex, ey, e, q⟩
  subst ex ey
  obtain ⟨n', e', h⟩ := hr i j _ e
  cases e'
  exact ho pins s σ H _ _ v u Q I rx ry (h H Q q)
theorem ip_add' : PIp X .Add (fun x y H Q => ∃ i j n, x = .int i ∧ y = .int j ∧ binM .add (.int i) (.int j) = some (.int n) ∧ Q (.int n) H) :=
  ip_all iop_add fun i j m e => ⟨i + j, by cases (show some (MV.int (addI i j)) = some m from e); rw [addI_eq], fun H Q q => ⟨i, j, rfl, rfl, q⟩⟩
theorem ip_sub' : PIp X .Sub (fun x y H Q => ∃ i j n, x = .int i ∧ y = .int j ∧ binM .sub (.int i) (.int j) = some (.int n) ∧ Q (.int n) H) :=
  ip_all iop_sub fun i j m e => ⟨i - j, by cases (show some (MV.int (subI i j)) = some m from e); rw [subI_eq], fun H Q q => ⟨i, j, rfl, rfl, q⟩⟩
theorem es_aug {i : Nat} {x : Str} {op : Operator} {o : Bop} {pos' : Pos} (c : Cn X W k) (hi : X.N[i]? = some x) (hx : Loc X.env.scope x) (he : PE X e (tE X.K fa ct (evE C ee) W))
    (ho : PIp X op (fun x y H Q => ∃ i j n, x = .int i ∧ y = .int j ∧ binM o (.int i) (.int j) = some (.int n) ∧ Q (.int n) H)) (hn : ∀ i j m, binM o (.int i) (.int j) = some m → ∃ n, m = .int n) (hf : X.fn x = true ∨ X.env.scope.names.lookup x = some .local) :
    PS X (.AugAssign (.Name x pos') op e pos) (tS X.K fa ct (evS C (.aug i o ee)) W) := by
  refine ps_imp (ps_aug c.nd hi hx he ho hf) fun D σ H ⟨F0, L, σm, S, rs, sl, o1⟩ => ?_
  have o1 : OutS X.K fa ct F0 L S H (oR (getL σm i) .bad fun s => oR (asV s) .bad fun a => cInt a .bad fun _ => bES σm (evE C ee σm S) fun y S1 => oR (asV y) .bad fun b => cInt b .bad fun _ => oR (binM o a b) .bad fun m => .nxt (setL σm i (.v m)) S1) D W := o1
  obtain ⟨s, es, o1⟩ := outS_oR o1
  obtain ⟨a, ea, o1⟩ := outS_oR o1
  rw [getL_eq] at es
  rcases sl.at_ i s es with rfl | ⟨v, hv, rv⟩
  · cases ea
  · refine ⟨v, hv, ?_⟩
    have ra := rv.as ea
    cases ra with
    | int n1 =>
      refine ⟨F0, L, σm, S, rs, sl, (out_bES sl (show OutS X.K fa ct F0 L S H (bES σm (evE C ee σm S) fun y S1 => oR (asV y) .bad fun b => cInt b .bad fun _ => oR (binM o (.int n1) b) .bad fun m => .nxt (setL σm i (.v m)) S1) D W from o1)).mono (fun y H1 ⟨L1, S1, t, ex, r1, sl1, v, o1⟩ => ?_) fun _ _ _ h => h⟩
      obtain ⟨b, eb, o1⟩ := outS_oR o1
      have rb := v.as eb
      cases rb with
      | int n2 =>
        obtain ⟨m, em, o1⟩ := outS_oR (show OutS X.K fa ct F0 L1 S1 H1 (oR (binM o (.int n1) (.int n2)) .bad fun m => .nxt (setL σm i (.v m)) S1) D W from o1)
        obtain ⟨n, rfl⟩ := hn _ _ _ em
        exact ⟨n1, n2, n, rfl, rfl, em, o1 L1 H1 _ .refl r1 (sl1.set (s := .v (.int n)) i (.int n))⟩
      | _ => exact False.elim o1
    | _ => exact False.elim o1
theorem bin_int {o : Bop} (ho : o = .add ∨ o = .sub) : ∀ i j m, binM o (.int i) (.int j) = some m → ∃ n, m = .int n := by
  intro i j m e
  rcases ho with rfl | rfl
  · exact ⟨_, (Option.some.inj (show some (MV.int (addI i j)) = some m from e)).symm⟩
  · exact ⟨_, (Option.some.inj (show some (MV.int (subI i j)) = some m from e)).symm⟩
/-! a list that is changed -/
/-- the object at k is a list, and is changed in place -/
theorem RepS.put {K : PySem.W.Frag} {F0 : Addr → Prop} {L : List Addr} {S : Sto} {H : Hp} {k : Nat} {o o' : MO} {a : Addr} {u : HO} (rs : RepS K fa F0 L S H) (hg : S.get k = some o) (hL : L[k]? = some a) (ro : Ro K fa (Fz F0 L S) (upd H a u) o' a) :
    Ex L S H L (S.put k (some o')) (upd H a u) ∧ RepS K fa F0 L (S.put k (some o')) (upd H a u) := by
  have hk := get_lt hg
  have lva : live L S a := ⟨k, o, hg, hL⟩
  have gp : ∀ j, (S.put k (some o')).get j = if j = k then some o' else S.get j := fun j => by
    rw [get_put S rs.wf]
    by_cases hj : j = k
    · rw [if_pos ⟨hj, hk⟩, if_pos hj]
    · rw [if_neg fun q => hj q.1, if_neg hj]
  have lv : ∀ b, live L (S.put k (some o')) b ↔ live L S b := fun b => by
    constructor
    · rintro ⟨j, ob, e1, e2⟩
      rw [gp] at e1
      by_cases hj : j = k
      · subst hj; exact ⟨j, o, hg, e2⟩
      · rw [if_neg hj] at e1; exact ⟨j, ob, e1, e2⟩
    · rintro ⟨j, ob, e1, e2⟩
      by_cases hj : j = k
      · exact ⟨j, o', by rw [gp, if_pos hj], e2⟩
      · exact ⟨j, ob, by rw [gp, if_neg hj]; exact e1, e2⟩
  have fz : Fz F0 L (S.put k (some o')) = Fz F0 L S := funext fun b => propext (or_congr Iff.rfl (lv b))
  have ex : Ex L S H L (S.put k (some o')) (upd H a u) := ⟨⟨[], by simp⟩, fun b v e n => by rw [upd_ne fun q => n (by rw [q]; exact lva)]; exact e, fun b q => .inl ((lv b).mp q)⟩
  refine ⟨ex, by rw [put_len, put_n]; exact rs.wf, by rw [put_n]; exact rs.len, fun j ob e => ?_, fun i j o1 o2 b e1 e2 h1 h2 => ?_, fun b q => rs.off b ((lv b).mp q), fun b h => ?_⟩
  · rw [gp] at e
    by_cases hj : j = k
    · subst hj
      rw [if_pos rfl] at e
      cases e
      exact ⟨a, hL, by rw [fz]; exact ro⟩
    · rw [if_neg hj] at e
      obtain ⟨b, h1, h2⟩ := rs.obj j ob e
      refine ⟨b, h1, ?_⟩
      have hb : b ≠ a := fun q => hj (rs.inj j k ob o b e hg h1 (by rw [q]; exact hL))
      rw [fz]
      cases ob with
      | lst n rev =>
        obtain ⟨xs, h3, h4, h5⟩ := h2
        exact ⟨xs, by rw [upd_ne hb]; exact h3, h4.mono (fun c v e n => by rw [upd_ne fun q => n (.inr (by rw [q]; exact lva))]; exact e) fun c q => .inl q, h5⟩
      | dct _ _ _ => exact h2
  · have up : ∀ i o1, (S.put k (some o')).get i = some o1 → ∃ o2, S.get i = some o2 := fun i o1 e => by
      rw [gp] at e
      by_cases hi : i = k
      · exact ⟨o, by rw [hi]; exact hg⟩
      · rw [if_neg hi] at e; exact ⟨o1, e⟩
    obtain ⟨p1, z1⟩ := up i o1 e1
    obtain ⟨p2, z2⟩ := up j o2 e2
    exact rs.inj i j p1 p2 b z1 z2 h1 h2
  · by_cases hb : b = a
    · rw [hb, upd_same]; exact fun q => nomatch q
    · rw [upd_ne hb]; exact rs.trk b h
theorem off_upd {K : PySem.W.Frag} {F : Addr → Prop} {H : Hp} {a : Addr} {u : HO} {ms : List MV} {xs : List V} (hF : F a) (r : Rvs K fa F H ms xs) : Rvs K fa F (upd H a u) ms xs :=
  r.mono (fun b v e n => by rw [upd_ne fun q => n (by rw [q]; exact hF)]; exact e) fun b q => .inl q
theorem off_updV {K : PySem.W.Frag} {F : Addr → Prop} {H : Hp} {a : Addr} {u : HO} {m : MV} {x : V} (hF : F a) (r : Rv K fa F H m x) : Rv K fa F (upd H a u) m x :=
  r.mono (fun b v e n => by rw [upd_ne fun q => n (by rw [q]; exact hF)]; exact e) fun b q => .inl q
theorem outS_ref {K : PySem.W.Frag} {F0 : Addr → Prop} {L : List Addr} {S : Sto} {H : Hp} {D : Ends} {σm : List SV} {i : Nat} {f : Nat → RS} (h : OutS K fa ct F0 L S H (refS σm i f) D W) : ∃ r, σm[i]? = some (.r r) ∧ OutS K fa ct F0 L S H (f r) D W := by
  obtain ⟨s, e, h⟩ := outS_oR (show OutS K fa ct F0 L S H (oR (getL σm i) .bad fun s => @SV.rec (fun _ => RS) .bad (fun _ => .bad) f s) D W from h)
  rw [getL_eq] at e
  cases s with
  | u => exact h.elim
  | v m => exact h.elim
  | r r => exact ⟨r, e, h⟩
/-- the place's own address -/
theorem at_ref {K : PySem.W.Frag} {F0 : Addr → Prop} {L : List Addr} {S : Sto} {H : Hp} {σm : List SV} {σ : L2.St} {i r : Nat} (sl : Sl K fa F0 L S H σm σ) (e : σm[i]? = some (.r r)) : ∃ a, σ[i]? = some (some (.ref a)) ∧ L[r]? = some a := by
  rcases sl.at_ i _ e with q | ⟨x, hx, a, rfl, h⟩
  · cases q
  · exact ⟨a, hx, h⟩
end
end Ev

/-! Stores into lists, loops. -/
namespace Ev
open PySem PySem.Spec PyProof.Rows L2
variable {X : Cx} {fa ct : Nat → Option Addr} {W : WX} {C : Cfg}
section
variable {e : Expr} {ee : Ev.E} {pos : Pos} {k : Nat}
theorem rev_set {α : Type} (l : List α) (j : Nat) (v : α) (h : j < l.length) : (l.set (l.length - (j + 1)) v).reverse = l.reverse.set j v := by
  refine List.ext_getElem? fun i => ?_
  by_cases hi : i < l.length
  · rw [List.getElem?_reverse (by simpa using hi), List.length_set]
    by_cases e : i = j
    · subst e
      rw [List.getElem?_set_self (by simpa using hi)]
      rw [show l.length - 1 - i = l.length - (i + 1) by omega, List.getElem?_set_self (by omega)]
    · rw [List.getElem?_set_ne (Ne.symm e), List.getElem?_set_ne (by omega), List.getElem?_reverse hi]
  · rw [List.getElem?_eq_none (by simp; omega), List.getElem?_eq_none (by simp; omega)]
theorem putIx_lst {n : Nat} {rev : List MV} {k v : MV} {o' : MO} (h : putIx (.lst n rev) k v = some o') : ∃ i j, k = .int i ∧ Ev.ixN n i = some j ∧ o' = .lst n (setL rev (n - (j + 1)) v) := by
  cases k with
  | int i =>
    have h : oR (Ev.ixN n i) none (fun j => some (.lst n (setL rev (Nat.sub n (Nat.succ j)) v))) = some o' := h
    cases q : Ev.ixN n i with
    | none => rw [q] at h; cases h
    | some j => rw [q] at h; exact ⟨i, j, rfl, q, (Option.some.inj h).symm⟩
  | _ => cases h
theorem es_setix {i : Nat} {x : Str} {ke ve : Expr} {ek ev : Ev.E} {p1 p2 : Pos} (hN : X.N[i]? = some x) (hv : Vis X.env.scope x) (hk : PE X ke (tE X.K fa ct (evE C ek) W)) (he : PE X ve (tE X.K fa ct (evE C ev) W))
    (hd : (x == ("__debug__" : Str)) = false := by decide) (hcd : (x == ("__classdict__" : Str)) = false := by decide)
    (ha : ∀ v, assign (.Subscript (.Name x p1) ke p2) X.env v = (do
      let ov ← holding [v] (eval (.Name x p1) X.env)
      let iv ← holding [v, ov] (eval ke X.env)
      standAt p2
      holding [v, ov, iv] (setItem ov iv v)
      release [v, ov, iv] []) := by intro _; rfl)
    (hs : swapsWithSole [.Subscript (.Name x p1) ke p2] ve pos.line X.env = pure false := by rfl) (hw : swappedStores [.Subscript (.Name x p1) ke p2] ve X.env = pure none := by rfl)
    (h1 : (assignEach [.Subscript (.Name x p1) ke p2] X.env).map (·.2) = [assign (.Subscript (.Name x p1) ke p2) X.env] := by rfl) :
    PS X (.Assign [.Subscript (.Name x p1) ke p2] ve pos) (tS X.K fa ct (evS C (.setix i ek ev)) W) := by
  refine ps_imp (ps_asg he (pg_sub (pe_var hN hv hd hcd) hk set_list ha) hs hw h1) fun D σ H ⟨F0, L, σm, S, rs, sl, o⟩ => ?_
  refine ⟨F0, L, σm, S, rs, sl, (out_bES sl (show OutS X.K fa ct F0 L S H (bES σm (evE C ev σm S) fun v S1 => refS σm i fun r => bES σm (evE C ek σm S1) fun k S2 => oR (asV v) .bad fun mv => oR (asV k) .bad fun mk => oR (S2.get r) .bad fun o => oR (putIx o mk mv) .bad fun o' => .nxt σm (S2.put r (some o'))) D W from o)).mono (fun v H1 ⟨L1, S1, s, ex1, rs1, sl1, v1, o1⟩ => ?_) fun _ _ _ h => h⟩
  obtain ⟨r, er, o1⟩ := outS_ref o1
  obtain ⟨a, hσ, hL⟩ := at_ref sl1 er
  refine ⟨_, hσ, F0, L1, σm, S1, rs1, sl1, (out_bES sl1 o1).mono (fun ik H2 ⟨L2, S2, t, ex2, rs2, sl2, v2, o2⟩ => ?_) fun _ _ _ h => h⟩
  obtain ⟨mv, e1, o2⟩ := outS_oR o2
  obtain ⟨mk, e2, o2⟩ := outS_oR o2
  obtain ⟨ob, e3, o2⟩ := outS_oR o2
  obtain ⟨o', e4, o2⟩ := outS_oR o2
  have hL2 := ex2.look hL
  obtain ⟨a', h1, h2⟩ := rs2.obj r ob e3
  rw [hL2] at h1
  cases h1
  have la : Fz F0 L2 S2 a := .inr ⟨r, ob, e3, hL2⟩
  cases ob with
  | dct _ _ _ => exact h2.elim
  | lst n rev =>
    obtain ⟨xs, h3, h4, h5⟩ := h2
    subst h5
    obtain ⟨i', j, rfl, hj, rfl⟩ := putIx_lst e4
    have ri := v2.as e2
    cases ri with
    | int _ =>
      have hxl : xs.length = rev.length := by rw [← h4.length, List.length_reverse]
      rw [ixN_eq] at hj
      have hjlt : j < rev.length := by rw [← hxl]; rw [← hxl] at hj; exact (ixN_seq hj).2.1
      obtain ⟨ex3, rs3⟩ := rs2.put (u := .lst (xs.set j v)) (o' := .lst rev.length (setL rev (rev.length - (j + 1)) mv)) e3 hL2 ⟨xs.set j v, upd_same, by
        rw [setL_eq, rev_set rev j mv hjlt]
        exact off_upd la ((h4.set j ((v1.ex ex2).as e1))), by rw [setL_eq, List.length_set]⟩
      exact ⟨a, xs, i', j, rfl, rfl, h3, by rw [hxl]; exact hj, o2 L2 _ σ ex3 rs3 (sl2.ex ex3)⟩
theorem mth_reads {i : Nat} {m : Mth} {eas : Es} {D : Ends} {σ : L2.St} {H : Hp} (h : tS X.K fa ct (evS C (.mth i m eas)) W D σ H) :
    ∃ a xs0, σ[i]? = some (some (.ref a)) ∧ H a = some (.lst xs0) ∧ tA X.K fa ct W (evEs C eas) σ H fun vs H2 => ∃ F0 L2 S2 σm r ob ms, RepS X.K fa F0 L2 S2 H2 ∧ Sl X.K fa F0 L2 S2 H2 σm σ ∧ Rvs X.K fa (Fz F0 L2 S2) H2 ms vs ∧ S2.get r = some ob ∧ L2[r]? = some a ∧ OutS X.K fa ct F0 L2 S2 H2 (oR (mthO m ob ms) .bad fun o' => .nxt σm (S2.put r (some o'))) D W := by
  obtain ⟨F0, L, σm, S, rs, sl, o⟩ := h
  obtain ⟨r, er, o⟩ := outS_ref (show OutS X.K fa ct F0 L S H (refS σm i fun r => oR (S.get r) .bad fun _ => bAS σm (evEs C eas σm S) fun vs S1 => oR (asVs vs) .bad fun ms => oR (S1.get r) .bad fun o => oR (mthO m o ms) .bad fun o' => .nxt σm (S1.put r (some o'))) D W from o)
  obtain ⟨a, hσ, hL⟩ := at_ref sl er
  obtain ⟨ob0, e0, o⟩ := outS_oR o
  obtain ⟨a', h1, h2⟩ := rs.obj r ob0 e0
  rw [hL] at h1
  cases h1
  cases ob0 with
  | dct _ _ _ => exact h2.elim
  | lst n rev =>
    obtain ⟨xs, h3, _, _⟩ := h2
    refine ⟨a, xs, hσ, h3, F0, L, σm, S, rs, sl, (out_bAS sl o).mono (fun vs H2 ⟨L2, S2, ss, ex, r2, sl2, v, o2⟩ => ?_) fun _ _ _ h => h⟩
    obtain ⟨ms, e1, o2⟩ := outS_oR o2
    obtain ⟨ob, e2, o2⟩ := outS_oR o2
    exact ⟨F0, L2, S2, σm, r, ob, ms, r2, sl2, v.as e1, e2, ex.look hL, o2⟩
section
variable {a : Expr} {es : List Expr} {eas : Es} {x : Str} {i : Nat} {p1 apos cpos : Pos}
theorem es_append (hN : X.N[i]? = some x) (hv : Vis X.env.scope x) (ha : PA X (a :: es) (tA X.K fa ct W (evEs C eas))) (hd : (x == ("__debug__" : Str)) = false := by decide) (hcd : (x == ("__classdict__" : Str)) = false := by decide)
    (hsw : swapsWith (.Call (.Attribute (.Name x p1) "append" apos) (a :: es) [] cpos) none pos.line X.env = pure false := by rfl)
    (hbase : attributeBase (.Name x p1) "append" X.env (eval (.Name x p1) X.env) = eval (.Name x p1) X.env := by rfl)
    (hfew : ((backTo cpos (starEach (a :: es) X.env)).all (fun x => !x.1) && (backToKw cpos (keywordEach [] X.env)).all (fun x => x.1.isSome) && decide ((a :: es).length + ([] : List Keyword).length + (if ([] : List Keyword).isEmpty then 0 else 1) < 30)) = true := by rfl)
    (hline : (apos.endLine == cpos.line) = true := by rfl) (hs : starEach (a :: es) X.env = (false, eval a X.env) :: starEach es X.env := by rfl) (hplain : (backTo cpos (starEach es X.env)).any (·.1) = false := by rfl) :
    PS X (.Expr (.Call (.Attribute (.Name x p1) "append" apos) (a :: es) [] cpos) pos) (tS X.K fa ct (evS C (.mth i .append eas)) W) := by
  refine ps_imp (ps_expr (pe_bm PySem.F.plainAttrs_list PySem.F.slot_list_append PySem.F.type_list_append mt_append (pe_var hN hv hd hcd) ha hbase hfew hline hs hplain) hsw) fun D σ H h => ?_
  obtain ⟨l, xs0, hσ, hH, F0, L, σm, S, rs, sl, h⟩ := mth_reads h
  refine ⟨_, hσ, .inl ⟨rfl, xs0, .inl (.inl hH)⟩, F0, L, σm, S, rs, sl, h.mono (fun vs H2 ⟨F0, L2, S2, σm, r, ob, ms, r2, sl2, rv, eo, hL, o⟩ => ?_) fun _ _ _ h => h⟩
  obtain ⟨o', em, o⟩ := outS_oR o
  obtain ⟨l', h1, h2⟩ := r2.obj r ob eo
  rw [hL] at h1
  cases h1
  have la : Fz F0 L2 S2 l := .inr ⟨r, ob, eo, hL⟩
  cases ob with
  | dct _ _ _ => exact h2.elim
  | lst n rev =>
    obtain ⟨xs, h3, h4, h5⟩ := h2
    subst h5
    have em : @List.rec MV (fun _ => Option MO) none (fun x r _ => @List.rec MV (fun _ => Option MO) (bR (fits rev.length) (some (.lst (Nat.succ rev.length) (x :: rev))) none) (fun _ _ _ => none) r) ms = some o' := em
    cases rv with
    | nil => cases em
    | cons rm rt =>
      cases rt with
      | cons _ _ => cases em
      | nil =>
        obtain ⟨hf, em⟩ := bR_some em
        cases em
        have hxl : xs.length = rev.length := by rw [← h4.length, List.length_reverse]
        obtain ⟨ex3, rs3⟩ := r2.put (u := .lst (xs ++ [_])) (o' := .lst (Nat.succ rev.length) (_ :: rev)) eo hL ⟨_, upd_same, by
          rw [List.reverse_cons]
          exact (off_upd la h4).append (.cons (off_updV la rm) .nil), rfl⟩
        exact ⟨l, xs, _, rfl, rfl, h3, by rw [hxl, sizeLine_eq]; have := (fits_iff _).mp hf; omega, o L2 _ σ ex3 rs3 (sl2.ex ex3)⟩
end
/-! loops -/
theorem force_eq (σ : List SV) (k : RS) : force σ k = k := by
  induction σ with
  | nil => rfl
  | cons s σ ih => exact ih
theorem es_while {c : Expr} {body : List Stmt} {ec : Ev.E} {sb : Ss} (cn : Cn X W k) (hc : PT X c (tT X.K fa ct (evE C ec) W)) (hb : PSs X body (tS X.K fa ct (evSs C sb) W)) : PS X (.While c body [] pos) (tS X.K fa ct (evS C (.while ec sb)) W) := by
  refine ps_imp (ps_while cn.po hc hb) fun D σ H h => ?_
  refine ⟨fun m σ H => tS X.K fa ct (whGo (evE C ec) (evSs C sb) m) W D σ H, ⟨100000, h⟩, fun m σ H h => ?_⟩
  obtain ⟨F0, L, σm, S, rs, sl, o⟩ := h
  cases m with
  | zero => exact o.elim
  | succ m =>
    have o : OutS X.K fa ct F0 L S H (bES σm (evE C ec σm S) fun x S1 => oR (peek S1 x) .bad fun a => oR (truM a) .bad fun b => bR b (@RS.rec (fun _ => RS) .bad (fun σ' S' => force σ' (whGo (evE C ec) (evSs C sb) m σ' S')) RS.ret (fun σ' S' => .nxt σ' S') (fun σ' S' => force σ' (whGo (evE C ec) (evSs C sb) m σ' S')) RS.exc (evSs C sb σm S1)) (.nxt σm S1)) D W := o
    refine ⟨F0, L, σm, S, rs, sl, ?_⟩
    show Out X.K fa ct F0 L S H (bE (evE C ec σm S) fun x S1 => tru S1 x fun b => .val (.v (.bl b)) S1) _ _
    cases q : evE C ec σm S with
    | bad => rw [q] at o; exact o
    | exc c as S1 => rw [q] at o; exact fun L' H' cls d a b x => o L' H' cls d σ a b (sl.ex a) x
    | val s S1 =>
      rw [q] at o
      obtain ⟨mm, e1, o⟩ := outS_oR (show OutS X.K fa ct F0 L S H (oR (peek S1 s) .bad fun a => oR (truM a) .bad fun b => bR b (@RS.rec (fun _ => RS) .bad (fun σ' S' => force σ' (whGo (evE C ec) (evSs C sb) m σ' S')) RS.ret (fun σ' S' => .nxt σ' S') (fun σ' S' => force σ' (whGo (evE C ec) (evSs C sb) m σ' S')) RS.exc (evSs C sb σm S1)) (.nxt σm S1)) D W from o)
      obtain ⟨b, e2, o⟩ := outS_oR o
      show Out X.K fa ct F0 L S H (tru S1 s fun b => .val (.v (.bl b)) S1) _ _
      rw [tru_at e1 e2]
      intro L' H' x ex rs' v
      cases v
      refine ⟨b, rfl, ?_⟩
      cases b with
      | false => exact iteF ((OutS.from ex o) L' H' σ .refl rs' (sl.ex ex))
      | true =>
        refine iteT ⟨fun σ' H' => tS X.K fa ct (whGo (evE C ec) (evSs C sb) m) W D σ' H', fun σ' H' q => ⟨m, Nat.lt_succ_self m, q⟩, F0, L', σm, S1, rs', sl.ex ex, ?_⟩
        have o := OutS.from ex (show OutS X.K fa ct F0 L S H (@RS.rec (fun _ => RS) .bad (fun σ' S' => force σ' (whGo (evE C ec) (evSs C sb) m σ' S')) RS.ret (fun σ' S' => .nxt σ' S') (fun σ' S' => force σ' (whGo (evE C ec) (evSs C sb) m σ' S')) RS.exc (evSs C sb σm S1)) D W from o)
        cases q2 : evSs C sb σm S1 with
        | bad => rw [q2] at o; exact o
        | ret v S2 => rw [q2] at o; exact o
        | brk σ2 S2 => rw [q2] at o; exact o
        | exc c as σ2 S2 => rw [q2] at o; exact o
        | nxt σ2 S2 =>
          rw [q2] at o
          have o : OutS X.K fa ct F0 L' S1 H' (force σ2 (whGo (evE C ec) (evSs C sb) m σ2 S2)) D W := o
          rw [force_eq] at o
          exact fun L2 H2 σ' ex2 rs2 sl2 => ⟨F0, L2, σ2, S2, rs2, sl2, OutS.from ex2 o⟩
        | cnt σ2 S2 =>
          rw [q2] at o
          have o : OutS X.K fa ct F0 L' S1 H' (force σ2 (whGo (evE C ec) (evSs C sb) m σ2 S2)) D W := o
          rw [force_eq] at o
          exact fun L2 H2 σ' ex2 rs2 sl2 => ⟨F0, L2, σ2, S2, rs2, sl2, OutS.from ex2 o⟩
theorem es_for {tg iter : Expr} {body : List Stmt} {t : Tg} {it : Ev.It} {sb : Ss} (cn : Cn X W k) (hi : PI X tg iter (tI X.K fa ct W (evIt C it))) (hg : PG X tg (gT X.K fa t)) (hb : PSs X body (tS X.K fa ct (evSs C sb) W)) (hs : ∀ x, foldedSetIterable iter X.env x = pure x := by intro _; rfl) :
    PS X (.For tg iter body [] pos) (tS X.K fa ct (evS C (.for t it sb)) W) := by
  refine ps_imp (ps_for cn.po cn.calm hi hg hb hs) fun D σ H ⟨F0, L, σm, S, rs, sl, o⟩ => ?_
  have o := out_bIS sl (show OutS X.K fa ct F0 L S H (bIS σm (evIt C it σm S) fun ms S1 => forGo t (evSs C sb) ms σm S1) D W from o)
  refine ⟨F0, L, σm, S, rs, sl, ?_⟩
  cases q : evIt C it σm S with
  | bad => rw [q] at o; exact o
  | exc c as S' => rw [q] at o; exact o
  | its ms0 S0 =>
    rw [q] at o
    intro L' H1 J exJ rsJ wkJ
    obtain ⟨L1, S1, ms, ex1, rs1, sl1, ⟨G, Y, wk, prop⟩, o⟩ := o L' H1 J exJ rsJ wkJ
    refine for_it wk (fun i σ H => ∃ L2 S2 σ2m, Ex L1 S1 H1 L2 S2 H ∧ RepS X.K fa F0 L2 S2 H ∧ Sl X.K fa F0 L2 S2 H σ2m σ ∧ OutS X.K fa ct F0 L2 S2 H (forGo t (evSs C sb) (ms.drop i) σ2m S2) D W) ⟨L1, S1, σm, .refl, rs1, sl1, o⟩ ?_ ?_ ?_
    · rintro i σ H2 hi ⟨L2, S2, _, ex2, rs2, _⟩
      exact (prop _ L2 S2 H2 ex2 rs2 ex2.grF).1
    · rintro i x σ H2 H2' hi ⟨L2, S2, σ2m, ex2, rs2, sl2, o2⟩ hy
      obtain ⟨kp, m, em, rm⟩ := (prop _ L2 S2 H2 ex2 rs2 ex2.grF).2 i x H2' hi hy
      obtain ⟨ex3, rs3⟩ := rs2.kept kp
      have hdrop : ms.drop i = m :: ms.drop (i + 1) := by
        have hlt : i < ms.length := hi
        rw [List.drop_eq_getElem_cons hlt]
        rw [List.getElem?_eq_getElem hlt] at em
        cases em
        rfl
      rw [hdrop] at o2
      have o2 := OutS.from ex3 o2
      obtain ⟨σ3m, eb, o2⟩ := outS_oR (show OutS X.K fa ct F0 L2 S2 H2' (oR (bindT t m σ2m) .bad fun σ2 => @RS.rec (fun _ => RS) .bad (fun σ' S' => force σ' (forGo t (evSs C sb) (ms.drop (i + 1)) σ' S')) RS.ret (fun σ' S' => .nxt σ' S') (fun σ' S' => force σ' (forGo t (evSs C sb) (ms.drop (i + 1)) σ' S')) RS.exc (evSs C sb σ2 S2)) D W from o2)
      refine ⟨F0, L2, σ2m, S2, m, σ3m, rs3, sl2.ex ex3, rm, eb, fun σ3 sl3 _ => ⟨F0, L2, σ3m, S2, rs3, sl3, ?_⟩⟩
      have step : ∀ {σ4m : List SV} {S4 : Sto}, OutS X.K fa ct F0 L2 S2 H2' (force σ4m (forGo t (evSs C sb) (ms.drop (i + 1)) σ4m S4)) D W → ∀ L4 H4 σ4, Ex L2 S2 H2' L4 S4 H4 → RepS X.K fa F0 L4 S4 H4 → Sl X.K fa F0 L4 S4 H4 σ4m σ4 →
          ∃ L2 S2 σ2m, Ex L1 S1 H1 L2 S2 H4 ∧ RepS X.K fa F0 L2 S2 H4 ∧ Sl X.K fa F0 L2 S2 H4 σ2m σ4 ∧ OutS X.K fa ct F0 L2 S2 H4 (forGo t (evSs C sb) (ms.drop (i + 1)) σ2m S2) D W := fun {σ4m S4} o L4 H4 σ4 ex4 rs4 sl4 => by
        rw [force_eq] at o
        exact ⟨L4, S4, σ4m, (ex2.trans ex3).trans ex4, rs4, sl4, OutS.from ex4 o⟩
      cases q2 : evSs C sb σ3m S2 with
      | bad => rw [q2] at o2; exact o2
      | ret v S4 => rw [q2] at o2; exact o2
      | brk σ4m S4 => rw [q2] at o2; exact o2
      | exc c as σ4m S4 => rw [q2] at o2; exact o2
      | nxt σ4m S4 => rw [q2] at o2; exact step o2
      | cnt σ4m S4 => rw [q2] at o2; exact step o2
    · rintro σ H2 ⟨L2, S2, σ2m, ex2, rs2, sl2, o2⟩
      rw [List.drop_length] at o2
      exact (show OutS X.K fa ct F0 L2 S2 H2 (.nxt σ2m S2) D W from o2) L2 H2 σ .refl rs2 sl2
end
end Ev

/-! raise, try. -/
namespace Ev
open PySem PySem.Spec PyProof.Rows L2
variable {X : Cx} {fa ct : Nat → Option Addr} {W : WX} {C : Cfg}
section
variable {pos : Pos} {k : Nat}
theorem Cn.tr {k : Nat} (c : Cn X W k) {W' : WX} {pn : List (Addr × Obj)} {xe : Value → Shared → Prop} (tk : Takes (X.tr pn xe) W') (po : PassesOwn (model X.prog X.w) X.A X.env xe) : Cn (X.tr pn xe) W' k := ⟨c.calm, c.nd, c.room, po, tk⟩
/-- X() -/
theorem pmk_own0 {D : Addr} {bmB : List Value} {B newId initId : String} {x : Str} {p : Pos} (F : ExcBaseFacts B newId initId bmB) (q : PySem.W.excIn X.K D bmB newId = true) (gC : X.mg x = some (.ref D)) (kC : PySem.W.keepIn X.K (.ref D) = true) (r : Raises X (.ref D)) (hg : Gl X x)
    (hdb : (x == ("__debug__" : Str)) = false := by decide) : PMk X (.Call (.Name x p) [] [] pos) (fun _ H Q => Q (.ref D) none H) := by
  intro pins s σ H Q I h
  refine wpAny_Call_Name_kw (ld_glob I hg gC (PySem.W.callWith_K0 I.kIn kC ?_) hdb)
  show wpAny _ _ (call (.ref D) []) _ _ _
  obtain ⟨bm, N, nm, qn, bs, hdct, sn, sub, ab, col, dd, k0, k1, k2, k3, k5, mN, hC, hN, hni, T⟩ := exc_obj I.kIn q
  refine wpAny_call_exc_subT F T hC hN hni (fun h' e hm => ?_) (Nat.zero_le _)
  exact mk_of I hm r h (I.hok.gone hm.new)
/-- an own exception class, raised with nothing -/
structure ExAt (K : PySem.W.Frag) (mg : Str → Option Value) (ct : Nat → Option Addr) (c : Nat) (x : Str) : Prop where
  ex : ∃ (D : Addr) (bmB : List Value) (B newId initId : String), ct c = some D ∧ mg x = some (.ref D) ∧ ExcBaseFacts B newId initId bmB ∧ PySem.W.excIn K D bmB newId = true ∧ PySem.W.keepIn K (.ref D) = true ∧ PySem.W.subIn K (.ref D) (.type "BaseException") = some true ∧ PySem.W.typeIn K (.ref D) = some (.type "type")
theorem es_raise0 {x : Str} {p p2 : Pos} {c : Nat} (cn : Cn X W k) (h : ExAt X.K X.mg ct c x) (hg : Gl X x) (hdb : (x == ("__debug__" : Str)) = false := by decide) :
    PS X (.Raise (some (.Call (.Name x p) [] [] p2)) none pos) (tS X.K fa ct (evS C (.raise c .nil)) W) := by
  obtain ⟨D, bmB, B, newId, initId, e1, e2, F, e3, e4, e5, e6⟩ := h.ex
  refine ps_imp (ps_raise cn.calm cn.tk (pmk_own0 F e3 e2 e4 (raises_own e5 e6) hg hdb)) fun D' σ H ⟨F0, L, σm, S, rs, sl, o⟩ => ?_
  exact (show OutS X.K fa ct F0 L S H (.exc c [] σm S) D' W from o) L H (.ref D) none σ .refl rs sl ⟨D, e1, rfl, .inl ⟨rfl, rfl⟩⟩
/-! suites -/
section
variable {a : Addr} {oe : Obj} {pn : List (Addr × Obj)} {n : Str} {i c : Nat} {as : List MV} {D : Addr}
/-- an element of a suite's list -/
def tSx (K : PySem.W.Frag) (fa : Nat → Option Addr) (i : Nat) (a : Addr) (c : Nat) (as : List MV) (x : Sx) : TE := fun σ H Q => σ[i]? = some (some (.ref a)) ∧ ∃ m, sxM c as x = some m ∧ ∀ v, (∀ F, Rv K fa F H m v) → Q v H
def tSxs (K : PySem.W.Frag) (fa : Nat → Option Addr) (i : Nat) (a : Addr) (c : Nat) (as : List MV) (xs : List Sx) : TA := fun σ H Q => σ[i]? = some (some (.ref a)) ∧ ∃ ms, sxMs c as xs = some ms ∧ ∀ vs, (∀ F, Rvs K fa F H ms vs) → Q vs H
theorem ex_str {z : Str} {s : List Nat} {j : Nat} {pos : Pos} (hz : z = ⟨s.toArray⟩ := by rfl) (hl : s.length ≤ 1000000 := by decide) : PE X (.Constant (.str z) j pos) (tSx X.K fa i a c as (.lit (.str s))) := by
  subst hz
  exact pe_imp pe_str fun σ H Q ⟨_, m, e, q⟩ => by cases e; exact q _ fun F => .str s hl
theorem ex_int {z : Int} {j : Nat} {pos : Pos} : PE X (.Constant (.int z) j pos) (tSx X.K fa i a c as (.lit (.int z))) := pe_imp pe_int fun σ H Q ⟨_, m, e, q⟩ => by cases e; exact q _ fun F => .int z
theorem ex_bl {z : Bool} {j : Nat} {pos : Pos} : PE X (.Constant (.bool z) j pos) (tSx X.K fa i a c as (.lit (.bl z))) := pe_imp pe_bl fun σ H Q ⟨_, m, e, q⟩ => by cases e; exact q _ fun F => .bl z
/-- isinstance(e, T) -/
theorem ex_isa {x y : Str} {T : String} {cs : List Nat} {d : Option Addr} {p1 p2 p3 pos : Pos} (hz : Zc (.ref D) d oe) (hf : ∃ vs, oe.data = .fields vs) (hd0 : as = [] → d = none) (E : ExcC X.K D ∧ PySem.W.kitOne X.K (.ref D) (.type T) = some (memN c cs)) (hN : X.N[i]? = some n) (hv : Vis X.env.scope n) (B : Bn X x (.builtin "isinstance")) (B2 : Bn X y (.type T))
    (hd : (n == ("__debug__" : Str)) = false := by decide) (hcd : (n == ("__classdict__" : Str)) = false := by decide) :
    PE (X.suite a ((a, oe) :: pn)) (.Call (.Name x p1) [.Name n p2, .Name y p3] [] pos) (tSx X.K fa i a c as (.isa cs)) := by
  refine ⟨fun pins s σ H Q I ⟨e, m, em, q⟩ => ?_⟩
  cases as with
  | cons _ _ => cases em
  | nil =>
    obtain rfl := hd0 rfl
    have h1 : PE (X.suite a ((a, oe) :: pn)) (.Name n p2) (tVar i) := pe_var hN hv hd hcd
    have h2 : PE (X.suite a ((a, oe) :: pn)) (.Name y p3) (tC (.ty T)) := pe_bltn B2.gl B2.mg B2.bt rfl B2.nn B2.db
    refine (pe_callB (call_isE E.1 hz hf) B.gl B.mg B.bt (pa_cons h1 (pa_cons h2 pa_nil (by rfl)) (by rfl)) B.nn B.db (by rfl) (by rfl)).run pins s σ H Q I ?_
    cases em
    exact ⟨_, e, .ty T, .type T, _, rfl, fun u r => r, E.2, q _ fun F => .bl _⟩
theorem ex_nil : PA X [] (tSxs X.K fa i a c as []) := pa_imp pa_nil fun σ H Q ⟨_, ms, e, q⟩ => by cases (show some [] = some ms from e); exact q _ fun F => .nil
theorem ex_cons {e : Expr} {es : List Expr} {x : Sx} {xs : List Sx} (h : PE X e (tSx X.K fa i a c as x)) (hr : PA X es (tSxs X.K fa i a c as xs)) (hs : starEach (e :: es) X.env = (false, eval e X.env) :: starEach es X.env := by rfl) : PA X (e :: es) (tSxs X.K fa i a c as (x :: xs)) :=
  pa_imp (pa_cons h hr hs) fun σ H Q ⟨e, ms, em, q⟩ => by
    have em : oR (sxM c as x) none (fun m => oR (sxMs c as xs) none fun ms => some (m :: ms)) = some ms := em
    cases q1 : sxM c as x with
    | none => rw [q1] at em; cases em
    | some m =>
      rw [q1] at em
      have em : oR (sxMs c as xs) none (fun ms => some (m :: ms)) = some ms := em
      cases q2 : sxMs c as xs with
      | none => rw [q2] at em; cases em
      | some ns =>
        rw [q2] at em
        cases em
        exact ⟨e, m, q1, fun v r => ⟨e, ns, q2, fun vs rs => q _ fun F => .cons (r F) (rs F)⟩⟩
/-- what a suite is to do -/
def tSu (K : PySem.W.Frag) (fa ct : Nat → Option Addr) (i : Nat) (su : Su) (a : Addr) (cls : Value) (d : Option Addr) : TS := fun D' σ H => ∃ F0 L σm S c as σ0 D W, RepS K fa F0 L S H ∧ σ = σ0.set i (some (.ref a)) ∧ Sl K fa F0 L S H σm σ0 ∧ RepX ct c as cls d H ∧
  OutS K fa ct F0 L S H (suGo c as su (setL σm i .u) S) D W ∧ D'.rt = D.rt ∧ D'.nx = fun σ' H' => D.nx (σ'.set i none) H'
theorem Sl.wipe1 {K : PySem.W.Frag} {F0 : Addr → Prop} {L : List Addr} {S : Sto} {H : Hp} {σm : List SV} {σ : L2.St} (h : Sl K fa F0 L S H σm σ) (i : Nat) : Sl K fa F0 L S H (setL σm i .u) (σ.set i none) := Sl.wipe h [i]
theorem sxMs_len : ∀ {xs : List Sx} {ms : List MV}, sxMs c as xs = some ms → ms.length = xs.length := by
  intro xs
  induction xs with
  | nil => intro ms e; cases (show some [] = some ms from e); rfl
  | cons x xs ih =>
    intro ms e
    have e : oR (sxM c as x) none (fun m => oR (sxMs c as xs) none fun ms => some (m :: ms)) = some ms := e
    cases q1 : sxM c as x with
    | none => rw [q1] at e; cases e
    | some m =>
      rw [q1] at e
      have e : oR (sxMs c as xs) none (fun ms => some (m :: ms)) = some ms := e
      cases q2 : sxMs c as xs with
      | none => rw [q2] at e; cases e
      | some ns => rw [q2] at e; cases e; exact congrArg Nat.succ (ih q2)
/-- n = [..] in a suite -/
theorem su_asg (hni : X.N[i]? = some n) {j : Nat} {y : Str} {py pl : Pos} {es : List Expr} {xs : List Sx} (hN : X.N.Nodup) (hj : X.N[j]? = some y) (hy : X.env.scope.names.lookup y = some .local) (hij : i ≠ j)
    (hc : ∀ c D, ct c = some D → ∀ as d, Zc (.ref D) d oe → (∃ vs, oe.data = .fields vs) → (as = [] → d = none) → PA (X.suite a ((a, oe) :: pn)) es (tSxs X.K fa i a c as xs)) (cls : Value) (d : Option Addr) (hz : Zc cls d oe) (hf : ∃ vs, oe.data = .fields vs)
    (hlen : xs.length ≤ 1000 := by decide) (hs : swapsWith (.List es pl) (some (.Name y py)) pos.line X.env = pure false := by rfl) :
    PSs (X.suite a ((a, oe) :: pn)) [.Assign [.Name y py] (.List es pl) pos] (tSu X.K fa ct i (.asg j xs) a cls d) := by
  refine ⟨fun pins s σ H D' I h => ?_⟩
  obtain ⟨F0, L, σm, S, c, as, σ0, D, W', rs, hσ, sl, ⟨D0, e1, e2, e3⟩, o, hr, hn⟩ := h
  subst e2
  have hi : i < σ0.length := by
    have q := I.len
    rw [hσ, List.length_set] at q
    rw [q]
    exact (List.getElem?_eq_some_iff.mp hni).1
  have hp := hc c D0 e1 as d hz hf (fun e => e3.elim (fun z => z.2) fun ⟨i, dd, z, _⟩ => by rw [e] at z; cases z)
  refine (pss_one (ps_set (X := X.suite a ((a, oe) :: pn)) hN hj (.inl hy) (pe_lst hp) hs (.inr hy))).run pins s σ H D' I ?_
  obtain ⟨ms, em, o⟩ := outS_oR (show OutS X.K fa ct F0 L S H (oR (sxMs c as xs) .bad fun ms => .nxt (setL (setL σm i .u) j (.v (.lst ms))) S) D W' from o)
  refine ⟨by rw [hσ]; exact List.getElem?_set_self hi, ms, em, fun vs r => ⟨?_, fun p hp => ?_⟩⟩
  · rw [← (r F0).length, sxMs_len em, sizeLine_eq]
    omega
  · obtain ⟨ex, rs'⟩ := rs.fresh (o := .lst vs) hp
    have rv : Rv X.K fa (Fz F0 L S) (upd H p (.lst vs)) (.lst ms) (.ref p) := .lst ⟨upd_same, rs.offF hp⟩ (Rvs.ex (F0 := F0) ex (r _))
    have sl2 := ((sl.wipe1 i).ex ex).set (s := .v (.lst ms)) (x := .ref p) j rv
    show D'.nx (σ.set j (some (.ref p))) _
    rw [hn, hσ]
    show D.nx (((σ0.set i (some (V.ref a))).set j (some (V.ref p))).set i none) _
    have q := o L _ _ ex rs' sl2
    rw [List.set_comm _ _ hij, List.set_set, List.set_comm _ _ (Ne.symm hij)]
    exact q
/-- return [..] in a suite -/
theorem su_ret (hni : X.N[i]? = some n) {pl : Pos} {es : List Expr} {xs : List Sx}
    (hc : ∀ c D, ct c = some D → ∀ as d, Zc (.ref D) d oe → (∃ vs, oe.data = .fields vs) → (as = [] → d = none) → PA (X.suite a ((a, oe) :: pn)) es (tSxs X.K fa i a c as xs)) (cls : Value) (d : Option Addr) (hz : Zc cls d oe) (hf : ∃ vs, oe.data = .fields vs) (hlen : xs.length ≤ 1000 := by decide) :
    PSs (X.suite a ((a, oe) :: pn)) [.Return (some (.List es pl)) pos] (tSu X.K fa ct i (.ret xs) a cls d) := by
  refine ⟨fun pins s σ H D' I h => ?_⟩
  obtain ⟨F0, L, σm, S, c, as, σ0, D, W', rs, hσ, sl, ⟨D0, e1, e2, e3⟩, o, hr, hn⟩ := h
  subst e2
  have hi : i < σ0.length := by
    have q := I.len
    rw [hσ, List.length_set] at q
    rw [q]
    exact (List.getElem?_eq_some_iff.mp hni).1
  have hp := hc c D0 e1 as d hz hf (fun e => e3.elim (fun z => z.2) fun ⟨i, dd, z, _⟩ => by rw [e] at z; cases z)
  refine (pss_one (ps_ret (X := X.suite a ((a, oe) :: pn)) (pe_lst hp))).run pins s σ H D' I ?_
  obtain ⟨ms, em, o⟩ := outS_oR (show OutS X.K fa ct F0 L S H (oR (sxMs c as xs) .bad fun ms => .ret (.v (.lst ms)) S) D W' from o)
  refine ⟨by rw [hσ]; exact List.getElem?_set_self hi, ms, em, fun vs r => ⟨?_, fun p hp => ?_⟩⟩
  · rw [← (r F0).length, sxMs_len em, sizeLine_eq]
    omega
  · obtain ⟨ex, rs'⟩ := rs.fresh (o := .lst vs) hp
    have rv : Rv X.K fa (Fz F0 L S) (upd H p (.lst vs)) (.lst ms) (.ref p) := .lst ⟨upd_same, rs.offF hp⟩ (Rvs.ex (F0 := F0) ex (r _))
    rw [hr]
    exact o L _ (.ref p) ex rs' rv
end
/-- try with one clause 'except x as n' -/
theorem es_try_as {x n : Str} {i : Nat} {cv : Value} {body suite : List Stmt} {b0 : Stmt} {sb : Ss} {cs : List Nat} {su : Su} {np pos' : Pos} (cn : Cn X W k) (hs : X.stack = X.env :: X.outer) (hf : X.env.frame = some X.env.locals) (hi : X.N[i]? = some n) (hln : X.env.kindOf n = some .local) (hc : Names X x cv)
    (hb : ∀ (W' : WX) (pn : List (Addr × Obj)) (xe : Value → Shared → Prop), Takes (X.tr pn xe) W' → PassesOwn (model X.prog X.w) X.A X.env xe → PSs (X.tr pn xe) body (tS X.K fa ct (evSs C sb) W'))
    (hx : ∀ c D, ct c = some D → PySem.W.exmOne X.K (.ref D) cv = some (memN c cs))
    (hsu : ∀ (a : Addr) (oe : Obj) (cls : Value) (d : Option Addr) (pn : List (Addr × Obj)), Zc cls d oe → (∃ vs, oe.data = .fields vs) → PSs (X.suite a ((a, oe) :: pn)) (b0 :: suite) (tSu X.K fa ct i su a cls d)) :
    PS X (.Try body [.ExceptHandler (some (.Name x np)) (some n) (b0 :: suite) pos'] [] [] pos) (tS X.K fa ct (evS C (.try sb [⟨cs, some i, su⟩])) W) := by
  refine ps_imp (ps_try_as hs hf cn.nd hi hln hc cn.tk hb hsu) fun D σ H ⟨F0, L, σm, S, rs, sl, o⟩ => ?_
  have o : OutS X.K fa ct F0 L S H (@RS.rec (fun _ => RS) .bad RS.nxt RS.ret RS.brk RS.cnt (fun c as σ' S' => bR (memN c cs) (suGo c as su (setL σ' i .u) S') (.exc c as σ' S')) (evSs C sb σm S)) D W := o
  refine ⟨F0, L, σm, S, rs, sl, ?_⟩
  cases q : evSs C sb σm S with
  | bad => rw [q] at o; exact o
  | nxt σ1 S1 => rw [q] at o; exact o
  | ret v S1 => rw [q] at o; exact o
  | brk σ1 S1 => rw [q] at o; exact o
  | cnt σ1 S1 => rw [q] at o; exact o
  | exc c as σ1 S1 =>
    rw [q] at o
    have o : OutS X.K fa ct F0 L S H (bR (memN c cs) (suGo c as su (setL σ1 i .u) S1) (.exc c as σ1 S1)) D W := o
    intro L' H' cls d σ' ex rs' sl' rx
    obtain ⟨D0, e1, e2, e3⟩ := id rx
    refine ⟨memN c cs, by rw [e2]; exact hx c D0 e1, fun hb => fun a ha => ?_, fun hb => ?_⟩
    · rw [hb] at o
      exact ⟨F0, L', σ1, S1, c, as, σ', D, W, rs', rfl, sl', rx, OutS.from ex o, rfl, rfl⟩
    · rw [hb] at o
      exact (show OutS X.K fa ct F0 L S H (.exc c as σ1 S1) D W from o) L' H' cls d σ' ex rs' sl' rx
end
end Ev

/-! Defs, the law. -/
namespace Ev
open PySem PySem.Spec PyProof.Rows L2
variable {P : Program} {w : World} {K : PySem.W.Frag} {mg : Str → Option Value} {base : Heap} {fa ct : Nat → Option Addr}
section
variable {F0 : Addr → Prop} {L : List Addr} {S : Sto} {H : Hp} {Q : VK} {E : XK}
theorem RepVo.length : ∀ {ss : List SV} {xs : List V}, RepVo K fa F0 L S H ss xs → ss.length = xs.length
  | _, _, .nil => rfl
  | _, _, .cons _ t => congrArg Nat.succ (RepVo.length t)
/-- the slots at a def's entry -/
theorem start_sl {svs : List SV} {vs : List V} {N : List Str} {np nl : Nat} (r : RepVo K fa F0 L S H svs vs) (h1 : svs.length = np) (h2 : nl = N.length) : Sl K fa F0 L S H (appL svs (repL (Nat.sub nl np) .u)) (L2.start N vs) := by
  rw [appL_eq, repL_eq]
  have hl := r.length
  refine ⟨?_, fun i s e => ?_⟩
  · unfold L2.start
    rw [List.length_append, List.length_append, List.length_replicate, List.length_map, List.length_replicate, hl, ← h2, ← h1, hl]
    rfl
  · by_cases hi : i < svs.length
    · rw [List.getElem?_append_left hi] at e
      rcases r.get i with ⟨e1, _⟩ | ⟨s', x, e1, e2, h⟩
      · rw [e1] at e; cases e
      · rw [e1] at e
        cases e
        refine h.imp id fun h => ⟨x, ?_, h⟩
        unfold L2.start
        rw [List.getElem?_append_left (by rw [List.length_map, ← hl]; exact hi), List.getElem?_map, e2]
        rfl
    · rw [List.getElem?_append_right (by omega), List.getElem?_replicate] at e
      split at e
      · cases e; exact .inl rfl
      · cases e
theorem out_end {r : RS} (h : Out K fa ct F0 L S H (endF r) Q E) : OutS K fa ct F0 L S H r { nx := fun _ H' => Q .non H', rt := Q } (fun c d _ H' => E c d H') := by
  cases r with
  | bad => exact h
  | nxt σ S' => exact fun L' H' σ' ex rs _ => h L' H' .non ex rs .non
  | ret s S' => exact h
  | brk σ S' => exact False.elim h
  | cnt σ S' => exact False.elim h
  | exc c as σ S' => exact fun L' H' cls d σ' ex rs _ rx => h L' H' cls d ex rs rx
theorem run_some {C : Cfg} {d : FD} {svs : List SV} (h : Out K fa ct F0 L S H (runF C d svs S) Q E) : svs.length = d.np ∧ Out K fa ct F0 L S H (endF (evSs C d.body (appL svs (repL (Nat.sub d.nl d.np) .u)) S)) Q E := by
  have h : Out K fa ct F0 L S H (bR (Nat.beq (lenL svs) d.np) (endF (evSs C d.body (appL svs (repL (Nat.sub d.nl d.np) .u)) S)) .bad) Q E := h
  cases q : Nat.beq (lenL svs) d.np with
  | false => rw [q] at h; exact h.elim
  | true =>
    rw [q] at h
    exact ⟨by rw [← lenL_eq]; exact Nat.eq_of_beq_eq_true q, h⟩
end
/-- a def of the text, as it stands behind the top -/
structure DefAt (K : PySem.W.Frag) (mg : Str → Option Value) (x : Str) (st : Stmt) (ps : List Str) : Prop where
  ex : ∃ (a : Addr) (fd : FuncData), Fun K x x st a fd ∧ mg x = some (.ref a) ∧ Binds K fd ps []
abbrev fnX (P : Program) (w : World) (K : PySem.W.Frag) (mg : Str → Option Value) (base : Heap) (N : List Str) (x : Str) (st : Stmt) (a : Addr) (cdv : Value) (A : Around) (outer : List Env) (s : Shared) (H : Hp) (E : XK) : Cx := cxOf (L2.CX P w) P w K mg base N x (defScope st) a cdv A outer s H E
abbrev fnW (E : XK) : WX := fun cls d _ H' => E cls d H'
theorem fn_zero {ds : List FD} {gs : List MV} {x : Str} {st : Stmt} {ps : List Str} {f : Nat} (D : DefAt K mg x st ps) : FnAt P w K mg base fa ct (callsAt ds gs 0) 0 x st f ps := by
  obtain ⟨a, fd, F, hm, hb⟩ := D.ex
  exact ⟨a, fd, F, ⟨fun vs H Q E ⟨_, _, _, _, _, _, o⟩ => o.elim, fun A outer s H args us vs Q E _ _ _ _ ⟨_, _, _, _, _, _, o⟩ => o.elim⟩, hm, hb⟩
theorem fn_step {ds : List FD} {gs : List MV} {x : Str} {st : Stmt} {N ps : List Str} {f n : Nat} {d : FD} (D : DefAt K mg x st ps) (hd : getL ds f = some d) (S : FnScope N ps (defScope st)) (hp : d.np = ps.length) (hl : d.nl = N.length)
    (hbody : ∀ (a : Addr) (cdv : Value) (A : Around) (outer : List Env) (s : Shared) (H : Hp) (E : XK), Cn (fnX P w K mg base N x st a cdv A outer s H E) (fnW E) n → PSs (fnX P w K mg base N x st a cdv A outer s H E) (defBody st) (tS K fa ct (evSs ⟨callsAt ds gs n, gs⟩ d.body) (fnW E))) :
    FnAt P w K mg base fa ct (callsAt ds gs (n + 1)) (n + 1) x st f ps := by
  obtain ⟨a, fd, F, hm, hb⟩ := D.ex
  have at1 : ∀ {F0 L S' H svs Q E}, Out K fa ct F0 L S' H (callsAt ds gs (n + 1) f svs S') Q E → Out K fa ct F0 L S' H (runF ⟨callsAt ds gs n, gs⟩ d svs S') Q E := fun {F0 L S' H svs Q E} h => by
    have h : Out K fa ct F0 L S' H (oR (getL ds f) .bad fun d => runF ⟨callsAt ds gs n, gs⟩ d svs S') Q E := h
    rw [hd] at h
    exact h
  refine ⟨a, fd, F, F.okX S (fun vs H Q E ⟨F0, L, S', svs, rs, rv, o⟩ => ?_) fun cdv A outer s H vs Q E hr ⟨F0, L, S', svs, rs, rv, o⟩ => ?_, hm, hb⟩
  · rw [← rv.length, (run_some (at1 o)).1, hp]
  · obtain ⟨h1, h2⟩ := run_some (at1 o)
    have cn : Cn (fnX P w K mg base N x st a cdv A outer s H E) (fnW E) n := ⟨rfl, S.nd, hr, passes_of rfl, takes_of rfl rfl rfl rfl⟩
    exact ⟨_, hbody a cdv A outer s H E cn, F0, L, _, S', rs, start_sl rv h1 hl, out_end h2⟩
theorem RepS.emp0 {H : Hp} : RepS K fa (fun _ => False) [] emp H where
  wf := rfl
  len := rfl
  obj := fun k o e => by rw [emp_get] at e; cases e
  inj := fun j k o o' a e => by rw [emp_get] at e; cases e
  off := fun a h => (emp_live h).elim
  trk := fun a h => h.elim
/-- what the law promises: whatever the script is, True -/
def spTrue : Sp := fun vs H Q E => ∃ a, vs = [.ref a] ∧ ∀ H', Q (.bl true) H'
theorem isTrue_val {r : RE} (h : isTrue r = true) : ∃ S, r = .val (.v (.bl true)) S := by
  cases r with
  | bad => cases h
  | exc c as S => cases h
  | val s S =>
    cases s with
    | u => cases h
    | r k => cases h
    | v m =>
      cases m with
      | bl b => cases b with
        | true => exact ⟨S, rfl⟩
        | false => cases h
      | _ => cases h
theorem law_of {call : Calls} {k : Nat} {x y : Str} {st : Stmt} {f : Nat} (F : FnAt P w K mg base fa ct call k x st f [y]) (h : isTrue (call f [.u] emp) = true) :
    ∃ (a : Addr) (fd : FuncData), Fun K x x st a fd ∧ FnOk P w K mg base (L2.CX P w) k a fd [y] spTrue ∧ mg x = some (.ref a) := by
  obtain ⟨a, fd, Fn, ok, hm, _⟩ := F.ex
  refine ⟨a, fd, Fn, ok.imp fun vs H Q E ⟨b, ev, q⟩ => ?_, hm⟩
  subst ev
  obtain ⟨S, e⟩ := isTrue_val h
  refine ⟨fun _ => False, [], emp, [.u], RepS.emp0, .cons (.inl rfl) .nil, ?_⟩
  rw [e]
  intro L' H' x ex rs v
  cases v
  exact q H'
/-! short forms, for a printed walk -/
section
variable {X : Cx} {W : WX} {C : Cfg}
theorem ev_v (i : Nat) {x : Str} {pos : Pos} (hN : X.N[i]? = some x := by rfl) (hv : Vis X.env.scope x := by first | exact Or.inl rfl | exact Or.inr (Or.inl rfl) | exact Or.inr (Or.inr rfl)) (hd : (x == ("__debug__" : Str)) = false := by decide) (hcd : (x == ("__classdict__" : Str)) = false := by decide) :
    PE X (.Name x pos) (tE X.K fa ct (evE C (.var i)) W) := ev_var hN hv hd hcd
theorem ev_f (i : Nat) {x : Str} {pos : Pos} (hN : X.N[i]? = some x := by rfl) (hv : Vis X.env.scope x := by first | exact Or.inl rfl | exact Or.inr (Or.inl rfl) | exact Or.inr (Or.inr rfl)) (hd : (x == ("__debug__" : Str)) = false := by decide) (hcd : (x == ("__classdict__" : Str)) = false := by decide) :
    PE X (.Name x pos) (tE X.K fa ct (evE C (.frz i)) W) := ev_frz hN hv hd hcd
/-- a builtin's own word -/
structure BtAt (x : Str) (v : Value) : Prop where
  bt : bootBuiltins x = some v
  nn : x ≠ "__name__"
  db : (x == ("__debug__" : Str)) = false
theorem bn {x : Str} {v : Value} (m : X.mg x = none) (t : BtAt x v) (g : Gl X x := by rfl) : Bn X x v := ⟨g, m, t.bt, t.nn, t.db⟩
theorem eg_n (i : Nat) {x : Str} {pos : Pos} (hN : X.N.Nodup) (hi : X.N[i]? = some x := by rfl) (hx : Loc X.env.scope x := by first | exact Or.inl rfl | exact Or.inr rfl) (hf : X.fn x = true ∨ X.env.scope.names.lookup x = some .local := by first | exact Or.inl rfl | exact Or.inr rfl) :
    PG X (.Name x pos) (gT X.K fa (.name i)) := eg_name hN hi hx hf
theorem es_s {k i : Nat} {x : Str} {pos pos' : Pos} {e : Expr} {ee : Ev.E} (c : Cn X W k) (he : PE X e (tE X.K fa ct (evE C ee) W)) (hi : X.N[i]? = some x := by rfl) (hx : Loc X.env.scope x := by first | exact Or.inl rfl | exact Or.inr rfl) (hf : X.fn x = true ∨ X.env.scope.names.lookup x = some .local := by first | exact Or.inl rfl | exact Or.inr rfl)
    (hs : swapsWith e (some (.Name x pos')) pos.line X.env = pure false := by rfl) : PS X (.Assign [.Name x pos'] e pos) (tS X.K fa ct (evS C (.asg (.name i) ee)) W) := es_set c hi hx he hf hs
end
/-! the classes' table -/
def ctOf (l : List Addr) : Nat → Option Addr := fun c => l[c]?
theorem ct1 {p : Nat → Addr → Prop} {A : Addr} (h : p 0 A) : ∀ c D, ctOf [A] c = some D → p c D
  | 0, D, e => by cases e; exact h
  | c + 1, D, e => by cases (show none = some D from e)
theorem ct2 {p : Nat → Addr → Prop} {A B : Addr} (h : p 0 A) (h1 : p 1 B) : ∀ c D, ctOf [A, B] c = some D → p c D
  | 0, D, e => by cases e; exact h
  | 1, D, e => by cases e; exact h1
  | c + 2, D, e => by cases (show none = some D from e)
theorem ct3 {p : Nat → Addr → Prop} {A B C : Addr} (h : p 0 A) (h1 : p 1 B) (h2 : p 2 C) : ∀ c D, ctOf [A, B, C] c = some D → p c D
  | 0, D, e => by cases e; exact h
  | 1, D, e => by cases e; exact h1
  | 2, D, e => by cases e; exact h2
  | c + 3, D, e => by cases (show none = some D from e)
/-- isinstance of an own error against a builtin class -/
theorem kit_err {D : Addr} {T : String} {b : Bool} (hm : PySem.W.kitMeta T = true) (h : PySem.W.subIn K (.ref D) (.type T) = some b) : PySem.W.kitOne K (.ref D) (.type T) = some b := by
  show (if (Value.ref D == Value.type T) = true then some true else if PySem.W.kitMeta T = true then PySem.W.subIn K (.ref D) (.type T) else none) = some b
  have e : (Value.ref D == Value.type T) = false := by
    cases q : (Value.ref D == Value.type T) with
    | false => rfl
    | true => cases (beq_iff_eq.mp q)
  rw [e, if_neg Bool.false_ne_true, if_pos hm]
  exact h
end Ev

namespace Lw
open Ev PySem PySem.Spec PyProof.Rows L2
def b_tupled : Ss := (.cons (.ret (.ite (.isi [.list, .tuple] (.var 0)) (.pr .tuple (.cons (.comp false [1] (.name 1) (.seq (.var 0)) .no (.call 0 (.cons (.var 1) .nil))) .nil)) (.var 0))) .nil)
def b_is_number : Ss := (.cons (.ret (.and (.isi [.int] (.var 0)) (.not (.isi [.bool] (.var 0))))) .nil)
def b_is_count : Ss := (.cons (.ret (.and (.call 1 (.cons (.var 0) .nil)) (.cmp .ge (.var 0) (.lit (.int 0))))) .nil)
def b_is_between : Ss := (.cons (.ret (.and (.call 1 (.cons (.var 0) .nil)) (.chain .le .le (.var 1) (.var 0) (.var 2)))) .nil)
def b_is_tuple_of : Ss := (.cons (.ret (.and (.isi [.tuple] (.var 0)) (.cmp .eq (.pr .len (.cons (.var 0) .nil)) (.var 1)))) .nil)
def b_sure : Ss := (.cons (.ifs (.not (.var 0)) (.cons (.raise 0 .nil) .nil) .nil) .nil)
def b_sure_between : Ss := (.cons (.expr (.call 5 (.cons (.call 3 (.cons (.var 0) (.cons (.var 1) (.cons (.var 2) .nil)))) .nil))) (.cons (.ret (.var 0)) .nil))
def b_is_kind_in : Ss := (.cons (.ifs (.or (.not (.call 4 (.cons (.var 0) (.cons (.lit (.int 3)) .nil)))) (.not (.pr .all (.cons (.comp false [1] (.name 1) (.seq (.var 0)) .no (.call 2 (.cons (.var 1) .nil))) .nil)))) (.cons (.ret (.lit (.bl false))) .nil) .nil) (.cons (.asg (.tup [(.name 2), (.name 3), (.name 4)]) (.var 0)) (.cons (.ret (.and (.cmp .le (.pr .abs (.cons (.bin .sub (.var 2) (.var 3)) .nil)) (.glob 0)) (.and (.cmp .le (.var 4) (.lit (.int 1))) (.or (.cmp .eq (.var 4) (.lit (.int 1))) (.cmp .le (.pr .max2 (.cons (.var 2) (.cons (.var 3) .nil))) (.lit (.int 1))))))) .nil)))
def b_sure_kind : Ss := (.cons (.asg (.name 1) (.call 0 (.cons (.var 0) .nil))) (.cons (.expr (.call 5 (.cons (.call 7 (.cons (.var 1) .nil)) .nil))) (.cons (.ret (.var 1)) .nil)))
def b_choices : Ss := (.cons (.asg (.name 2) (.lit (.int 1))) (.cons (.for (.name 3) (.rng (.cons (.var 1) .nil)) (.cons (.asg (.name 2) (.bin .fdiv (.bin .mul (.var 2) (.bin .sub (.var 0) (.var 3))) (.bin .add (.var 3) (.lit (.int 1))))) .nil)) (.cons (.ret (.var 2)) .nil)))
def b_side_part : Ss := (.cons (.ifs (.or (.cmp .lt (.var 0) (.lit (.int 2))) (.cmp .eq (.var 2) (.lit (.int 0)))) (.cons (.ret (.ite (.or (.cmp .eq (.var 0) (.lit (.int 0))) (.cmp .eq (.var 2) (.lit (.int 0)))) (.lit (.int 1)) (.var 2))) .nil) .nil) (.cons (.asg (.name 3) (.ite (.var 1) (.tup (.cons (.var 0) (.cons (.bin .sub (.var 0) (.lit (.int 2))) (.cons (.lit (.int 1)) .nil)))) (.tup (.cons (.bin .sub (.var 0) (.lit (.int 2))) (.cons (.var 0) (.cons (.lit (.int 1)) .nil)))))) (.cons (.ret (.bin .mul (.var 2) (.call 11 (.cons (.var 3) (.cons (.bin .sub (.var 2) (.lit (.int 1))) .nil))))) .nil)))
def b_with_in : Ss := (.cons (.ret (.bin .mul (.call 10 (.cons (.idx (.var 0) (.lit (.int 0))) (.cons (.lit (.bl true)) (.cons (.var 1) .nil)))) (.call 10 (.cons (.idx (.var 0) (.lit (.int 1))) (.cons (.lit (.bl false)) (.cons (.var 1) .nil)))))) .nil)
def b_to_in : Ss := (.cons (.ifs (.cmp .eq (.idx (.var 0) (.lit (.int 2))) (.lit (.int 0))) (.cons (.ret (.call 11 (.cons (.var 0) (.cons (.var 1) .nil)))) .nil) .nil) (.cons (.ret (.pr .sum (.cons (.comp false [2] (.name 2) (.rng (.cons (.lit (.int 1)) (.cons (.bin .add (.var 1) (.lit (.int 1))) .nil))) .no (.bin .mul (.call 9 (.cons (.var 1) (.cons (.var 2) .nil))) (.call 11 (.cons (.var 0) (.cons (.var 2) .nil))))) .nil))) .nil))
def b_all_with_in : Ss := (.cons (.asg (.name 1) (.lit (.int 1))) (.cons (.for (.name 2) (.rng (.cons (.lit (.int 1)) (.cons (.bin .add (.var 0) (.lit (.int 1))) .nil))) (.cons (.asg (.name 1) (.bin .mul (.bin .mul (.bin .mul (.var 2) (.var 1)) (.var 2)) (.var 1))) .nil)) (.cons (.ret (.var 1)) .nil)))
def b_how_many_with : Ss := (.cons (.asg (.name 2) (.call 8 (.cons (.var 0) .nil))) (.cons (.ret (.call 11 (.cons (.var 2) (.cons (.call 6 (.cons (.var 1) (.cons (.lit (.int 1)) (.cons (.glob 1) .nil)))) .nil)))) .nil))
def b_how_many_to : Ss := (.cons (.asg (.name 2) (.call 8 (.cons (.var 0) .nil))) (.cons (.ret (.call 12 (.cons (.var 2) (.cons (.call 6 (.cons (.var 1) (.cons (.lit (.int 1)) (.cons (.glob 1) .nil)))) .nil)))) .nil))
def b_how_many_all_with : Ss := (.cons (.ret (.call 13 (.cons (.call 6 (.cons (.var 0) (.cons (.lit (.int 1)) (.cons (.glob 2) .nil)))) .nil))) .nil)
def b_how_many_all_to : Ss := (.cons (.asg (.name 1) (.call 6 (.cons (.var 0) (.cons (.lit (.int 1)) (.cons (.glob 2) .nil))))) (.cons (.ret (.pr .sum (.cons (.comp false [2] (.name 2) (.rng (.cons (.lit (.int 1)) (.cons (.bin .add (.var 1) (.lit (.int 1))) .nil))) .no (.bin .mul (.call 9 (.cons (.var 1) (.cons (.var 2) .nil))) (.call 13 (.cons (.var 2) .nil)))) .nil))) .nil))
def b_letters_part : Ss := (.cons (.asg (.name 2) (.call 8 (.cons (.var 0) .nil))) (.cons (.asg (.name 3) (.call 6 (.cons (.var 1) (.cons (.lit (.int 1)) (.cons (.glob 1) .nil))))) (.cons (.ret (.tup (.cons (.call 10 (.cons (.idx (.var 2) (.lit (.int 0))) (.cons (.lit (.bl true)) (.cons (.var 3) .nil)))) (.cons (.call 10 (.cons (.idx (.var 2) (.lit (.int 1))) (.cons (.lit (.bl false)) (.cons (.var 3) .nil)))) .nil)))) .nil)))
def b_law_same : Ss := (.cons (.ifs (.isi [.list, .tuple] (.var 1)) (.cons (.ifs (.or (.cmp .ne (.isi [.list] (.var 0)) (.isi [.list] (.var 1))) (.cmp .ne (.isi [.tuple] (.var 0)) (.isi [.tuple] (.var 1)))) (.cons (.ret (.lit (.bl false))) .nil) .nil) (.cons (.ret (.and (.cmp .eq (.pr .len (.cons (.var 0) .nil)) (.pr .len (.cons (.var 1) .nil))) (.pr .all (.cons (.comp false [2, 3] (.tup [(.name 2), (.name 3)]) (.zip (.var 0) (.var 1)) .no (.call 19 (.cons (.var 2) (.cons (.var 3) .nil)))) .nil)))) .nil)) .nil) (.cons (.ifs (.or (.isN false (.var 1)) (.isi [.bool, .str] (.var 1))) (.cons (.ret (.and (.cmp .eq (.var 0) (.var 1)) (.and (.cmp .eq (.isi [.bool] (.var 0)) (.isi [.bool] (.var 1))) (.cmp .eq (.isN false (.var 0)) (.isN false (.var 1)))))) .nil) .nil) (.cons (.ret (.and (.isi [.int] (.var 0)) (.and (.not (.isi [.bool] (.var 0))) (.cmp .eq (.var 0) (.var 1))))) .nil)))
def b_law_heard : Ss := (.cons (.asg (.name 3) (.lit .non)) (.cons (.try (.cons (.ifs (.cmp .lt (.var 0) (.lit (.int 3))) (.cons (.asg (.name 3) (.ite (.cmp .eq (.var 0) (.lit (.int 0))) (.call 14 (.cons (.var 1) (.cons (.var 2) .nil))) (.ite (.cmp .eq (.var 0) (.lit (.int 1))) (.call 15 (.cons (.var 1) (.cons (.var 2) .nil))) (.call 18 (.cons (.var 1) (.cons (.var 2) .nil)))))) .nil) (.cons (.asg (.name 3) (.ite (.cmp .eq (.var 0) (.lit (.int 3))) (.call 16 (.cons (.var 2) .nil)) (.call 17 (.cons (.var 2) .nil)))) .nil)) .nil) [⟨[0], (some 4), (.asg 3 [(.lit (.str [117, 110, 102, 105, 116])), (.isa [0])])⟩]) (.cons (.ret (.var 3)) .nil)))
def b_law : Ss := (.cons (.asg (.name 1) (.tup (.cons (.tup (.cons (.lit (.int 0)) (.cons (.lit (.int 0)) (.cons (.lit (.int 1)) .nil)))) (.cons (.tup (.cons (.lit (.int 1)) (.cons (.lit (.int 0)) (.cons (.lit (.int 0)) .nil)))) (.cons (.tup (.cons (.lit (.int 1)) (.cons (.lit (.int 1)) (.cons (.lit (.int 1)) .nil)))) (.cons (.tup (.cons (.lit (.int 2)) (.cons (.lit (.int 0)) (.cons (.lit (.int 1)) .nil)))) (.cons (.tup (.cons (.lit (.int 2)) (.cons (.lit (.int 2)) (.cons (.lit (.int 1)) .nil)))) (.cons (.tup (.cons (.lit (.int 3)) (.cons (.lit (.int 1)) (.cons (.lit (.int 1)) .nil)))) (.cons (.tup (.cons (.lit (.int 3)) (.cons (.lit (.int 2)) (.cons (.lit (.int 1)) .nil)))) (.cons (.tup (.cons (.lit (.int 3)) (.cons (.lit (.int 3)) (.cons (.lit (.int 1)) .nil)))) .nil)))))))))) (.cons (.asg (.name 2) (.lst false (.cons (.comp false [3] (.name 3) (.seq (.var 1)) .no (.call 14 (.cons (.var 3) (.cons (.lit (.int 3)) .nil)))) (.cons (.comp false [3] (.name 3) (.seq (.var 1)) .no (.call 14 (.cons (.pr (.list false) (.cons (.var 3) .nil)) (.cons (.lit (.int 1)) .nil)))) (.cons (.callK 14 .nil (.cons (.tup (.cons (.lit (.int 2)) (.cons (.lit (.int 0)) (.cons (.lit (.int 1)) .nil)))) (.cons (.lit (.int 6)) .nil)) [0, 1]) (.cons (.call 14 (.cons (.tup (.cons (.lit (.int 0)) (.cons (.lit (.int 0)) (.cons (.lit (.int 0)) .nil)))) (.cons (.lit (.int 6)) .nil))) .nil)))))) (.cons (.asg (.name 4) (.lst false (.cons (.lst false (.cons (.lit (.int 1)) (.cons (.lit (.int 3)) (.cons (.lit (.int 9)) (.cons (.lit (.int 6)) (.cons (.lit (.int 36)) (.cons (.lit (.int 36)) (.cons (.lit (.int 72)) (.cons (.lit (.int 144)) .nil))))))))) (.cons (.bin .mul (.lst false (.cons (.lit (.int 1)) .nil)) (.lit (.int 8))) (.cons (.lit (.int 720)) (.cons (.lit (.int 1)) .nil)))))) (.cons (.asg (.name 2) (.bin .add (.var 2) (.lst false (.cons (.call 15 (.cons (.tup (.cons (.lit (.int 0)) (.cons (.lit (.int 0)) (.cons (.lit (.int 0)) .nil)))) (.cons (.lit (.int 3)) .nil))) (.cons (.call 15 (.cons (.tup (.cons (.lit (.int 1)) (.cons (.lit (.int 1)) (.cons (.lit (.int 0)) .nil)))) (.cons (.lit (.int 3)) .nil))) (.cons (.call 15 (.cons (.tup (.cons (.lit (.int 2)) (.cons (.lit (.int 0)) (.cons (.lit (.int 1)) .nil)))) (.cons (.lit (.int 3)) .nil))) (.cons (.callK 15 .nil (.cons (.tup (.cons (.lit (.int 0)) (.cons (.lit (.int 0)) (.cons (.lit (.int 1)) .nil)))) (.cons (.lit (.int 4)) .nil)) [0, 1]) (.cons (.call 15 (.cons (.tup (.cons (.lit (.int 1)) (.cons (.lit (.int 0)) (.cons (.lit (.int 1)) .nil)))) (.cons (.lit (.int 3)) .nil))) (.cons (.call 15 (.cons (.tup (.cons (.lit (.int 0)) (.cons (.lit (.int 1)) (.cons (.lit (.int 0)) .nil)))) (.cons (.lit (.int 5)) .nil))) .nil))))))))) (.cons (.asg (.name 4) (.bin .add (.var 4) (.lst false (.cons (.lit (.int 1)) (.cons (.lit (.int 9)) (.cons (.lit (.int 15)) (.cons (.lit (.int 15)) (.cons (.lit (.int 12)) (.cons (.lit (.int 5)) .nil))))))))) (.cons (.asg (.name 2) (.bin .add (.var 2) (.lst false (.cons (.call 18 (.cons (.tup (.cons (.lit (.int 3)) (.cons (.lit (.int 2)) (.cons (.lit (.int 1)) .nil)))) (.cons (.lit (.int 3)) .nil))) (.cons (.callK 18 .nil (.cons (.tup (.cons (.lit (.int 0)) (.cons (.lit (.int 2)) (.cons (.lit (.int 1)) .nil)))) (.cons (.lit (.int 4)) .nil)) [0, 1]) (.cons (.call 18 (.cons (.tup (.cons (.lit (.int 1)) (.cons (.lit (.int 0)) (.cons (.lit (.int 0)) .nil)))) (.cons (.lit (.int 6)) .nil))) (.cons (.comp false [3] (.name 3) (.rng (.cons (.lit (.int 1)) (.cons (.lit (.int 6)) .nil))) .no (.call 16 (.cons (.var 3) .nil))) (.cons (.callK 16 .nil (.cons (.lit (.int 2)) .nil) [0]) (.cons (.comp false [3] (.name 3) (.rng (.cons (.lit (.int 1)) (.cons (.lit (.int 6)) .nil))) .no (.call 17 (.cons (.var 3) .nil))) (.cons (.callK 17 .nil (.cons (.lit (.int 3)) .nil) [0]) .nil)))))))))) (.cons (.asg (.name 4) (.bin .add (.var 4) (.lst false (.cons (.tup (.cons (.lit (.int 12)) (.cons (.lit (.int 6)) .nil))) (.cons (.tup (.cons (.lit (.int 1)) (.cons (.lit (.int 24)) .nil))) (.cons (.tup (.cons (.lit (.int 6)) (.cons (.lit (.int 1)) .nil))) (.cons (.lst false (.cons (.lit (.int 1)) (.cons (.lit (.int 4)) (.cons (.lit (.int 144)) (.cons (.lit (.int 331776)) (.cons (.lit (.int 2751882854400)) .nil)))))) (.cons (.lit (.int 4)) (.cons (.lst false (.cons (.lit (.int 1)) (.cons (.lit (.int 6)) (.cons (.lit (.int 159)) (.cons (.lit (.int 332380)) (.cons (.lit (.int 2751884514765)) .nil)))))) (.cons (.lit (.int 159)) .nil)))))))))) (.cons (.ifs (.not (.call 19 (.cons (.var 2) (.cons (.var 4) .nil)))) (.cons (.ret (.lit (.bl false))) .nil) .nil) (.cons (.asg (.name 5) (.lst false .nil)) (.cons (.for (.name 6) (.rng (.cons (.lit (.int 3)) .nil)) (.cons (.asg (.name 5) (.bin .add (.var 5) (.comp false [3] (.name 3) (.seq (.tup (.cons (.lit .non) (.cons (.lit (.int 5)) (.cons (.tup .nil) (.cons (.tup (.cons (.lit (.int 1)) (.cons (.lit (.int 1)) .nil))) (.cons (.tup (.cons (.lit (.int 3)) (.cons (.lit (.int 0)) (.cons (.lit (.int 1)) .nil)))) (.cons (.tup (.cons (.lit (.int 2)) (.cons (.lit (.int 0)) (.cons (.lit (.int 0)) .nil)))) (.cons (.tup (.cons (.lit (.int 0)) (.cons (.lit (.int 0)) (.cons (.lit (.int 2)) .nil)))) (.cons (.tup (.cons (.neg (.lit (.int 1))) (.cons (.lit (.int 0)) (.cons (.lit (.int 0)) .nil)))) (.cons (.tup (.cons (.lit (.bl true)) (.cons (.lit (.int 0)) (.cons (.lit (.int 0)) .nil)))) (.cons (.lit (.str [49, 49, 48])) .nil)))))))))))) .no (.call 20 (.cons (.var 6) (.cons (.var 3) (.cons (.lit (.int 2)) .nil))))))) (.cons (.asg (.name 5) (.bin .add (.var 5) (.comp false [3] (.name 3) (.seq (.tup (.cons (.lit (.int 0)) (.cons (.lit (.int 7)) (.cons (.lit (.bl true)) (.cons (.lit .non) (.cons (.lit (.str [49])) (.cons (.neg (.lit (.int 1))) .nil)))))))) .no (.call 20 (.cons (.var 6) (.cons (.tup (.cons (.lit (.int 1)) (.cons (.lit (.int 1)) (.cons (.lit (.int 1)) .nil)))) (.cons (.var 3) .nil))))))) .nil))) (.cons (.for (.name 6) (.seq (.tup (.cons (.lit (.int 3)) (.cons (.lit (.int 4)) .nil)))) (.cons (.asg (.name 5) (.bin .add (.var 5) (.comp false [3] (.name 3) (.seq (.tup (.cons (.lit (.int 0)) (.cons (.lit (.int 6)) (.cons (.lit (.bl true)) (.cons (.lit .non) (.cons (.lit (.str [49])) (.cons (.neg (.lit (.int 1))) .nil)))))))) .no (.call 20 (.cons (.var 6) (.cons (.lit (.int 0)) (.cons (.var 3) .nil))))))) .nil)) (.cons (.ret (.call 19 (.cons (.var 5) (.cons (.bin .mul (.lst false (.cons (.lst false (.cons (.lit (.str [117, 110, 102, 105, 116])) (.cons (.lit (.bl true)) .nil))) .nil)) (.pr .len (.cons (.var 5) .nil))) .nil)))) .nil))))))))))))
def defs : List FD := [⟨1, 2, b_tupled⟩, ⟨1, 1, b_is_number⟩, ⟨1, 1, b_is_count⟩, ⟨3, 3, b_is_between⟩, ⟨2, 2, b_is_tuple_of⟩, ⟨1, 1, b_sure⟩, ⟨3, 3, b_sure_between⟩, ⟨1, 5, b_is_kind_in⟩, ⟨1, 2, b_sure_kind⟩, ⟨2, 4, b_choices⟩, ⟨3, 4, b_side_part⟩, ⟨2, 2, b_with_in⟩, ⟨2, 3, b_to_in⟩, ⟨1, 3, b_all_with_in⟩, ⟨2, 3, b_how_many_with⟩, ⟨2, 3, b_how_many_to⟩, ⟨1, 1, b_how_many_all_with⟩, ⟨1, 3, b_how_many_all_to⟩, ⟨2, 4, b_letters_part⟩, ⟨2, 4, b_law_same⟩, ⟨3, 5, b_law_heard⟩, ⟨1, 7, b_law⟩]
def globs : List MV := [(.int 2), (.int 6), (.int 5)]
theorem the_run : isTrue (callsAt defs globs 60 21 [.u] emp) = true := by decide +kernel
def top (i : Nat) : Stmt := PySem.Challenge.pw_stretchesonce_k26_counts_by_hand_and_ref.main.body.getD i (.Pass ⟨0, 0, 0, 0⟩)
def st_tupled : Stmt := top 3
def st_is_number : Stmt := top 4
def st_is_count : Stmt := top 5
def st_is_between : Stmt := top 6
def st_is_tuple_of : Stmt := top 7
def st_sure : Stmt := top 8
def st_sure_between : Stmt := top 9
def st_is_kind_in : Stmt := top 12
def st_sure_kind : Stmt := top 13
def st_choices : Stmt := top 17
def st_side_part : Stmt := top 18
def st_with_in : Stmt := top 19
def st_to_in : Stmt := top 20
def st_all_with_in : Stmt := top 21
def st_how_many_with : Stmt := top 22
def st_how_many_to : Stmt := top 23
def st_how_many_all_with : Stmt := top 24
def st_how_many_all_to : Stmt := top 25
def st_letters_part : Stmt := top 26
def st_law_same : Stmt := top 28
def st_law_heard : Stmt := top 29
def st_law : Stmt := top 30
def N_tupled : List Str := ["thing", "own"]
def P_tupled : List Str := ["thing"]
theorem s_tupled : FnScope N_tupled P_tupled (defScope st_tupled) := ⟨rfl, rfl, rfl, by decide +kernel, rfl, by decide +kernel, by decide +kernel⟩
def N_is_number : List Str := ["thing"]
def P_is_number : List Str := ["thing"]
theorem s_is_number : FnScope N_is_number P_is_number (defScope st_is_number) := ⟨rfl, rfl, rfl, by decide +kernel, rfl, by decide +kernel, by decide +kernel⟩
def N_is_count : List Str := ["thing"]
def P_is_count : List Str := ["thing"]
theorem s_is_count : FnScope N_is_count P_is_count (defScope st_is_count) := ⟨rfl, rfl, rfl, by decide +kernel, rfl, by decide +kernel, by decide +kernel⟩
def N_is_between : List Str := ["thing", "least", "most"]
def P_is_between : List Str := ["thing", "least", "most"]
theorem s_is_between : FnScope N_is_between P_is_between (defScope st_is_between) := ⟨rfl, rfl, rfl, by decide +kernel, rfl, by decide +kernel, by decide +kernel⟩
def N_is_tuple_of : List Str := ["thing", "many"]
def P_is_tuple_of : List Str := ["thing", "many"]
theorem s_is_tuple_of : FnScope N_is_tuple_of P_is_tuple_of (defScope st_is_tuple_of) := ⟨rfl, rfl, rfl, by decide +kernel, rfl, by decide +kernel, by decide +kernel⟩
def N_sure : List Str := ["fine"]
def P_sure : List Str := ["fine"]
theorem s_sure : FnScope N_sure P_sure (defScope st_sure) := ⟨rfl, rfl, rfl, by decide +kernel, rfl, by decide +kernel, by decide +kernel⟩
def N_sure_between : List Str := ["value", "least", "most"]
def P_sure_between : List Str := ["value", "least", "most"]
theorem s_sure_between : FnScope N_sure_between P_sure_between (defScope st_sure_between) := ⟨rfl, rfl, rfl, by decide +kernel, rfl, by decide +kernel, by decide +kernel⟩
def N_is_kind_in : List Str := ["thing", "own", "left", "right", "mark"]
def P_is_kind_in : List Str := ["thing"]
theorem s_is_kind_in : FnScope N_is_kind_in P_is_kind_in (defScope st_is_kind_in) := ⟨rfl, rfl, rfl, by decide +kernel, rfl, by decide +kernel, by decide +kernel⟩
def N_sure_kind : List Str := ["value", "own"]
def P_sure_kind : List Str := ["value"]
theorem s_sure_kind : FnScope N_sure_kind P_sure_kind (defScope st_sure_kind) := ⟨rfl, rfl, rfl, by decide +kernel, rfl, by decide +kernel, by decide +kernel⟩
def N_choices : List Str := ["many", "picked", "found", "place"]
def P_choices : List Str := ["many", "picked"]
theorem s_choices : FnScope N_choices P_choices (defScope st_choices) := ⟨rfl, rfl, rfl, by decide +kernel, rfl, by decide +kernel, by decide +kernel⟩
def N_side_part : List Str := ["height", "is_left", "letters", "kind"]
def P_side_part : List Str := ["height", "is_left", "letters"]
theorem s_side_part : FnScope N_side_part P_side_part (defScope st_side_part) := ⟨rfl, rfl, rfl, by decide +kernel, rfl, by decide +kernel, by decide +kernel⟩
def N_with_in : List Str := ["kind", "letters"]
def P_with_in : List Str := ["kind", "letters"]
theorem s_with_in : FnScope N_with_in P_with_in (defScope st_with_in) := ⟨rfl, rfl, rfl, by decide +kernel, rfl, by decide +kernel, by decide +kernel⟩
def N_to_in : List Str := ["kind", "letters", "own"]
def P_to_in : List Str := ["kind", "letters"]
theorem s_to_in : FnScope N_to_in P_to_in (defScope st_to_in) := ⟨rfl, rfl, rfl, by decide +kernel, rfl, by decide +kernel, by decide +kernel⟩
def N_all_with_in : List Str := ["letters", "found", "own"]
def P_all_with_in : List Str := ["letters"]
theorem s_all_with_in : FnScope N_all_with_in P_all_with_in (defScope st_all_with_in) := ⟨rfl, rfl, rfl, by decide +kernel, rfl, by decide +kernel, by decide +kernel⟩
def N_how_many_with : List Str := ["kind", "letters", "own"]
def P_how_many_with : List Str := ["kind", "letters"]
theorem s_how_many_with : FnScope N_how_many_with P_how_many_with (defScope st_how_many_with) := ⟨rfl, rfl, rfl, by decide +kernel, rfl, by decide +kernel, by decide +kernel⟩
def N_how_many_to : List Str := ["kind", "letters", "own"]
def P_how_many_to : List Str := ["kind", "letters"]
theorem s_how_many_to : FnScope N_how_many_to P_how_many_to (defScope st_how_many_to) := ⟨rfl, rfl, rfl, by decide +kernel, rfl, by decide +kernel, by decide +kernel⟩
def N_how_many_all_with : List Str := ["letters"]
def P_how_many_all_with : List Str := ["letters"]
theorem s_how_many_all_with : FnScope N_how_many_all_with P_how_many_all_with (defScope st_how_many_all_with) := ⟨rfl, rfl, rfl, by decide +kernel, rfl, by decide +kernel, by decide +kernel⟩
def N_how_many_all_to : List Str := ["letters", "most", "own"]
def P_how_many_all_to : List Str := ["letters"]
theorem s_how_many_all_to : FnScope N_how_many_all_to P_how_many_all_to (defScope st_how_many_all_to) := ⟨rfl, rfl, rfl, by decide +kernel, rfl, by decide +kernel, by decide +kernel⟩
def N_letters_part : List Str := ["kind", "letters", "own", "many"]
def P_letters_part : List Str := ["kind", "letters"]
theorem s_letters_part : FnScope N_letters_part P_letters_part (defScope st_letters_part) := ⟨rfl, rfl, rfl, by decide +kernel, rfl, by decide +kernel, by decide +kernel⟩
def N_law_same : List Str := ["got", "due", "mine", "its"]
def P_law_same : List Str := ["got", "due"]
theorem s_law_same : FnScope N_law_same P_law_same (defScope st_law_same) := ⟨rfl, rfl, rfl, by decide +kernel, rfl, by decide +kernel, by decide +kernel⟩
def N_law_heard : List Str := ["door", "one", "two", "found", "bad"]
def P_law_heard : List Str := ["door", "one", "two"]
theorem s_law_heard : FnScope N_law_heard P_law_heard (defScope st_law_heard) := ⟨rfl, rfl, rfl, by decide +kernel, rfl, by decide +kernel, by decide +kernel⟩
def N_law : List Str := ["script", "kinds", "got", "own", "due", "bad", "door"]
def P_law : List Str := ["script"]
theorem s_law : FnScope N_law P_law (defScope st_law) := ⟨rfl, rfl, rfl, by decide +kernel, rfl, by decide +kernel, by decide +kernel⟩
theorem t_ValueError : BtAt "ValueError" (.type "ValueError") := ⟨by first | rfl | kernel_rfl, by decide, by decide⟩
theorem t_abs : BtAt "abs" (.builtin "abs") := ⟨by first | rfl | kernel_rfl, by decide, by decide⟩
theorem t_all : BtAt "all" (.builtin "all") := ⟨by first | rfl | kernel_rfl, by decide, by decide⟩
theorem t_bool : BtAt "bool" (.type "bool") := ⟨by first | rfl | kernel_rfl, by decide, by decide⟩
theorem t_int : BtAt "int" (.type "int") := ⟨by first | rfl | kernel_rfl, by decide, by decide⟩
theorem t_isinstance : BtAt "isinstance" (.builtin "isinstance") := ⟨by first | rfl | kernel_rfl, by decide, by decide⟩
theorem t_len : BtAt "len" (.builtin "len") := ⟨by first | rfl | kernel_rfl, by decide, by decide⟩
theorem t_list : BtAt "list" (.type "list") := ⟨by first | rfl | kernel_rfl, by decide, by decide⟩
theorem t_max : BtAt "max" (.builtin "max") := ⟨by first | rfl | kernel_rfl, by decide, by decide⟩
theorem t_range : BtAt "range" (.type "range") := ⟨by first | rfl | kernel_rfl, by decide, by decide⟩
theorem t_str : BtAt "str" (.type "str") := ⟨by first | rfl | kernel_rfl, by decide, by decide⟩
theorem t_sum : BtAt "sum" (.builtin "sum") := ⟨by first | rfl | kernel_rfl, by decide, by decide⟩
theorem t_tuple : BtAt "tuple" (.type "tuple") := ⟨by first | rfl | kernel_rfl, by decide, by decide⟩
theorem t_zip : BtAt "zip" (.type "zip") := ⟨by first | rfl | kernel_rfl, by decide, by decide⟩
theorem kb_how_many_all_to_letters_0 : KwB st_how_many_all_to "how_many_all_to" P_how_many_all_to ["letters"] 0 [0] := fun _ _ _ _ _ _ us ws h1 h2 => match us, ws, h1, h2 with | [], [_], _, _ => rfl
theorem kb_how_many_all_with_letters_0 : KwB st_how_many_all_with "how_many_all_with" P_how_many_all_with ["letters"] 0 [0] := fun _ _ _ _ _ _ us ws h1 h2 => match us, ws, h1, h2 with | [], [_], _, _ => rfl
theorem kb_how_many_to_kind_letters_0 : KwB st_how_many_to "how_many_to" P_how_many_to ["kind", "letters"] 0 [0, 1] := fun _ _ _ _ _ _ us ws h1 h2 => match us, ws, h1, h2 with | [], [_, _], _, _ => rfl
theorem kb_how_many_with_kind_letters_0 : KwB st_how_many_with "how_many_with" P_how_many_with ["kind", "letters"] 0 [0, 1] := fun _ _ _ _ _ _ us ws h1 h2 => match us, ws, h1, h2 with | [], [_, _], _, _ => rfl
theorem kb_letters_part_kind_letters_0 : KwB st_letters_part "letters_part" P_letters_part ["kind", "letters"] 0 [0, 1] := fun _ _ _ _ _ _ us ws h1 h2 => match us, ws, h1, h2 with | [], [_, _], _, _ => rfl
structure Tx (K : PySem.W.Frag) (mg : Str → Option Value) (C0 : Addr) : Prop where
  m_ValueError : mg "ValueError" = none
  m_abs : mg "abs" = none
  m_all : mg "all" = none
  m_bool : mg "bool" = none
  m_int : mg "int" = none
  m_isinstance : mg "isinstance" = none
  m_len : mg "len" = none
  m_list : mg "list" = none
  m_max : mg "max" = none
  m_range : mg "range" = none
  m_str : mg "str" = none
  m_sum : mg "sum" = none
  m_tuple : mg "tuple" = none
  m_zip : mg "zip" = none
  g_APART : GlobAt K mg (fun _ => none) "APART" (.int 2)
  g_MOST_LETTERS : GlobAt K mg (fun _ => none) "MOST_LETTERS" (.int 6)
  g_MOST_ALL : GlobAt K mg (fun _ => none) "MOST_ALL" (.int 5)
  d_tupled : DefAt K mg "tupled" st_tupled P_tupled
  d_is_number : DefAt K mg "is_number" st_is_number P_is_number
  d_is_count : DefAt K mg "is_count" st_is_count P_is_count
  d_is_between : DefAt K mg "is_between" st_is_between P_is_between
  d_is_tuple_of : DefAt K mg "is_tuple_of" st_is_tuple_of P_is_tuple_of
  d_sure : DefAt K mg "sure" st_sure P_sure
  d_sure_between : DefAt K mg "sure_between" st_sure_between P_sure_between
  d_is_kind_in : DefAt K mg "is_kind_in" st_is_kind_in P_is_kind_in
  d_sure_kind : DefAt K mg "sure_kind" st_sure_kind P_sure_kind
  d_choices : DefAt K mg "choices" st_choices P_choices
  d_side_part : DefAt K mg "side_part" st_side_part P_side_part
  d_with_in : DefAt K mg "with_in" st_with_in P_with_in
  d_to_in : DefAt K mg "to_in" st_to_in P_to_in
  d_all_with_in : DefAt K mg "all_with_in" st_all_with_in P_all_with_in
  d_how_many_with : DefAt K mg "how_many_with" st_how_many_with P_how_many_with
  d_how_many_to : DefAt K mg "how_many_to" st_how_many_to P_how_many_to
  d_how_many_all_with : DefAt K mg "how_many_all_with" st_how_many_all_with P_how_many_all_with
  d_how_many_all_to : DefAt K mg "how_many_all_to" st_how_many_all_to P_how_many_all_to
  d_letters_part : DefAt K mg "letters_part" st_letters_part P_letters_part
  d_law_same : DefAt K mg "_law_same" st_law_same P_law_same
  d_law_heard : DefAt K mg "_law_heard" st_law_heard P_law_heard
  d_law : DefAt K mg "law" st_law P_law
  e_Unfit : ExAt K mg (ctOf [C0]) 0 "Unfit"
  n_Unfit : mg "Unfit" = some (.ref C0)
  k_Unfit : ∀ c D, (ctOf [C0]) c = some D → PySem.W.exmOne K (.ref D) (.ref C0) = some (memN c [0])
  x_ValueError : ∀ c D, (ctOf [C0]) c = some D → ExcC K D ∧ PySem.W.kitOne K (.ref D) (.type "ValueError") = some (memN c [0])
structure Fs (P : Program) (w : World) (K : PySem.W.Frag) (mg : Str → Option Value) (base : Heap) (C0 : Addr) (n : Nat) : Prop where
  f_tupled : FnAt P w K mg base (fun _ => none) (ctOf [C0]) (callsAt defs globs n) n "tupled" st_tupled 0 P_tupled
  f_is_number : FnAt P w K mg base (fun _ => none) (ctOf [C0]) (callsAt defs globs n) n "is_number" st_is_number 1 P_is_number
  f_is_count : FnAt P w K mg base (fun _ => none) (ctOf [C0]) (callsAt defs globs n) n "is_count" st_is_count 2 P_is_count
  f_is_between : FnAt P w K mg base (fun _ => none) (ctOf [C0]) (callsAt defs globs n) n "is_between" st_is_between 3 P_is_between
  f_is_tuple_of : FnAt P w K mg base (fun _ => none) (ctOf [C0]) (callsAt defs globs n) n "is_tuple_of" st_is_tuple_of 4 P_is_tuple_of
  f_sure : FnAt P w K mg base (fun _ => none) (ctOf [C0]) (callsAt defs globs n) n "sure" st_sure 5 P_sure
  f_sure_between : FnAt P w K mg base (fun _ => none) (ctOf [C0]) (callsAt defs globs n) n "sure_between" st_sure_between 6 P_sure_between
  f_is_kind_in : FnAt P w K mg base (fun _ => none) (ctOf [C0]) (callsAt defs globs n) n "is_kind_in" st_is_kind_in 7 P_is_kind_in
  f_sure_kind : FnAt P w K mg base (fun _ => none) (ctOf [C0]) (callsAt defs globs n) n "sure_kind" st_sure_kind 8 P_sure_kind
  f_choices : FnAt P w K mg base (fun _ => none) (ctOf [C0]) (callsAt defs globs n) n "choices" st_choices 9 P_choices
  f_side_part : FnAt P w K mg base (fun _ => none) (ctOf [C0]) (callsAt defs globs n) n "side_part" st_side_part 10 P_side_part
  f_with_in : FnAt P w K mg base (fun _ => none) (ctOf [C0]) (callsAt defs globs n) n "with_in" st_with_in 11 P_with_in
  f_to_in : FnAt P w K mg base (fun _ => none) (ctOf [C0]) (callsAt defs globs n) n "to_in" st_to_in 12 P_to_in
  f_all_with_in : FnAt P w K mg base (fun _ => none) (ctOf [C0]) (callsAt defs globs n) n "all_with_in" st_all_with_in 13 P_all_with_in
  f_how_many_with : FnAt P w K mg base (fun _ => none) (ctOf [C0]) (callsAt defs globs n) n "how_many_with" st_how_many_with 14 P_how_many_with
  f_how_many_to : FnAt P w K mg base (fun _ => none) (ctOf [C0]) (callsAt defs globs n) n "how_many_to" st_how_many_to 15 P_how_many_to
  f_how_many_all_with : FnAt P w K mg base (fun _ => none) (ctOf [C0]) (callsAt defs globs n) n "how_many_all_with" st_how_many_all_with 16 P_how_many_all_with
  f_how_many_all_to : FnAt P w K mg base (fun _ => none) (ctOf [C0]) (callsAt defs globs n) n "how_many_all_to" st_how_many_all_to 17 P_how_many_all_to
  f_letters_part : FnAt P w K mg base (fun _ => none) (ctOf [C0]) (callsAt defs globs n) n "letters_part" st_letters_part 18 P_letters_part
  f_law_same : FnAt P w K mg base (fun _ => none) (ctOf [C0]) (callsAt defs globs n) n "_law_same" st_law_same 19 P_law_same
  f_law_heard : FnAt P w K mg base (fun _ => none) (ctOf [C0]) (callsAt defs globs n) n "_law_heard" st_law_heard 20 P_law_heard
  f_law : FnAt P w K mg base (fun _ => none) (ctOf [C0]) (callsAt defs globs n) n "law" st_law 21 P_law
section
variable {P : Program} {w : World} {K : PySem.W.Frag} {mg : Str → Option Value} {base : Heap} {C0 : Addr} {n : Nat}
theorem w_tupled (T : Tx K mg C0) (H : Fs P w K mg base C0 n) : FnAt P w K mg base (fun _ => none) (ctOf [C0]) (callsAt defs globs (n + 1)) (n + 1) "tupled" st_tupled 0 P_tupled :=
  fn_step T.d_tupled (d := ⟨1, 2, b_tupled⟩) rfl s_tupled rfl rfl fun a cdv A outer s H0 E c =>
    (es_cons (es_ret (ev_ite (et_val (ev_isi (bn T.m_isinstance t_isinstance) (ev_v 0) (et_cons (bn T.m_list t_list) (et_cons (bn T.m_tuple t_tuple) et_nil)))) (ev_prT (bn T.m_tuple t_tuple) cp_tuple (ea_cons (ev_comp c (ei_seq (ev_v 0)) (blkOk_by (own := [("own", 1)]) rfl) (fun _ _ _ _ _ => (eg_n 1 (Cn.nd (Cn.blk c _ _ _ _ _)))) (fun _ _ _ _ _ => ets_nil) (fun _ _ _ _ _ => (ev_call (Cn.blk c _ _ _ _ _) (Nat.le_refl _) H.f_tupled rfl (ea_cons (ev_v 1) ea_nil))) (by decide)) ea_nil)) (ev_v 0)))
    es_nil)
theorem w_is_number (T : Tx K mg C0) (H : Fs P w K mg base C0 n) : FnAt P w K mg base (fun _ => none) (ctOf [C0]) (callsAt defs globs (n + 1)) (n + 1) "is_number" st_is_number 1 P_is_number :=
  fn_step T.d_is_number (d := ⟨1, 1, b_is_number⟩) rfl s_is_number rfl rfl fun a cdv A outer s H0 E c =>
    (es_cons (es_ret (ev_and (ev_isi1 (bn T.m_isinstance t_isinstance) (bn T.m_int t_int) (ev_v 0)) (pe_one (ev_not (ev_isi1 (bn T.m_isinstance t_isinstance) (bn T.m_bool t_bool) (ev_v 0))))))
    es_nil)
theorem w_is_count (T : Tx K mg C0) (H : Fs P w K mg base C0 n) : FnAt P w K mg base (fun _ => none) (ctOf [C0]) (callsAt defs globs (n + 1)) (n + 1) "is_count" st_is_count 2 P_is_count :=
  fn_step T.d_is_count (d := ⟨1, 1, b_is_count⟩) rfl s_is_count rfl rfl fun a cdv A outer s H0 E c =>
    (es_cons (es_ret (ev_and (ev_call c (Nat.le_refl _) H.f_is_number rfl (ea_cons (ev_v 0) ea_nil)) (pe_one (ev_cmp or_ge (ev_v 0) ev_lit_int))))
    es_nil)
theorem w_is_between (T : Tx K mg C0) (H : Fs P w K mg base C0 n) : FnAt P w K mg base (fun _ => none) (ctOf [C0]) (callsAt defs globs (n + 1)) (n + 1) "is_between" st_is_between 3 P_is_between :=
  fn_step T.d_is_between (d := ⟨3, 3, b_is_between⟩) rfl s_is_between rfl rfl fun a cdv A outer s H0 E c =>
    (es_cons (es_ret (ev_and (ev_call c (Nat.le_refl _) H.f_is_number rfl (ea_cons (ev_v 0) ea_nil)) (pe_one (ev_chain or_le or_le (ev_v 1) (ev_v 0) (ev_v 2)))))
    es_nil)
theorem w_is_tuple_of (T : Tx K mg C0) (H : Fs P w K mg base C0 n) : FnAt P w K mg base (fun _ => none) (ctOf [C0]) (callsAt defs globs (n + 1)) (n + 1) "is_tuple_of" st_is_tuple_of 4 P_is_tuple_of :=
  fn_step T.d_is_tuple_of (d := ⟨2, 2, b_is_tuple_of⟩) rfl s_is_tuple_of rfl rfl fun a cdv A outer s H0 E c =>
    (es_cons (es_ret (ev_and (ev_isi1 (bn T.m_isinstance t_isinstance) (bn T.m_tuple t_tuple) (ev_v 0)) (pe_one (ev_cmp (or_eq (Cn.un c)) (ev_pr (bn T.m_len t_len) cp_len (ea_cons (ev_v 0) ea_nil)) (ev_v 1)))))
    es_nil)
theorem w_sure (T : Tx K mg C0) (H : Fs P w K mg base C0 n) : FnAt P w K mg base (fun _ => none) (ctOf [C0]) (callsAt defs globs (n + 1)) (n + 1) "sure" st_sure 5 P_sure :=
  fn_step T.d_sure (d := ⟨1, 1, b_sure⟩) rfl s_sure rfl rfl fun a cdv A outer s H0 E c =>
    (es_cons (es_if (et_not (et_val (ev_v 0))) (es_cons (es_raise0 c T.e_Unfit rfl)
    es_nil) es_nil)
    es_nil)
theorem w_sure_between (T : Tx K mg C0) (H : Fs P w K mg base C0 n) : FnAt P w K mg base (fun _ => none) (ctOf [C0]) (callsAt defs globs (n + 1)) (n + 1) "sure_between" st_sure_between 6 P_sure_between :=
  fn_step T.d_sure_between (d := ⟨3, 3, b_sure_between⟩) rfl s_sure_between rfl rfl fun a cdv A outer s H0 E c =>
    (es_cons (es_expr (ev_call c (Nat.le_refl _) H.f_sure rfl (ea_cons (ev_call c (Nat.le_refl _) H.f_is_between rfl (ea_cons (ev_v 0) (ea_cons (ev_v 1) (ea_cons (ev_v 2) ea_nil)))) ea_nil)))
    (es_cons (es_ret (ev_v 0))
    es_nil))
theorem w_is_kind_in (T : Tx K mg C0) (H : Fs P w K mg base C0 n) : FnAt P w K mg base (fun _ => none) (ctOf [C0]) (callsAt defs globs (n + 1)) (n + 1) "is_kind_in" st_is_kind_in 7 P_is_kind_in :=
  fn_step T.d_is_kind_in (d := ⟨1, 5, b_is_kind_in⟩) rfl s_is_kind_in rfl rfl fun a cdv A outer s H0 E c =>
    (es_cons (es_if (PW.pt (ew_or (et_not (et_val (ev_call c (Nat.le_refl _) H.f_is_tuple_of rfl (ea_cons (ev_v 0) (ea_cons ev_lit_int ea_nil))))) (pw_or1 (et_not (et_val (ev_pr (bn T.m_all t_all) (cp_all (Cn.calm c)) (ea_cons (ev_comp c (ei_seq (ev_v 0)) (blkOk_by (own := [("own", 1)]) rfl) (fun _ _ _ _ _ => (eg_n 1 (Cn.nd (Cn.blk c _ _ _ _ _)))) (fun _ _ _ _ _ => ets_nil) (fun _ _ _ _ _ => (ev_call (Cn.blk c _ _ _ _ _) (Nat.le_refl _) H.f_is_count rfl (ea_cons (ev_v 1) ea_nil))) (by decide)) ea_nil))))))) (es_cons (es_ret ev_lit_bl)
    es_nil) es_nil)
    (es_cons (es_asg (ev_v 0) (eg_tup (Cn.calm c) (eg_cons (eg_n 2 (Cn.nd c)) (eg_cons (eg_n 3 (Cn.nd c)) (eg_cons (eg_n 4 (Cn.nd c)) eg_nil)))))
    (es_cons (es_ret (ev_and (ev_cmp or_le (ev_pr (bn T.m_abs t_abs) cp_abs (ea_cons (ev_bin or_sub (ev_v 2) (ev_v 3)) ea_nil)) (ev_glob T.g_APART rfl rfl)) (ev_and (ev_cmp or_le (ev_v 4) ev_lit_int) (pe_one (ev_or (ev_cmp (or_eq (Cn.un c)) (ev_v 4) ev_lit_int) (pe_one (ev_cmp or_le (ev_pr (bn T.m_max t_max) (cp_max2 (Cn.calm c)) (ea_cons (ev_v 2) (ea_cons (ev_v 3) ea_nil))) ev_lit_int)))))))
    es_nil)))
theorem w_sure_kind (T : Tx K mg C0) (H : Fs P w K mg base C0 n) : FnAt P w K mg base (fun _ => none) (ctOf [C0]) (callsAt defs globs (n + 1)) (n + 1) "sure_kind" st_sure_kind 8 P_sure_kind :=
  fn_step T.d_sure_kind (d := ⟨1, 2, b_sure_kind⟩) rfl s_sure_kind rfl rfl fun a cdv A outer s H0 E c =>
    (es_cons (es_s c (ev_call c (Nat.le_refl _) H.f_tupled rfl (ea_cons (ev_v 0) ea_nil)))
    (es_cons (es_expr (ev_call c (Nat.le_refl _) H.f_sure rfl (ea_cons (ev_call c (Nat.le_refl _) H.f_is_kind_in rfl (ea_cons (ev_v 1) ea_nil)) ea_nil)))
    (es_cons (es_ret (ev_v 1))
    es_nil)))
theorem w_choices (T : Tx K mg C0) (H : Fs P w K mg base C0 n) : FnAt P w K mg base (fun _ => none) (ctOf [C0]) (callsAt defs globs (n + 1)) (n + 1) "choices" st_choices 9 P_choices :=
  fn_step T.d_choices (d := ⟨2, 4, b_choices⟩) rfl s_choices rfl rfl fun a cdv A outer s H0 E c =>
    (es_cons (es_s c ev_lit_int)
    (es_cons (es_for c (ei_rng1 (bn T.m_range t_range) (ea_cons (ev_v 1) ea_nil)) (eg_n 3 (Cn.nd c)) (es_cons (es_s c (ev_bin or_fdiv (ev_bin or_mul (ev_v 2) (ev_bin or_sub (ev_v 0) (ev_v 3))) (ev_bin or_add (ev_v 3) ev_lit_int)))
    es_nil))
    (es_cons (es_ret (ev_v 2))
    es_nil)))
theorem w_side_part (T : Tx K mg C0) (H : Fs P w K mg base C0 n) : FnAt P w K mg base (fun _ => none) (ctOf [C0]) (callsAt defs globs (n + 1)) (n + 1) "side_part" st_side_part 10 P_side_part :=
  fn_step T.d_side_part (d := ⟨3, 4, b_side_part⟩) rfl s_side_part rfl rfl fun a cdv A outer s H0 E c =>
    (es_cons (es_if (PW.pt (ew_or (et_cmp (or_lt (Cn.un c)) (ev_v 0) ev_lit_int) (pw_or1 (et_cmp (or_eq (Cn.un c)) (ev_v 2) ev_lit_int)))) (es_cons (es_ret (ev_ite (PW.pt (ew_or (et_cmp (or_eq (Cn.un c)) (ev_v 0) ev_lit_int) (pw_or1 (et_cmp (or_eq (Cn.un c)) (ev_v 2) ev_lit_int)))) ev_lit_int (ev_v 2)))
    es_nil) es_nil)
    (es_cons (es_s c (ev_ite (et_val (ev_v 1)) (ev_tup (ea_cons (ev_v 0) (ea_cons (ev_bin or_sub (ev_v 0) ev_lit_int) (ea_cons ev_lit_int ea_nil)))) (ev_tup (ea_cons (ev_bin or_sub (ev_v 0) ev_lit_int) (ea_cons (ev_v 0) (ea_cons ev_lit_int ea_nil))))))
    (es_cons (es_ret (ev_bin or_mul (ev_v 2) (ev_call c (Nat.le_refl _) H.f_with_in rfl (ea_cons (ev_v 3) (ea_cons (ev_bin or_sub (ev_v 2) ev_lit_int) ea_nil)))))
    es_nil)))
theorem w_with_in (T : Tx K mg C0) (H : Fs P w K mg base C0 n) : FnAt P w K mg base (fun _ => none) (ctOf [C0]) (callsAt defs globs (n + 1)) (n + 1) "with_in" st_with_in 11 P_with_in :=
  fn_step T.d_with_in (d := ⟨2, 2, b_with_in⟩) rfl s_with_in rfl rfl fun a cdv A outer s H0 E c =>
    (es_cons (es_ret (ev_bin or_mul (ev_call c (Nat.le_refl _) H.f_side_part rfl (ea_cons (ev_idx (ev_v 0) ev_lit_int) (ea_cons ev_lit_bl (ea_cons (ev_v 1) ea_nil)))) (ev_call c (Nat.le_refl _) H.f_side_part rfl (ea_cons (ev_idx (ev_v 0) ev_lit_int) (ea_cons ev_lit_bl (ea_cons (ev_v 1) ea_nil))))))
    es_nil)
theorem w_to_in (T : Tx K mg C0) (H : Fs P w K mg base C0 n) : FnAt P w K mg base (fun _ => none) (ctOf [C0]) (callsAt defs globs (n + 1)) (n + 1) "to_in" st_to_in 12 P_to_in :=
  fn_step T.d_to_in (d := ⟨2, 3, b_to_in⟩) rfl s_to_in rfl rfl fun a cdv A outer s H0 E c =>
    (es_cons (es_if (et_cmp (or_eq (Cn.un c)) (ev_idx (ev_v 0) ev_lit_int) ev_lit_int) (es_cons (es_ret (ev_call c (Nat.le_refl _) H.f_with_in rfl (ea_cons (ev_v 0) (ea_cons (ev_v 1) ea_nil))))
    es_nil) es_nil)
    (es_cons (es_ret (ev_pr (bn T.m_sum t_sum) (cp_sum (Cn.calm c)) (ea_cons (ev_comp c (ei_rng2 (bn T.m_range t_range) (ea_cons ev_lit_int (ea_cons (ev_bin or_add (ev_v 1) ev_lit_int) ea_nil))) (blkOk_by (own := [("own", 2)]) rfl) (fun _ _ _ _ _ => (eg_n 2 (Cn.nd (Cn.blk c _ _ _ _ _)))) (fun _ _ _ _ _ => ets_nil) (fun _ _ _ _ _ => (ev_bin or_mul (ev_call (Cn.blk c _ _ _ _ _) (Nat.le_refl _) H.f_choices rfl (ea_cons (ev_v 1) (ea_cons (ev_v 2) ea_nil))) (ev_call (Cn.blk c _ _ _ _ _) (Nat.le_refl _) H.f_with_in rfl (ea_cons (ev_v 0) (ea_cons (ev_v 2) ea_nil))))) (by decide)) ea_nil)))
    es_nil))
theorem w_all_with_in (T : Tx K mg C0) (H : Fs P w K mg base C0 n) : FnAt P w K mg base (fun _ => none) (ctOf [C0]) (callsAt defs globs (n + 1)) (n + 1) "all_with_in" st_all_with_in 13 P_all_with_in :=
  fn_step T.d_all_with_in (d := ⟨1, 3, b_all_with_in⟩) rfl s_all_with_in rfl rfl fun a cdv A outer s H0 E c =>
    (es_cons (es_s c ev_lit_int)
    (es_cons (es_for c (ei_rng2 (bn T.m_range t_range) (ea_cons ev_lit_int (ea_cons (ev_bin or_add (ev_v 0) ev_lit_int) ea_nil))) (eg_n 2 (Cn.nd c)) (es_cons (es_s c (ev_bin or_mul (ev_bin or_mul (ev_bin or_mul (ev_v 2) (ev_v 1)) (ev_v 2)) (ev_v 1)))
    es_nil))
    (es_cons (es_ret (ev_v 1))
    es_nil)))
theorem w_how_many_with (T : Tx K mg C0) (H : Fs P w K mg base C0 n) : FnAt P w K mg base (fun _ => none) (ctOf [C0]) (callsAt defs globs (n + 1)) (n + 1) "how_many_with" st_how_many_with 14 P_how_many_with :=
  fn_step T.d_how_many_with (d := ⟨2, 3, b_how_many_with⟩) rfl s_how_many_with rfl rfl fun a cdv A outer s H0 E c =>
    (es_cons (es_s c (ev_call c (Nat.le_refl _) H.f_sure_kind rfl (ea_cons (ev_v 0) ea_nil)))
    (es_cons (es_ret (ev_call c (Nat.le_refl _) H.f_with_in rfl (ea_cons (ev_v 2) (ea_cons (ev_call c (Nat.le_refl _) H.f_sure_between rfl (ea_cons (ev_v 1) (ea_cons ev_lit_int (ea_cons (ev_glob T.g_MOST_LETTERS rfl rfl) ea_nil)))) ea_nil))))
    es_nil))
theorem w_how_many_to (T : Tx K mg C0) (H : Fs P w K mg base C0 n) : FnAt P w K mg base (fun _ => none) (ctOf [C0]) (callsAt defs globs (n + 1)) (n + 1) "how_many_to" st_how_many_to 15 P_how_many_to :=
  fn_step T.d_how_many_to (d := ⟨2, 3, b_how_many_to⟩) rfl s_how_many_to rfl rfl fun a cdv A outer s H0 E c =>
    (es_cons (es_s c (ev_call c (Nat.le_refl _) H.f_sure_kind rfl (ea_cons (ev_v 0) ea_nil)))
    (es_cons (es_ret (ev_call c (Nat.le_refl _) H.f_to_in rfl (ea_cons (ev_v 2) (ea_cons (ev_call c (Nat.le_refl _) H.f_sure_between rfl (ea_cons (ev_v 1) (ea_cons ev_lit_int (ea_cons (ev_glob T.g_MOST_LETTERS rfl rfl) ea_nil)))) ea_nil))))
    es_nil))
theorem w_how_many_all_with (T : Tx K mg C0) (H : Fs P w K mg base C0 n) : FnAt P w K mg base (fun _ => none) (ctOf [C0]) (callsAt defs globs (n + 1)) (n + 1) "how_many_all_with" st_how_many_all_with 16 P_how_many_all_with :=
  fn_step T.d_how_many_all_with (d := ⟨1, 1, b_how_many_all_with⟩) rfl s_how_many_all_with rfl rfl fun a cdv A outer s H0 E c =>
    (es_cons (es_ret (ev_call c (Nat.le_refl _) H.f_all_with_in rfl (ea_cons (ev_call c (Nat.le_refl _) H.f_sure_between rfl (ea_cons (ev_v 0) (ea_cons ev_lit_int (ea_cons (ev_glob T.g_MOST_ALL rfl rfl) ea_nil)))) ea_nil)))
    es_nil)
theorem w_how_many_all_to (T : Tx K mg C0) (H : Fs P w K mg base C0 n) : FnAt P w K mg base (fun _ => none) (ctOf [C0]) (callsAt defs globs (n + 1)) (n + 1) "how_many_all_to" st_how_many_all_to 17 P_how_many_all_to :=
  fn_step T.d_how_many_all_to (d := ⟨1, 3, b_how_many_all_to⟩) rfl s_how_many_all_to rfl rfl fun a cdv A outer s H0 E c =>
    (es_cons (es_s c (ev_call c (Nat.le_refl _) H.f_sure_between rfl (ea_cons (ev_v 0) (ea_cons ev_lit_int (ea_cons (ev_glob T.g_MOST_ALL rfl rfl) ea_nil)))))
    (es_cons (es_ret (ev_pr (bn T.m_sum t_sum) (cp_sum (Cn.calm c)) (ea_cons (ev_comp c (ei_rng2 (bn T.m_range t_range) (ea_cons ev_lit_int (ea_cons (ev_bin or_add (ev_v 1) ev_lit_int) ea_nil))) (blkOk_by (own := [("own", 2)]) rfl) (fun _ _ _ _ _ => (eg_n 2 (Cn.nd (Cn.blk c _ _ _ _ _)))) (fun _ _ _ _ _ => ets_nil) (fun _ _ _ _ _ => (ev_bin or_mul (ev_call (Cn.blk c _ _ _ _ _) (Nat.le_refl _) H.f_choices rfl (ea_cons (ev_v 1) (ea_cons (ev_v 2) ea_nil))) (ev_call (Cn.blk c _ _ _ _ _) (Nat.le_refl _) H.f_all_with_in rfl (ea_cons (ev_v 2) ea_nil)))) (by decide)) ea_nil)))
    es_nil))
theorem w_letters_part (T : Tx K mg C0) (H : Fs P w K mg base C0 n) : FnAt P w K mg base (fun _ => none) (ctOf [C0]) (callsAt defs globs (n + 1)) (n + 1) "letters_part" st_letters_part 18 P_letters_part :=
  fn_step T.d_letters_part (d := ⟨2, 4, b_letters_part⟩) rfl s_letters_part rfl rfl fun a cdv A outer s H0 E c =>
    (es_cons (es_s c (ev_call c (Nat.le_refl _) H.f_sure_kind rfl (ea_cons (ev_v 0) ea_nil)))
    (es_cons (es_s c (ev_call c (Nat.le_refl _) H.f_sure_between rfl (ea_cons (ev_v 1) (ea_cons ev_lit_int (ea_cons (ev_glob T.g_MOST_LETTERS rfl rfl) ea_nil)))))
    (es_cons (es_ret (ev_tup (ea_cons (ev_call c (Nat.le_refl _) H.f_side_part rfl (ea_cons (ev_idx (ev_v 2) ev_lit_int) (ea_cons ev_lit_bl (ea_cons (ev_v 3) ea_nil)))) (ea_cons (ev_call c (Nat.le_refl _) H.f_side_part rfl (ea_cons (ev_idx (ev_v 2) ev_lit_int) (ea_cons ev_lit_bl (ea_cons (ev_v 3) ea_nil)))) ea_nil))))
    es_nil)))
theorem w_law_same (T : Tx K mg C0) (H : Fs P w K mg base C0 n) : FnAt P w K mg base (fun _ => none) (ctOf [C0]) (callsAt defs globs (n + 1)) (n + 1) "_law_same" st_law_same 19 P_law_same :=
  fn_step T.d_law_same (d := ⟨2, 4, b_law_same⟩) rfl s_law_same rfl rfl fun a cdv A outer s H0 E c =>
    (es_cons (es_if (et_val (ev_isi (bn T.m_isinstance t_isinstance) (ev_v 1) (et_cons (bn T.m_list t_list) (et_cons (bn T.m_tuple t_tuple) et_nil)))) (es_cons (es_if (PW.pt (ew_or (et_cmp (or_ne (Cn.un c)) (ev_isi1 (bn T.m_isinstance t_isinstance) (bn T.m_list t_list) (ev_v 0)) (ev_isi1 (bn T.m_isinstance t_isinstance) (bn T.m_list t_list) (ev_v 1))) (pw_or1 (et_cmp (or_ne (Cn.un c)) (ev_isi1 (bn T.m_isinstance t_isinstance) (bn T.m_tuple t_tuple) (ev_v 0)) (ev_isi1 (bn T.m_isinstance t_isinstance) (bn T.m_tuple t_tuple) (ev_v 1)))))) (es_cons (es_ret ev_lit_bl)
    es_nil) es_nil)
    (es_cons (es_ret (ev_and (ev_cmp (or_eq (Cn.un c)) (ev_pr (bn T.m_len t_len) cp_len (ea_cons (ev_v 0) ea_nil)) (ev_pr (bn T.m_len t_len) cp_len (ea_cons (ev_v 1) ea_nil))) (pe_one (ev_pr (bn T.m_all t_all) (cp_all (Cn.calm c)) (ea_cons (ev_comp c (ei_zip (bn T.m_zip t_zip) (ea_cons (ev_v 0) (ea_cons (ev_v 1) ea_nil))) (blkOk_by (own := [("mine", 2), ("its", 3)]) rfl) (fun _ _ _ _ _ => (eg_tup (Cn.calm (Cn.blk c _ _ _ _ _)) (eg_cons (eg_n 2 (Cn.nd (Cn.blk c _ _ _ _ _))) (eg_cons (eg_n 3 (Cn.nd (Cn.blk c _ _ _ _ _))) eg_nil)))) (fun _ _ _ _ _ => ets_nil) (fun _ _ _ _ _ => (ev_call (Cn.blk c _ _ _ _ _) (Nat.le_refl _) H.f_law_same rfl (ea_cons (ev_v 2) (ea_cons (ev_v 3) ea_nil)))) (by decide)) ea_nil)))))
    es_nil)) es_nil)
    (es_cons (es_if (PW.pt (ew_or (et_isN (ev_v 1)) (pw_or1 (et_val (ev_isi (bn T.m_isinstance t_isinstance) (ev_v 1) (et_cons (bn T.m_bool t_bool) (et_cons (bn T.m_str t_str) et_nil))))))) (es_cons (es_ret (ev_and (ev_cmp (or_eq (Cn.un c)) (ev_v 0) (ev_v 1)) (ev_and (ev_cmp (or_eq (Cn.un c)) (ev_isi1 (bn T.m_isinstance t_isinstance) (bn T.m_bool t_bool) (ev_v 0)) (ev_isi1 (bn T.m_isinstance t_isinstance) (bn T.m_bool t_bool) (ev_v 1))) (pe_one (ev_cmp (or_eq (Cn.un c)) (ev_isN (ev_v 0)) (ev_isN (ev_v 1)))))))
    es_nil) es_nil)
    (es_cons (es_ret (ev_and (ev_isi1 (bn T.m_isinstance t_isinstance) (bn T.m_int t_int) (ev_v 0)) (ev_and (ev_not (ev_isi1 (bn T.m_isinstance t_isinstance) (bn T.m_bool t_bool) (ev_v 0))) (pe_one (ev_cmp (or_eq (Cn.un c)) (ev_v 0) (ev_v 1))))))
    es_nil)))
theorem w_law_heard (T : Tx K mg C0) (H : Fs P w K mg base C0 n) : FnAt P w K mg base (fun _ => none) (ctOf [C0]) (callsAt defs globs (n + 1)) (n + 1) "_law_heard" st_law_heard 20 P_law_heard :=
  fn_step T.d_law_heard (d := ⟨3, 5, b_law_heard⟩) rfl s_law_heard rfl rfl fun a cdv A outer s H0 E c =>
    (es_cons (es_s c ev_lit_non)
    (es_cons (es_try_as (i := 4) c rfl rfl rfl rfl ⟨rfl, by decide, .inl T.n_Unfit⟩ (fun W' pn xe tk po => (es_cons (es_if (et_cmp (or_lt (Cn.un (Cn.tr c tk po))) (ev_v 0) ev_lit_int) (es_cons (es_s (Cn.tr c tk po) (ev_ite (et_cmp (or_eq (Cn.un (Cn.tr c tk po))) (ev_v 0) ev_lit_int) (ev_call (Cn.tr c tk po) (Nat.le_refl _) H.f_how_many_with rfl (ea_cons (ev_v 1) (ea_cons (ev_v 2) ea_nil))) (ev_ite (et_cmp (or_eq (Cn.un (Cn.tr c tk po))) (ev_v 0) ev_lit_int) (ev_call (Cn.tr c tk po) (Nat.le_refl _) H.f_how_many_to rfl (ea_cons (ev_v 1) (ea_cons (ev_v 2) ea_nil))) (ev_call (Cn.tr c tk po) (Nat.le_refl _) H.f_letters_part rfl (ea_cons (ev_v 1) (ea_cons (ev_v 2) ea_nil))))))
    es_nil) (es_cons (es_s (Cn.tr c tk po) (ev_ite (et_cmp (or_eq (Cn.un (Cn.tr c tk po))) (ev_v 0) ev_lit_int) (ev_call (Cn.tr c tk po) (Nat.le_refl _) H.f_how_many_all_with rfl (ea_cons (ev_v 2) ea_nil)) (ev_call (Cn.tr c tk po) (Nat.le_refl _) H.f_how_many_all_to rfl (ea_cons (ev_v 2) ea_nil))))
    es_nil))
    es_nil)) T.k_Unfit (fun a oe cls d pn hz hf => (su_asg rfl (Cn.nd c) (j := 3) rfl rfl (by decide) (fun c D hD as d hz0 hf0 hd0 => (ex_cons ex_str (ex_cons (ex_isa hz0 hf0 hd0 (T.x_ValueError c D hD) rfl (Or.inl rfl) (bn T.m_isinstance t_isinstance) (bn T.m_ValueError t_ValueError)) ex_nil))) cls d hz hf)))
    (es_cons (es_ret (ev_v 3))
    es_nil)))
theorem w_law (T : Tx K mg C0) (H : Fs P w K mg base C0 n) : FnAt P w K mg base (fun _ => none) (ctOf [C0]) (callsAt defs globs (n + 1)) (n + 1) "law" st_law 21 P_law :=
  fn_step T.d_law (d := ⟨1, 7, b_law⟩) rfl s_law rfl rfl fun a cdv A outer s H0 E c =>
    (es_cons (es_s c (ev_tup (ea_cons (ev_tup (ea_cons ev_lit_int (ea_cons ev_lit_int (ea_cons ev_lit_int ea_nil)))) (ea_cons (ev_tup (ea_cons ev_lit_int (ea_cons ev_lit_int (ea_cons ev_lit_int ea_nil)))) (ea_cons (ev_tup (ea_cons ev_lit_int (ea_cons ev_lit_int (ea_cons ev_lit_int ea_nil)))) (ea_cons (ev_tup (ea_cons ev_lit_int (ea_cons ev_lit_int (ea_cons ev_lit_int ea_nil)))) (ea_cons (ev_tup (ea_cons ev_lit_int (ea_cons ev_lit_int (ea_cons ev_lit_int ea_nil)))) (ea_cons (ev_tup (ea_cons ev_lit_int (ea_cons ev_lit_int (ea_cons ev_lit_int ea_nil)))) (ea_cons (ev_tup (ea_cons ev_lit_int (ea_cons ev_lit_int (ea_cons ev_lit_int ea_nil)))) (ea_cons (ev_tup (ea_cons ev_lit_int (ea_cons ev_lit_int (ea_cons ev_lit_int ea_nil)))) ea_nil))))))))))
    (es_cons (es_s c (ev_lst (ea_cons (ev_comp c (ei_seq (ev_v 1)) (blkOk_by (own := [("own", 3)]) rfl) (fun _ _ _ _ _ => (eg_n 3 (Cn.nd (Cn.blk c _ _ _ _ _)))) (fun _ _ _ _ _ => ets_nil) (fun _ _ _ _ _ => (ev_call (Cn.blk c _ _ _ _ _) (Nat.le_refl _) H.f_how_many_with rfl (ea_cons (ev_v 3) (ea_cons ev_lit_int ea_nil)))) (by decide)) (ea_cons (ev_comp c (ei_seq (ev_v 1)) (blkOk_by (own := [("own", 3)]) rfl) (fun _ _ _ _ _ => (eg_n 3 (Cn.nd (Cn.blk c _ _ _ _ _)))) (fun _ _ _ _ _ => ets_nil) (fun _ _ _ _ _ => (ev_call (Cn.blk c _ _ _ _ _) (Nat.le_refl _) H.f_how_many_with rfl (ea_cons (ev_prT (bn T.m_list t_list) cp_list (ea_cons (ev_v 3) ea_nil)) (ea_cons ev_lit_int ea_nil)))) (by decide)) (ea_cons (ev_callK0 c (Nat.le_refl _) H.f_how_many_with rfl (ek_cons (ev_tup (ea_cons ev_lit_int (ea_cons ev_lit_int (ea_cons ev_lit_int ea_nil)))) (ek_cons ev_lit_int ek_nil)) kb_how_many_with_kind_letters_0) (ea_cons (ev_call c (Nat.le_refl _) H.f_how_many_with rfl (ea_cons (ev_tup (ea_cons ev_lit_int (ea_cons ev_lit_int (ea_cons ev_lit_int ea_nil)))) (ea_cons ev_lit_int ea_nil))) ea_nil))))))
    (es_cons (es_s c (ev_lst (ea_cons (ev_lst (ea_cons ev_lit_int (ea_cons ev_lit_int (ea_cons ev_lit_int (ea_cons ev_lit_int (ea_cons ev_lit_int (ea_cons ev_lit_int (ea_cons ev_lit_int (ea_cons ev_lit_int ea_nil))))))))) (ea_cons (ev_bin or_mul (ev_lst (ea_cons ev_lit_int ea_nil)) ev_lit_int) (ea_cons ev_lit_int (ea_cons ev_lit_int ea_nil))))))
    (es_cons (es_s c (ev_bin or_add (ev_v 2) (ev_lst (ea_cons (ev_call c (Nat.le_refl _) H.f_how_many_to rfl (ea_cons (ev_tup (ea_cons ev_lit_int (ea_cons ev_lit_int (ea_cons ev_lit_int ea_nil)))) (ea_cons ev_lit_int ea_nil))) (ea_cons (ev_call c (Nat.le_refl _) H.f_how_many_to rfl (ea_cons (ev_tup (ea_cons ev_lit_int (ea_cons ev_lit_int (ea_cons ev_lit_int ea_nil)))) (ea_cons ev_lit_int ea_nil))) (ea_cons (ev_call c (Nat.le_refl _) H.f_how_many_to rfl (ea_cons (ev_tup (ea_cons ev_lit_int (ea_cons ev_lit_int (ea_cons ev_lit_int ea_nil)))) (ea_cons ev_lit_int ea_nil))) (ea_cons (ev_callK0 c (Nat.le_refl _) H.f_how_many_to rfl (ek_cons (ev_tup (ea_cons ev_lit_int (ea_cons ev_lit_int (ea_cons ev_lit_int ea_nil)))) (ek_cons ev_lit_int ek_nil)) kb_how_many_to_kind_letters_0) (ea_cons (ev_call c (Nat.le_refl _) H.f_how_many_to rfl (ea_cons (ev_tup (ea_cons ev_lit_int (ea_cons ev_lit_int (ea_cons ev_lit_int ea_nil)))) (ea_cons ev_lit_int ea_nil))) (ea_cons (ev_call c (Nat.le_refl _) H.f_how_many_to rfl (ea_cons (ev_tup (ea_cons ev_lit_int (ea_cons ev_lit_int (ea_cons ev_lit_int ea_nil)))) (ea_cons ev_lit_int ea_nil))) ea_nil)))))))))
    (es_cons (es_s c (ev_bin or_add (ev_v 4) (ev_lst (ea_cons ev_lit_int (ea_cons ev_lit_int (ea_cons ev_lit_int (ea_cons ev_lit_int (ea_cons ev_lit_int (ea_cons ev_lit_int ea_nil)))))))))
    (es_cons (es_s c (ev_bin or_add (ev_v 2) (ev_lst (ea_cons (ev_call c (Nat.le_refl _) H.f_letters_part rfl (ea_cons (ev_tup (ea_cons ev_lit_int (ea_cons ev_lit_int (ea_cons ev_lit_int ea_nil)))) (ea_cons ev_lit_int ea_nil))) (ea_cons (ev_callK0 c (Nat.le_refl _) H.f_letters_part rfl (ek_cons (ev_tup (ea_cons ev_lit_int (ea_cons ev_lit_int (ea_cons ev_lit_int ea_nil)))) (ek_cons ev_lit_int ek_nil)) kb_letters_part_kind_letters_0) (ea_cons (ev_call c (Nat.le_refl _) H.f_letters_part rfl (ea_cons (ev_tup (ea_cons ev_lit_int (ea_cons ev_lit_int (ea_cons ev_lit_int ea_nil)))) (ea_cons ev_lit_int ea_nil))) (ea_cons (ev_comp c (ei_rng2 (bn T.m_range t_range) (ea_cons ev_lit_int (ea_cons ev_lit_int ea_nil))) (blkOk_by (own := [("own", 3)]) rfl) (fun _ _ _ _ _ => (eg_n 3 (Cn.nd (Cn.blk c _ _ _ _ _)))) (fun _ _ _ _ _ => ets_nil) (fun _ _ _ _ _ => (ev_call (Cn.blk c _ _ _ _ _) (Nat.le_refl _) H.f_how_many_all_with rfl (ea_cons (ev_v 3) ea_nil))) (by decide)) (ea_cons (ev_callK0 c (Nat.le_refl _) H.f_how_many_all_with rfl (ek_cons ev_lit_int ek_nil) kb_how_many_all_with_letters_0) (ea_cons (ev_comp c (ei_rng2 (bn T.m_range t_range) (ea_cons ev_lit_int (ea_cons ev_lit_int ea_nil))) (blkOk_by (own := [("own", 3)]) rfl) (fun _ _ _ _ _ => (eg_n 3 (Cn.nd (Cn.blk c _ _ _ _ _)))) (fun _ _ _ _ _ => ets_nil) (fun _ _ _ _ _ => (ev_call (Cn.blk c _ _ _ _ _) (Nat.le_refl _) H.f_how_many_all_to rfl (ea_cons (ev_v 3) ea_nil))) (by decide)) (ea_cons (ev_callK0 c (Nat.le_refl _) H.f_how_many_all_to rfl (ek_cons ev_lit_int ek_nil) kb_how_many_all_to_letters_0) ea_nil))))))))))
    (es_cons (es_s c (ev_bin or_add (ev_v 4) (ev_lst (ea_cons (ev_tup (ea_cons ev_lit_int (ea_cons ev_lit_int ea_nil))) (ea_cons (ev_tup (ea_cons ev_lit_int (ea_cons ev_lit_int ea_nil))) (ea_cons (ev_tup (ea_cons ev_lit_int (ea_cons ev_lit_int ea_nil))) (ea_cons (ev_lst (ea_cons ev_lit_int (ea_cons ev_lit_int (ea_cons ev_lit_int (ea_cons ev_lit_int (ea_cons ev_lit_int ea_nil)))))) (ea_cons ev_lit_int (ea_cons (ev_lst (ea_cons ev_lit_int (ea_cons ev_lit_int (ea_cons ev_lit_int (ea_cons ev_lit_int (ea_cons ev_lit_int ea_nil)))))) (ea_cons ev_lit_int ea_nil))))))))))
    (es_cons (es_if (et_not (et_val (ev_call c (Nat.le_refl _) H.f_law_same rfl (ea_cons (ev_v 2) (ea_cons (ev_v 4) ea_nil))))) (es_cons (es_ret ev_lit_bl)
    es_nil) es_nil)
    (es_cons (es_s c (ev_lst ea_nil))
    (es_cons (es_for c (ei_rng1 (bn T.m_range t_range) (ea_cons ev_lit_int ea_nil)) (eg_n 6 (Cn.nd c)) (es_cons (es_s c (ev_bin or_add (ev_v 5) (ev_comp c (ei_seq (ev_tup (ea_cons ev_lit_non (ea_cons ev_lit_int (ea_cons (ev_tup ea_nil) (ea_cons (ev_tup (ea_cons ev_lit_int (ea_cons ev_lit_int ea_nil))) (ea_cons (ev_tup (ea_cons ev_lit_int (ea_cons ev_lit_int (ea_cons ev_lit_int ea_nil)))) (ea_cons (ev_tup (ea_cons ev_lit_int (ea_cons ev_lit_int (ea_cons ev_lit_int ea_nil)))) (ea_cons (ev_tup (ea_cons ev_lit_int (ea_cons ev_lit_int (ea_cons ev_lit_int ea_nil)))) (ea_cons (ev_tup (ea_cons (ev_neg ev_lit_int) (ea_cons ev_lit_int (ea_cons ev_lit_int ea_nil)))) (ea_cons (ev_tup (ea_cons ev_lit_bl (ea_cons ev_lit_int (ea_cons ev_lit_int ea_nil)))) (ea_cons (ev_lit_str) ea_nil)))))))))))) (blkOk_by (own := [("own", 3)]) rfl) (fun _ _ _ _ _ => (eg_n 3 (Cn.nd (Cn.blk c _ _ _ _ _)))) (fun _ _ _ _ _ => ets_nil) (fun _ _ _ _ _ => (ev_call (Cn.blk c _ _ _ _ _) (Nat.le_refl _) H.f_law_heard rfl (ea_cons (ev_v 6) (ea_cons (ev_v 3) (ea_cons ev_lit_int ea_nil))))) (by decide))))
    (es_cons (es_s c (ev_bin or_add (ev_v 5) (ev_comp c (ei_seq (ev_tup (ea_cons ev_lit_int (ea_cons ev_lit_int (ea_cons ev_lit_bl (ea_cons ev_lit_non (ea_cons (ev_lit_str) (ea_cons (ev_neg ev_lit_int) ea_nil)))))))) (blkOk_by (own := [("own", 3)]) rfl) (fun _ _ _ _ _ => (eg_n 3 (Cn.nd (Cn.blk c _ _ _ _ _)))) (fun _ _ _ _ _ => ets_nil) (fun _ _ _ _ _ => (ev_call (Cn.blk c _ _ _ _ _) (Nat.le_refl _) H.f_law_heard rfl (ea_cons (ev_v 6) (ea_cons (ev_tup (ea_cons ev_lit_int (ea_cons ev_lit_int (ea_cons ev_lit_int ea_nil)))) (ea_cons (ev_v 3) ea_nil))))) (by decide))))
    es_nil)))
    (es_cons (es_for c (ei_seq (ev_tup (ea_cons ev_lit_int (ea_cons ev_lit_int ea_nil)))) (eg_n 6 (Cn.nd c)) (es_cons (es_s c (ev_bin or_add (ev_v 5) (ev_comp c (ei_seq (ev_tup (ea_cons ev_lit_int (ea_cons ev_lit_int (ea_cons ev_lit_bl (ea_cons ev_lit_non (ea_cons (ev_lit_str) (ea_cons (ev_neg ev_lit_int) ea_nil)))))))) (blkOk_by (own := [("own", 3)]) rfl) (fun _ _ _ _ _ => (eg_n 3 (Cn.nd (Cn.blk c _ _ _ _ _)))) (fun _ _ _ _ _ => ets_nil) (fun _ _ _ _ _ => (ev_call (Cn.blk c _ _ _ _ _) (Nat.le_refl _) H.f_law_heard rfl (ea_cons (ev_v 6) (ea_cons ev_lit_int (ea_cons (ev_v 3) ea_nil))))) (by decide))))
    es_nil))
    (es_cons (es_ret (ev_call c (Nat.le_refl _) H.f_law_same rfl (ea_cons (ev_v 5) (ea_cons (ev_bin or_mul (ev_lst (ea_cons (ev_lst (ea_cons (ev_lit_str) (ea_cons ev_lit_bl ea_nil))) ea_nil)) (ev_pr (bn T.m_len t_len) cp_len (ea_cons (ev_v 5) ea_nil))) ea_nil))))
    es_nil))))))))))))
theorem all (T : Tx K mg C0) : ∀ n, Fs P w K mg base C0 n
  | 0 => ⟨fn_zero T.d_tupled, fn_zero T.d_is_number, fn_zero T.d_is_count, fn_zero T.d_is_between, fn_zero T.d_is_tuple_of, fn_zero T.d_sure, fn_zero T.d_sure_between, fn_zero T.d_is_kind_in, fn_zero T.d_sure_kind, fn_zero T.d_choices, fn_zero T.d_side_part, fn_zero T.d_with_in, fn_zero T.d_to_in, fn_zero T.d_all_with_in, fn_zero T.d_how_many_with, fn_zero T.d_how_many_to, fn_zero T.d_how_many_all_with, fn_zero T.d_how_many_all_to, fn_zero T.d_letters_part, fn_zero T.d_law_same, fn_zero T.d_law_heard, fn_zero T.d_law⟩
  | n + 1 => have H := all T n; ⟨w_tupled T H, w_is_number T H, w_is_count T H, w_is_between T H, w_is_tuple_of T H, w_sure T H, w_sure_between T H, w_is_kind_in T H, w_sure_kind T H, w_choices T H, w_side_part T H, w_with_in T H, w_to_in T H, w_all_with_in T H, w_how_many_with T H, w_how_many_to T H, w_how_many_all_with T H, w_how_many_all_to T H, w_letters_part T H, w_law_same T H, w_law_heard T H, w_law T H⟩
end
theorem all_mk {l : PySem.W.OpenLaw} {w : World} {K : PySem.W.Frag} {h : Heap} {mg : Str → Option Value} {fw f0 f1 f2 f3 f4 f5 f6 f7 f8 f9 f10 f11 f12 f13 f14 f15 f16 f17 f18 f19 f20 f21 C0 : Addr} (X : K.In h) (G : h.Ns mainGlobals mg) (hfw : mg "law" = some (.ref fw))
    {od0 an0 od1 an1 od2 an2 od3 an3 od4 an4 od5 an5 od6 an6 od7 an7 od8 an8 od9 an9 od10 an10 od11 an11 od12 an12 od13 an13 od14 an14 od15 an15 od16 an16 od17 an17 od18 an18 od19 an19 od20 an20 od21 an21 : Option Addr} {sl0 sl1 sl2 sl3 sl4 sl5 sl6 sl7 sl8 sl9 sl10 sl11 sl12 sl13 sl14 sl15 sl16 sl17 sl18 sl19 sl20 sl21 : Array (Option Value)} {oc0 kV0 dc0 pm0 cd0 cT0 oc1 kV1 dc1 pm1 cd1 cT1 oc2 kV2 dc2 pm2 cd2 cT2 oc3 kV3 dc3 pm3 cd3 cT3 oc4 kV4 dc4 pm4 cd4 cT4 oc5 kV5 dc5 pm5 cd5 cT5 oc6 kV6 dc6 pm6 cd6 cT6 oc7 kV7 dc7 pm7 cd7 cT7 oc8 kV8 dc8 pm8 cd8 cT8 oc9 kV9 dc9 pm9 cd9 cT9 oc10 kV10 dc10 pm10 cd10 cT10 oc11 kV11 dc11 pm11 cd11 cT11 oc12 kV12 dc12 pm12 cd12 cT12 oc13 kV13 dc13 pm13 cd13 cT13 oc14 kV14 dc14 pm14 cd14 cT14 oc15 kV15 dc15 pm15 cd15 cT15 oc16 kV16 dc16 pm16 cd16 cT16 oc17 kV17 dc17 pm17 cd17 cT17 oc18 kV18 dc18 pm18 cd18 cT18 oc19 kV19 dc19 pm19 cd19 cT19 oc20 kV20 dc20 pm20 cd20 cT20 oc21 kV21 dc21 pm21 cd21 cT21 : Value} {tk1 tk2 tk3 : Tok}
    (m_ValueError : PySem.W.nsIn K mainGlobals "ValueError" = some none)
    (m_abs : PySem.W.nsIn K mainGlobals "abs" = some none)
    (m_all : PySem.W.nsIn K mainGlobals "all" = some none)
    (m_bool : PySem.W.nsIn K mainGlobals "bool" = some none)
    (m_int : PySem.W.nsIn K mainGlobals "int" = some none)
    (m_isinstance : PySem.W.nsIn K mainGlobals "isinstance" = some none)
    (m_len : PySem.W.nsIn K mainGlobals "len" = some none)
    (m_list : PySem.W.nsIn K mainGlobals "list" = some none)
    (m_max : PySem.W.nsIn K mainGlobals "max" = some none)
    (m_range : PySem.W.nsIn K mainGlobals "range" = some none)
    (m_str : PySem.W.nsIn K mainGlobals "str" = some none)
    (m_sum : PySem.W.nsIn K mainGlobals "sum" = some none)
    (m_tuple : PySem.W.nsIn K mainGlobals "tuple" = some none)
    (m_zip : PySem.W.nsIn K mainGlobals "zip" = some none)
    (g_APART : PySem.W.nsIn K mainGlobals "APART" = some (some (.int 2 tk1)))
    (g_MOST_LETTERS : PySem.W.nsIn K mainGlobals "MOST_LETTERS" = some (some (.int 6 tk2)))
    (g_MOST_ALL : PySem.W.nsIn K mainGlobals "MOST_ALL" = some (some (.int 5 tk3)))
    (a0 : PySem.W.nsIn K mainGlobals "tupled" = some (some (.ref f0)))
    (l0 : K.lookup f0 = some ⟨oc0, od0, .func (PySem.W.fnOf "tupled" "tupled" (defArgs st_tupled) (defBody st_tupled) (defScope st_tupled) .none kV0 dc0 pm0 an0 cd0 cT0), sl0⟩)
    (c0 : PySem.W.codeIn K cd0 "tupled" = true)
    (k0 : PySem.W.keepIn K (.ref f0) = true)
    (a1 : PySem.W.nsIn K mainGlobals "is_number" = some (some (.ref f1)))
    (l1 : K.lookup f1 = some ⟨oc1, od1, .func (PySem.W.fnOf "is_number" "is_number" (defArgs st_is_number) (defBody st_is_number) (defScope st_is_number) .none kV1 dc1 pm1 an1 cd1 cT1), sl1⟩)
    (c1 : PySem.W.codeIn K cd1 "is_number" = true)
    (k1 : PySem.W.keepIn K (.ref f1) = true)
    (a2 : PySem.W.nsIn K mainGlobals "is_count" = some (some (.ref f2)))
    (l2 : K.lookup f2 = some ⟨oc2, od2, .func (PySem.W.fnOf "is_count" "is_count" (defArgs st_is_count) (defBody st_is_count) (defScope st_is_count) .none kV2 dc2 pm2 an2 cd2 cT2), sl2⟩)
    (c2 : PySem.W.codeIn K cd2 "is_count" = true)
    (k2 : PySem.W.keepIn K (.ref f2) = true)
    (a3 : PySem.W.nsIn K mainGlobals "is_between" = some (some (.ref f3)))
    (l3 : K.lookup f3 = some ⟨oc3, od3, .func (PySem.W.fnOf "is_between" "is_between" (defArgs st_is_between) (defBody st_is_between) (defScope st_is_between) .none kV3 dc3 pm3 an3 cd3 cT3), sl3⟩)
    (c3 : PySem.W.codeIn K cd3 "is_between" = true)
    (k3 : PySem.W.keepIn K (.ref f3) = true)
    (a4 : PySem.W.nsIn K mainGlobals "is_tuple_of" = some (some (.ref f4)))
    (l4 : K.lookup f4 = some ⟨oc4, od4, .func (PySem.W.fnOf "is_tuple_of" "is_tuple_of" (defArgs st_is_tuple_of) (defBody st_is_tuple_of) (defScope st_is_tuple_of) .none kV4 dc4 pm4 an4 cd4 cT4), sl4⟩)
    (c4 : PySem.W.codeIn K cd4 "is_tuple_of" = true)
    (k4 : PySem.W.keepIn K (.ref f4) = true)
    (a5 : PySem.W.nsIn K mainGlobals "sure" = some (some (.ref f5)))
    (l5 : K.lookup f5 = some ⟨oc5, od5, .func (PySem.W.fnOf "sure" "sure" (defArgs st_sure) (defBody st_sure) (defScope st_sure) .none kV5 dc5 pm5 an5 cd5 cT5), sl5⟩)
    (c5 : PySem.W.codeIn K cd5 "sure" = true)
    (k5 : PySem.W.keepIn K (.ref f5) = true)
    (a6 : PySem.W.nsIn K mainGlobals "sure_between" = some (some (.ref f6)))
    (l6 : K.lookup f6 = some ⟨oc6, od6, .func (PySem.W.fnOf "sure_between" "sure_between" (defArgs st_sure_between) (defBody st_sure_between) (defScope st_sure_between) .none kV6 dc6 pm6 an6 cd6 cT6), sl6⟩)
    (c6 : PySem.W.codeIn K cd6 "sure_between" = true)
    (k6 : PySem.W.keepIn K (.ref f6) = true)
    (a7 : PySem.W.nsIn K mainGlobals "is_kind_in" = some (some (.ref f7)))
    (l7 : K.lookup f7 = some ⟨oc7, od7, .func (PySem.W.fnOf "is_kind_in" "is_kind_in" (defArgs st_is_kind_in) (defBody st_is_kind_in) (defScope st_is_kind_in) .none kV7 dc7 pm7 an7 cd7 cT7), sl7⟩)
    (c7 : PySem.W.codeIn K cd7 "is_kind_in" = true)
    (k7 : PySem.W.keepIn K (.ref f7) = true)
    (a8 : PySem.W.nsIn K mainGlobals "sure_kind" = some (some (.ref f8)))
    (l8 : K.lookup f8 = some ⟨oc8, od8, .func (PySem.W.fnOf "sure_kind" "sure_kind" (defArgs st_sure_kind) (defBody st_sure_kind) (defScope st_sure_kind) .none kV8 dc8 pm8 an8 cd8 cT8), sl8⟩)
    (c8 : PySem.W.codeIn K cd8 "sure_kind" = true)
    (k8 : PySem.W.keepIn K (.ref f8) = true)
    (a9 : PySem.W.nsIn K mainGlobals "choices" = some (some (.ref f9)))
    (l9 : K.lookup f9 = some ⟨oc9, od9, .func (PySem.W.fnOf "choices" "choices" (defArgs st_choices) (defBody st_choices) (defScope st_choices) .none kV9 dc9 pm9 an9 cd9 cT9), sl9⟩)
    (c9 : PySem.W.codeIn K cd9 "choices" = true)
    (k9 : PySem.W.keepIn K (.ref f9) = true)
    (a10 : PySem.W.nsIn K mainGlobals "side_part" = some (some (.ref f10)))
    (l10 : K.lookup f10 = some ⟨oc10, od10, .func (PySem.W.fnOf "side_part" "side_part" (defArgs st_side_part) (defBody st_side_part) (defScope st_side_part) .none kV10 dc10 pm10 an10 cd10 cT10), sl10⟩)
    (c10 : PySem.W.codeIn K cd10 "side_part" = true)
    (k10 : PySem.W.keepIn K (.ref f10) = true)
    (a11 : PySem.W.nsIn K mainGlobals "with_in" = some (some (.ref f11)))
    (l11 : K.lookup f11 = some ⟨oc11, od11, .func (PySem.W.fnOf "with_in" "with_in" (defArgs st_with_in) (defBody st_with_in) (defScope st_with_in) .none kV11 dc11 pm11 an11 cd11 cT11), sl11⟩)
    (c11 : PySem.W.codeIn K cd11 "with_in" = true)
    (k11 : PySem.W.keepIn K (.ref f11) = true)
    (a12 : PySem.W.nsIn K mainGlobals "to_in" = some (some (.ref f12)))
    (l12 : K.lookup f12 = some ⟨oc12, od12, .func (PySem.W.fnOf "to_in" "to_in" (defArgs st_to_in) (defBody st_to_in) (defScope st_to_in) .none kV12 dc12 pm12 an12 cd12 cT12), sl12⟩)
    (c12 : PySem.W.codeIn K cd12 "to_in" = true)
    (k12 : PySem.W.keepIn K (.ref f12) = true)
    (a13 : PySem.W.nsIn K mainGlobals "all_with_in" = some (some (.ref f13)))
    (l13 : K.lookup f13 = some ⟨oc13, od13, .func (PySem.W.fnOf "all_with_in" "all_with_in" (defArgs st_all_with_in) (defBody st_all_with_in) (defScope st_all_with_in) .none kV13 dc13 pm13 an13 cd13 cT13), sl13⟩)
    (c13 : PySem.W.codeIn K cd13 "all_with_in" = true)
    (k13 : PySem.W.keepIn K (.ref f13) = true)
    (a14 : PySem.W.nsIn K mainGlobals "how_many_with" = some (some (.ref f14)))
    (l14 : K.lookup f14 = some ⟨oc14, od14, .func (PySem.W.fnOf "how_many_with" "how_many_with" (defArgs st_how_many_with) (defBody st_how_many_with) (defScope st_how_many_with) .none kV14 dc14 pm14 an14 cd14 cT14), sl14⟩)
    (c14 : PySem.W.codeIn K cd14 "how_many_with" = true)
    (k14 : PySem.W.keepIn K (.ref f14) = true)
    (a15 : PySem.W.nsIn K mainGlobals "how_many_to" = some (some (.ref f15)))
    (l15 : K.lookup f15 = some ⟨oc15, od15, .func (PySem.W.fnOf "how_many_to" "how_many_to" (defArgs st_how_many_to) (defBody st_how_many_to) (defScope st_how_many_to) .none kV15 dc15 pm15 an15 cd15 cT15), sl15⟩)
    (c15 : PySem.W.codeIn K cd15 "how_many_to" = true)
    (k15 : PySem.W.keepIn K (.ref f15) = true)
    (a16 : PySem.W.nsIn K mainGlobals "how_many_all_with" = some (some (.ref f16)))
    (l16 : K.lookup f16 = some ⟨oc16, od16, .func (PySem.W.fnOf "how_many_all_with" "how_many_all_with" (defArgs st_how_many_all_with) (defBody st_how_many_all_with) (defScope st_how_many_all_with) .none kV16 dc16 pm16 an16 cd16 cT16), sl16⟩)
    (c16 : PySem.W.codeIn K cd16 "how_many_all_with" = true)
    (k16 : PySem.W.keepIn K (.ref f16) = true)
    (a17 : PySem.W.nsIn K mainGlobals "how_many_all_to" = some (some (.ref f17)))
    (l17 : K.lookup f17 = some ⟨oc17, od17, .func (PySem.W.fnOf "how_many_all_to" "how_many_all_to" (defArgs st_how_many_all_to) (defBody st_how_many_all_to) (defScope st_how_many_all_to) .none kV17 dc17 pm17 an17 cd17 cT17), sl17⟩)
    (c17 : PySem.W.codeIn K cd17 "how_many_all_to" = true)
    (k17 : PySem.W.keepIn K (.ref f17) = true)
    (a18 : PySem.W.nsIn K mainGlobals "letters_part" = some (some (.ref f18)))
    (l18 : K.lookup f18 = some ⟨oc18, od18, .func (PySem.W.fnOf "letters_part" "letters_part" (defArgs st_letters_part) (defBody st_letters_part) (defScope st_letters_part) .none kV18 dc18 pm18 an18 cd18 cT18), sl18⟩)
    (c18 : PySem.W.codeIn K cd18 "letters_part" = true)
    (k18 : PySem.W.keepIn K (.ref f18) = true)
    (a19 : PySem.W.nsIn K mainGlobals "_law_same" = some (some (.ref f19)))
    (l19 : K.lookup f19 = some ⟨oc19, od19, .func (PySem.W.fnOf "_law_same" "_law_same" (defArgs st_law_same) (defBody st_law_same) (defScope st_law_same) .none kV19 dc19 pm19 an19 cd19 cT19), sl19⟩)
    (c19 : PySem.W.codeIn K cd19 "_law_same" = true)
    (k19 : PySem.W.keepIn K (.ref f19) = true)
    (a20 : PySem.W.nsIn K mainGlobals "_law_heard" = some (some (.ref f20)))
    (l20 : K.lookup f20 = some ⟨oc20, od20, .func (PySem.W.fnOf "_law_heard" "_law_heard" (defArgs st_law_heard) (defBody st_law_heard) (defScope st_law_heard) .none kV20 dc20 pm20 an20 cd20 cT20), sl20⟩)
    (c20 : PySem.W.codeIn K cd20 "_law_heard" = true)
    (k20 : PySem.W.keepIn K (.ref f20) = true)
    (a21 : PySem.W.nsIn K mainGlobals "law" = some (some (.ref f21)))
    (l21 : K.lookup f21 = some ⟨oc21, od21, .func (PySem.W.fnOf "law" "law" (defArgs st_law) (defBody st_law) (defScope st_law) .none kV21 dc21 pm21 an21 cd21 cT21), sl21⟩)
    (c21 : PySem.W.codeIn K cd21 "law" = true)
    (k21 : PySem.W.keepIn K (.ref f21) = true)
    (ac0 : PySem.W.nsIn K mainGlobals "Unfit" = some (some (.ref C0)))
    (ex0 : PySem.W.excIn K C0 [.type "ValueError", .type "Exception", .type "BaseException", .type "object"] "ValueError.__new__" = true)
    (kc0 : PySem.W.keepIn K (.ref C0) = true)
    (sb0 : PySem.W.subIn K (.ref C0) (.type "BaseException") = some true)
    (ty0 : PySem.W.typeIn K (.ref C0) = some (.type "type"))
    (q0_0 : PySem.W.subIn K (.ref C0) (.ref C0) = some true)
    (z0d : PySem.W.hasDictIn K C0 = true)
    (z0g : PySem.W.findIn K (.ref C0) "__getattribute__" = some (some (.builtin "BaseException.__getattribute__")))
    (z0k : PySem.W.findIn K (.ref C0) "__getattr__" = some none)
    (z0a : PySem.W.findIn K (.ref C0) "__class__" = some (some (.builtin "object.__class__")))
    (z0m : PySem.W.mroIn K C0 (.type "object") = some true)
    (zn : PySem.W.specialIn K (.builtin "object.__class__") "__get__" = some (some (.builtin "getset_descriptor.__get__")))
    (zt : PySem.W.takesIn K (.builtin "object.__class__") = some true)
    (y0_ValueError : PySem.W.subIn K (.ref C0) (.type "ValueError") = some true)
    : ∃ fd : FuncData, (∀ (s : Shared) (v : Value), BindsTo s fd ⟨[v], []⟩ [("script", v)]) ∧ ∀ base : Heap, K.In base → base.Ns mainGlobals mg → FnOk l.prog w K mg base (L2.CX l.prog w) 60 fw fd ["script"] spTrue := by
  have e := hfw.symm.trans (PySem.W.mg_of X G a21)
  cases e
  have T : Tx K mg C0 := ⟨PySem.W.mg_none_of X G m_ValueError,
    PySem.W.mg_none_of X G m_abs,
    PySem.W.mg_none_of X G m_all,
    PySem.W.mg_none_of X G m_bool,
    PySem.W.mg_none_of X G m_int,
    PySem.W.mg_none_of X G m_isinstance,
    PySem.W.mg_none_of X G m_len,
    PySem.W.mg_none_of X G m_list,
    PySem.W.mg_none_of X G m_max,
    PySem.W.mg_none_of X G m_range,
    PySem.W.mg_none_of X G m_str,
    PySem.W.mg_none_of X G m_sum,
    PySem.W.mg_none_of X G m_tuple,
    PySem.W.mg_none_of X G m_zip,
    ⟨_, .int 2, PySem.W.mg_of X G g_APART, ⟨_, rfl⟩, fun F H => .int _⟩,
    ⟨_, .int 6, PySem.W.mg_of X G g_MOST_LETTERS, ⟨_, rfl⟩, fun F H => .int _⟩,
    ⟨_, .int 5, PySem.W.mg_of X G g_MOST_ALL, ⟨_, rfl⟩, fun F H => .int _⟩,
    ⟨_, _, fun_mk (st := st_tupled) l0 c0 k0, PySem.W.mg_of X G a0, (fun_mk (st := st_tupled) l0 c0 k0).binds (ps := P_tupled) fun _ _ _ _ _ _ us hl => match us, hl with | [_], _ => rfl⟩,
    ⟨_, _, fun_mk (st := st_is_number) l1 c1 k1, PySem.W.mg_of X G a1, (fun_mk (st := st_is_number) l1 c1 k1).binds (ps := P_is_number) fun _ _ _ _ _ _ us hl => match us, hl with | [_], _ => rfl⟩,
    ⟨_, _, fun_mk (st := st_is_count) l2 c2 k2, PySem.W.mg_of X G a2, (fun_mk (st := st_is_count) l2 c2 k2).binds (ps := P_is_count) fun _ _ _ _ _ _ us hl => match us, hl with | [_], _ => rfl⟩,
    ⟨_, _, fun_mk (st := st_is_between) l3 c3 k3, PySem.W.mg_of X G a3, (fun_mk (st := st_is_between) l3 c3 k3).binds (ps := P_is_between) fun _ _ _ _ _ _ us hl => match us, hl with | [_, _, _], _ => rfl⟩,
    ⟨_, _, fun_mk (st := st_is_tuple_of) l4 c4 k4, PySem.W.mg_of X G a4, (fun_mk (st := st_is_tuple_of) l4 c4 k4).binds (ps := P_is_tuple_of) fun _ _ _ _ _ _ us hl => match us, hl with | [_, _], _ => rfl⟩,
    ⟨_, _, fun_mk (st := st_sure) l5 c5 k5, PySem.W.mg_of X G a5, (fun_mk (st := st_sure) l5 c5 k5).binds (ps := P_sure) fun _ _ _ _ _ _ us hl => match us, hl with | [_], _ => rfl⟩,
    ⟨_, _, fun_mk (st := st_sure_between) l6 c6 k6, PySem.W.mg_of X G a6, (fun_mk (st := st_sure_between) l6 c6 k6).binds (ps := P_sure_between) fun _ _ _ _ _ _ us hl => match us, hl with | [_, _, _], _ => rfl⟩,
    ⟨_, _, fun_mk (st := st_is_kind_in) l7 c7 k7, PySem.W.mg_of X G a7, (fun_mk (st := st_is_kind_in) l7 c7 k7).binds (ps := P_is_kind_in) fun _ _ _ _ _ _ us hl => match us, hl with | [_], _ => rfl⟩,
    ⟨_, _, fun_mk (st := st_sure_kind) l8 c8 k8, PySem.W.mg_of X G a8, (fun_mk (st := st_sure_kind) l8 c8 k8).binds (ps := P_sure_kind) fun _ _ _ _ _ _ us hl => match us, hl with | [_], _ => rfl⟩,
    ⟨_, _, fun_mk (st := st_choices) l9 c9 k9, PySem.W.mg_of X G a9, (fun_mk (st := st_choices) l9 c9 k9).binds (ps := P_choices) fun _ _ _ _ _ _ us hl => match us, hl with | [_, _], _ => rfl⟩,
    ⟨_, _, fun_mk (st := st_side_part) l10 c10 k10, PySem.W.mg_of X G a10, (fun_mk (st := st_side_part) l10 c10 k10).binds (ps := P_side_part) fun _ _ _ _ _ _ us hl => match us, hl with | [_, _, _], _ => rfl⟩,
    ⟨_, _, fun_mk (st := st_with_in) l11 c11 k11, PySem.W.mg_of X G a11, (fun_mk (st := st_with_in) l11 c11 k11).binds (ps := P_with_in) fun _ _ _ _ _ _ us hl => match us, hl with | [_, _], _ => rfl⟩,
    ⟨_, _, fun_mk (st := st_to_in) l12 c12 k12, PySem.W.mg_of X G a12, (fun_mk (st := st_to_in) l12 c12 k12).binds (ps := P_to_in) fun _ _ _ _ _ _ us hl => match us, hl with | [_, _], _ => rfl⟩,
    ⟨_, _, fun_mk (st := st_all_with_in) l13 c13 k13, PySem.W.mg_of X G a13, (fun_mk (st := st_all_with_in) l13 c13 k13).binds (ps := P_all_with_in) fun _ _ _ _ _ _ us hl => match us, hl with | [_], _ => rfl⟩,
    ⟨_, _, fun_mk (st := st_how_many_with) l14 c14 k14, PySem.W.mg_of X G a14, (fun_mk (st := st_how_many_with) l14 c14 k14).binds (ps := P_how_many_with) fun _ _ _ _ _ _ us hl => match us, hl with | [_, _], _ => rfl⟩,
    ⟨_, _, fun_mk (st := st_how_many_to) l15 c15 k15, PySem.W.mg_of X G a15, (fun_mk (st := st_how_many_to) l15 c15 k15).binds (ps := P_how_many_to) fun _ _ _ _ _ _ us hl => match us, hl with | [_, _], _ => rfl⟩,
    ⟨_, _, fun_mk (st := st_how_many_all_with) l16 c16 k16, PySem.W.mg_of X G a16, (fun_mk (st := st_how_many_all_with) l16 c16 k16).binds (ps := P_how_many_all_with) fun _ _ _ _ _ _ us hl => match us, hl with | [_], _ => rfl⟩,
    ⟨_, _, fun_mk (st := st_how_many_all_to) l17 c17 k17, PySem.W.mg_of X G a17, (fun_mk (st := st_how_many_all_to) l17 c17 k17).binds (ps := P_how_many_all_to) fun _ _ _ _ _ _ us hl => match us, hl with | [_], _ => rfl⟩,
    ⟨_, _, fun_mk (st := st_letters_part) l18 c18 k18, PySem.W.mg_of X G a18, (fun_mk (st := st_letters_part) l18 c18 k18).binds (ps := P_letters_part) fun _ _ _ _ _ _ us hl => match us, hl with | [_, _], _ => rfl⟩,
    ⟨_, _, fun_mk (st := st_law_same) l19 c19 k19, PySem.W.mg_of X G a19, (fun_mk (st := st_law_same) l19 c19 k19).binds (ps := P_law_same) fun _ _ _ _ _ _ us hl => match us, hl with | [_, _], _ => rfl⟩,
    ⟨_, _, fun_mk (st := st_law_heard) l20 c20 k20, PySem.W.mg_of X G a20, (fun_mk (st := st_law_heard) l20 c20 k20).binds (ps := P_law_heard) fun _ _ _ _ _ _ us hl => match us, hl with | [_, _, _], _ => rfl⟩,
    ⟨_, _, fun_mk (st := st_law) l21 c21 k21, PySem.W.mg_of X G a21, (fun_mk (st := st_law) l21 c21 k21).binds (ps := P_law) fun _ _ _ _ _ _ us hl => match us, hl with | [_], _ => rfl⟩,
    ⟨C0, _, _, _, _, rfl, PySem.W.mg_of X G ac0, PySem.F.excBase_ValueError, ex0, kc0, sb0, ty0⟩,
    PySem.W.mg_of X G ac0,
    ct1 (p := fun c D => PySem.W.exmOne K (.ref D) (.ref C0) = some (memN c [0])) (PySem.W.exm_ref sb0 z0d ty0 q0_0),
    ct1 (p := fun c D => ExcC K D ∧ PySem.W.kitOne K (.ref D) (.type "ValueError") = some (memN c [0])) ⟨⟨z0g, z0k, sb0, z0d, z0a, zn, zt, z0m⟩, kit_err (by decide +kernel) y0_ValueError⟩⟩
  refine ⟨_, fun s v => .of_eq (show bindArgs (PySem.W.fnOf "law" "law" (defArgs st_law) (defBody st_law) (defScope st_law) .none kV21 dc21 pm21 an21 cd21 cT21) _ = _ from rfl), fun base _ _ => ?_⟩
  have F := (all (P := l.prog) (w := w) (base := base) T 60).f_law
  obtain ⟨a, fd, Fn, ok, hm⟩ := law_of F the_run
  rw [PySem.W.mg_of X G a21] at hm
  cases hm
  obtain ⟨oc, od, kV, doc, pm, an, cdv, ctv, osl, e1, lk, _⟩ := Fn.ex
  rw [l21] at lk
  cases lk
  exact ok
theorem walk {l : PySem.W.OpenLaw} {q : Program} {loose : List Str} {XP : (Str → Option Value) → Heap → Prop} {YP : World → Heap → Prop} {d : DefRec} {K : Params → PySem.W.Frag} (hn : l.most = some 63) (hdf : d.params.defaults = [])
    (hY : ∀ (w : World) (h : Heap), YP w h → (K w.params).In h)
    (F : ∀ (w : World) (mg : Str → Option Value) (fw : Addr) (h : Heap), (K w.params).In h → h.Ns mainGlobals mg → mg d.name = some (.ref fw) →
      ∃ fd : FuncData, (∀ (s : Shared) (u : Value), BindsTo s fd ⟨[u], []⟩ [("script", u)]) ∧ ∀ base : Heap, (K w.params).In base → base.Ns mainGlobals mg → FnOk l.prog w (K w.params) mg base (L2.CX l.prog w) 60 fw fd ["script"] spTrue) :
    PySem.W.WalkO q loose XP YP l.row.toRowW d [] (fun f vs => PySem.call f vs) :=
  L2.walk_of (n := 63) (k := 60) (x := "script") (CX := fun w => L2.CX l.prog w) (sp := fun _ => spTrue) hn (by decide) hdf ⟨rfl, by decide, by decide⟩ hY F (fun _ _ a _ _ _ _ => ⟨a, rfl, fun _ => rfl⟩) fun _ _ _ _ _ z => by
    obtain ⟨_, _, _, _, _, _, _, _, _, _, _, _, f⟩ := z
    exact f.elim
end Lw
open PySem PySem.W PyProof.Rows in
set_option maxRecDepth 100000 in
set_option maxHeartbeats 0 in
theorem PySem.Challenge.cw_stretchesonce_k26_counts_by_hand_and_ref_holds : PySem.Challenge.rw_stretchesonce_k26_counts_by_hand_and_ref.Holds := by
  w_on; o_law; k_head; (case hw => w_witness2)
  k_fill
  refine Lw.walk (l := PySem.Challenge.rw_stretchesonce_k26_counts_by_hand_and_ref) rfl rfl (fun w h Y => PySem.W.kIn_of Y) ?F
  case F =>
    intro w mg fw h KX G hmg
    refine' Lw.all_mk KX G hmg ?m_ValueError ?m_abs ?m_all ?m_bool ?m_int ?m_isinstance ?m_len ?m_list ?m_max ?m_range ?m_str ?m_sum ?m_tuple ?m_zip ?g_APART ?g_MOST_LETTERS ?g_MOST_ALL ?a0 ?l0 ?c0 ?k0 ?a1 ?l1 ?c1 ?k1 ?a2 ?l2 ?c2 ?k2 ?a3 ?l3 ?c3 ?k3 ?a4 ?l4 ?c4 ?k4 ?a5 ?l5 ?c5 ?k5 ?a6 ?l6 ?c6 ?k6 ?a7 ?l7 ?c7 ?k7 ?a8 ?l8 ?c8 ?k8 ?a9 ?l9 ?c9 ?k9 ?a10 ?l10 ?c10 ?k10 ?a11 ?l11 ?c11 ?k11 ?a12 ?l12 ?c12 ?k12 ?a13 ?l13 ?c13 ?k13 ?a14 ?l14 ?c14 ?k14 ?a15 ?l15 ?c15 ?k15 ?a16 ?l16 ?c16 ?k16 ?a17 ?l17 ?c17 ?k17 ?a18 ?l18 ?c18 ?k18 ?a19 ?l19 ?c19 ?k19 ?a20 ?l20 ?c20 ?k20 ?a21 ?l21 ?c21 ?k21 ?ac0 ?ex0 ?kc0 ?sb0 ?ty0 ?q0_0 ?z0d ?z0g ?z0k ?z0a ?z0m ?zn ?zt ?y0_ValueError
    (case m_ValueError => k_is)
    (case m_abs => k_is)
    (case m_all => k_is)
    (case m_bool => k_is)
    (case m_int => k_is)
    (case m_isinstance => k_is)
    (case m_len => k_is)
    (case m_list => k_is)
    (case m_max => k_is)
    (case m_range => k_is)
    (case m_str => k_is)
    (case m_sum => k_is)
    (case m_tuple => k_is)
    (case m_zip => k_is)
    (case g_APART => k_is)
    (case g_MOST_LETTERS => k_is)
    (case g_MOST_ALL => k_is)
    (case a0 => k_is)
    (case l0 => k_is)
    (case c0 => k_is)
    (case k0 => k_is)
    (case a1 => k_is)
    (case l1 => k_is)
    (case c1 => k_is)
    (case k1 => k_is)
    (case a2 => k_is)
    (case l2 => k_is)
    (case c2 => k_is)
    (case k2 => k_is)
    (case a3 => k_is)
    (case l3 => k_is)
    (case c3 => k_is)
    (case k3 => k_is)
    (case a4 => k_is)
    (case l4 => k_is)
    (case c4 => k_is)
    (case k4 => k_is)
    (case a5 => k_is)
    (case l5 => k_is)
    (case c5 => k_is)
    (case k5 => k_is)
    (case a6 => k_is)
    (case l6 => k_is)
    (case c6 => k_is)
    (case k6 => k_is)
    (case a7 => k_is)
    (case l7 => k_is)
    (case c7 => k_is)
    (case k7 => k_is)
    (case a8 => k_is)
    (case l8 => k_is)
    (case c8 => k_is)
    (case k8 => k_is)
    (case a9 => k_is)
    (case l9 => k_is)
    (case c9 => k_is)
    (case k9 => k_is)
    (case a10 => k_is)
    (case l10 => k_is)
    (case c10 => k_is)
    (case k10 => k_is)
    (case a11 => k_is)
    (case l11 => k_is)
    (case c11 => k_is)
    (case k11 => k_is)
    (case a12 => k_is)
    (case l12 => k_is)
    (case c12 => k_is)
    (case k12 => k_is)
    (case a13 => k_is)
    (case l13 => k_is)
    (case c13 => k_is)
    (case k13 => k_is)
    (case a14 => k_is)
    (case l14 => k_is)
    (case c14 => k_is)
    (case k14 => k_is)
    (case a15 => k_is)
    (case l15 => k_is)
    (case c15 => k_is)
    (case k15 => k_is)
    (case a16 => k_is)
    (case l16 => k_is)
    (case c16 => k_is)
    (case k16 => k_is)
    (case a17 => k_is)
    (case l17 => k_is)
    (case c17 => k_is)
    (case k17 => k_is)
    (case a18 => k_is)
    (case l18 => k_is)
    (case c18 => k_is)
    (case k18 => k_is)
    (case a19 => k_is)
    (case l19 => k_is)
    (case c19 => k_is)
    (case k19 => k_is)
    (case a20 => k_is)
    (case l20 => k_is)
    (case c20 => k_is)
    (case k20 => k_is)
    (case a21 => k_is)
    (case l21 => k_is)
    (case c21 => k_is)
    (case k21 => k_is)
    (case ac0 => k_is)
    (case ex0 => k_exc)
    (case kc0 => k_is)
    (case sb0 => k_is)
    (case ty0 => k_is)
    (case q0_0 => first | rfl | k_is)
    (case z0d => k_is)
    (case z0g => k_is)
    (case z0k => k_is)
    (case z0a => k_is)
    (case z0m => k_is)
    (case zn => k_is)
    (case zt => k_is)
    (case y0_ValueError => k_is)
#print axioms PySem.Challenge.cw_stretchesonce_k26_counts_by_hand_and_ref_holds


