import PyProof.Rows.All
import Wide.All
import OpenK.AllK
import Wide.FinOn
import KE.KStateDown
import HandS.Base
import HandS.Call
import HandS.List
import HandS.Comp
import HandS.Ends
import HandS.Dict
import HandS.Iter
import HandS.Text
import HandS.Conv
import HandS.Flow
import HandS.TupAny
import HandS.TupMul
import HandS.Wide
import HandS.IsInst
import HandS.More
import HandS.Words
import HandS.Defaults
import HandS.NoneIn
import HandS.WordsDict
import HandS.Head0
import HandS.Head1
import HandS.Head2
import HandS.HeadEnd
import HandS.HeadHook1
import HandS.HeadHook2
import HandS.HeadHook3
import HandS.HeadHook4
import PySem.Challenge.RW_capkern_k60_work_of_several_systems_by_t
set_option Elab.async false
set_option linter.all false
set_option maxRecDepth 100000
set_option maxHeartbeats 4000000
/-! PyA: plain data, a store of mutable lists and dicts, an interpreter of a small language over them -/
namespace PyI
open PySem
abbrev Key := L2.Key

inductive D where
  | non | bl (b : Bool) | int (i : Int) | str (x : Str)
  | tup (xs : List D) | lst (xs : List D) | dct (ks : List Key) (vs : List D)
  | ref (n : Nat) | scr (xs : List Int)

mutual
def D.beq : D → D → Bool
  | .non, .non => true
  | .bl a, .bl b => a == b
  | .int a, .int b => a == b
  | .str a, .str b => a == b
  | .tup a, .tup b => D.beqs a b
  | .lst a, .lst b => D.beqs a b
  | .dct a x, .dct b y => decide (a = b) && D.beqs x y
  | .ref a, .ref b => a == b
  | .scr a, .scr b => a == b
  | _, _ => false
def D.beqs : List D → List D → Bool
  | [], [] => true
  | a :: as, b :: bs => D.beq a b && D.beqs as bs
  | _, _ => false
end
mutual
theorem D.beq_eq : ∀ a b : D, D.beq a b = true → a = b
  | .non, b, h => by cases b <;> simp_all [D.beq]
  | .bl a, b, h => by cases b <;> simp_all [D.beq]
  | .int a, b, h => by cases b <;> simp_all [D.beq]
  | .str a, b, h => by cases b <;> simp_all [D.beq]
  | .tup a, b, h => by
    cases b <;> simp only [D.beq, Bool.false_eq_true] at h
    rw [D.beqs_eq _ _ h]
  | .lst a, b, h => by
    cases b <;> simp only [D.beq, Bool.false_eq_true] at h
    rw [D.beqs_eq _ _ h]
  | .dct a x, b, h => by
    cases b <;> simp only [D.beq, Bool.false_eq_true, Bool.and_eq_true, decide_eq_true_eq] at h
    rw [h.1, D.beqs_eq _ _ h.2]
  | .ref a, b, h => by cases b <;> simp_all [D.beq]
  | .scr a, b, h => by cases b <;> simp_all [D.beq]
theorem D.beqs_eq : ∀ a b : List D, D.beqs a b = true → a = b
  | [], b, h => by cases b <;> simp_all [D.beqs]
  | a :: as, b, h => by
    cases b with
    | nil => simp [D.beqs] at h
    | cons b bs =>
      simp only [D.beqs, Bool.and_eq_true] at h
      rw [D.beq_eq _ _ h.1, D.beqs_eq _ _ h.2]
end
mutual
theorem D.beq_refl : ∀ a : D, D.beq a a = true
  | .non => rfl
  | .bl a => by simp [D.beq]
  | .int a => by simp [D.beq]
  | .str a => by simp [D.beq]
  | .tup a => by simp [D.beq, D.beqs_refl a]
  | .lst a => by simp [D.beq, D.beqs_refl a]
  | .dct a x => by simp [D.beq, D.beqs_refl x]
  | .ref a => by simp [D.beq]
  | .scr a => by simp [D.beq]
theorem D.beqs_refl : ∀ a : List D, D.beqs a a = true
  | [] => rfl
  | a :: as => by simp [D.beqs, D.beq_refl a, D.beqs_refl as]
end
instance : DecidableEq D := fun a b => decidable_of_iff (D.beq a b = true) ⟨D.beq_eq a b, fun h => h ▸ D.beq_refl a⟩
instance : Inhabited D := ⟨.non⟩

abbrev Store := List D
abbrev Env := List (Option D)
/-- how a step ends: a value and the store; or no word -/
inductive Rs (α : Type) where
  | ok (a : α) (M : Store) | no
/-- a value; or a new list or dict that nothing else holds -/
inductive FV where
  | v (d : D) | f (d : D)
def FV.d : FV → D
  | .v d => d
  | .f d => d
def Rs.bd {α β : Type} (r : Rs α) (k : α → Store → Rs β) : Rs β := match r with
  | .ok a M => k a M
  | .no => .no
def Rs.bdd {β : Type} (r : Rs FV) (k : D → Store → Rs β) : Rs β := match r with
  | .ok a M => k a.d M
  | .no => .no
theorem bd_ok {α β : Type} (a : α) (M : Store) (k : α → Store → Rs β) : (Rs.ok a M).bd k = k a M := rfl
theorem bdd_ok {β : Type} (a : FV) (M : Store) (k : D → Store → Rs β) : (Rs.ok a M).bdd k = k a.d M := rfl

/-- what a value stands for: a reference is looked up -/
def look (M : Store) : D → D
  | .ref n => (M[n]?).getD .non
  | d => d

inductive Op where
  | add | sub | mul | fdiv | mod | pow | shl | shr | band | bor | bxor
  deriving DecidableEq
inductive Cm where
  | eq | ne | lt | le | gt | ge | isn | notn | inn | notin
  deriving DecidableEq
inductive Ty where
  | tup | str | bool | int
  deriving DecidableEq
inductive Prim where
  | len | abs | max2 | min2 | maxl | minl | int1 | str1 | list1 | tuple1 | sum1 | all1 | any1 | sorted1 | dict1 | lrng1 | lrng2 | trng1 | trng2
  | isi (t : Ty)
  deriving DecidableEq
inductive Mth where
  | append | pop | popAt | get1 | get2 | index | count | join | split
  deriving DecidableEq
inductive ItK where
  | seq | rng1 | rng2 | enum | zip
  deriving DecidableEq

mutual
inductive E where
  | var (i : Nat) | con (d : D) | glo (g : Nat)
  | tup (es : Es) | lst (es : Es) | dct (ks vs : Es)
  | bin (o : Op) (a b : E) | neg (a : E)
  | cmp (o : Cm) (a b : E) | chain (o p : Cm) (a b c : E)
  | and (a b : E) | or (a b : E) | not (a : E) | ife (c a b : E)
  | sub (a b : E) | slc (a : E) (lo hi : Es)
  | call (f : Nat) (as : Es) | prim (p : Prim) (as : Es) | meth (m : Mth) (o : E) (as : Es)
  | comp (own : List Nat) (t : T) (k : ItK) (its : Es) (cs : Es) (e : E)
  | new (e : E)
inductive Es where
  | nil | cons (e : E) (r : Es)
inductive T where
  | nm (i : Nat) | tp (ts : Ts) | sb (o i : E)
inductive Ts where
  | nil | cons (t : T) (r : Ts)
end
mutual
inductive S where
  | exp (e : E) | asg (t : T) (e : E) | par (t : List Nat) (es : Es) | ret (e : E) | retN | iff (c : E) (a b : Ss) | forr (t : T) (k : ItK) (its : Es) (b : Ss) | whil (c : E) (b : Ss) | pass | brk | cont
inductive Ss where
  | nil | cons (s : S) (r : Ss)
end

/-! ### scalars -/
def ofB : Bool → Rs FV → Rs FV
  | true, r => r
  | false, _ => .no
def guardR {α : Type} (c : Bool) (r : Rs α) : Rs α := match c with
  | true => r
  | false => .no
theorem guardR_true {α : Type} (r : Rs α) : guardR true r = r := rfl
def sl : Nat := 16777216
/-- the bounds are asked so that a closed number's size never has to be counted down -/
def inW (i : Int) : Bool := match i with
  | .ofNat n => Nat.ble (n + 1) 18446744073709551616
  | .negSucc n => Nat.ble (n + 2) 18446744073709551616
def expB (i : Int) : Bool := match i with
  | .ofNat n => Nat.ble n 1000000
  | .negSucc _ => false
def op2 (o : Op) (x y : D) (M : Store) : Rs FV := match o, x, y with
  | .add, .int i, .int j => .ok (.v (.int (i + j))) M
  | .add, .str i, .str j => guardR (decide (i.length + j.length ≤ sl)) (.ok (.v (.str (i ++ j))) M)
  | .add, .tup xs, .tup ys => guardR (decide (xs.length + ys.length ≤ sl)) (.ok (.v (.tup (xs ++ ys))) M)
  | .add, .lst xs, .lst ys => guardR (decide (xs.length + ys.length ≤ sl)) (.ok (.f (.lst (xs ++ ys))) M)
  | .sub, .int i, .int j => .ok (.v (.int (i - j))) M
  | .mul, .int i, .int j => guardR (inW i || inW j) (.ok (.v (.int (i * j))) M)
  | .fdiv, .int i, .int j => guardR (decide (0 < j) && inW j) (.ok (.v (.int (i / j))) M)
  | .mod, .int i, .int j => guardR (decide (0 < j)) (.ok (.v (.int (i % j))) M)
  | .pow, .int i, .int j => guardR (expB j && inW i) (.ok (.v (.int (i ^ j.toNat))) M)
  | .shl, .int i, .int j => guardR (expB j && inW i) (.ok (.v (.int (i * 2 ^ j.toNat))) M)
  | .shr, .int i, .int j => guardR (decide (0 ≤ j)) (.ok (.v (.int (i / 2 ^ j.toNat))) M)
  | .band, .int i, .int j => .ok (.v (.int (Builtin.bitAnd i j))) M
  | .bor, .int i, .int j => .ok (.v (.int (Builtin.bitOr i j))) M
  | .bxor, .int i, .int j => .ok (.v (.int (Builtin.bitXor i j))) M
  | _, _, _ => .no
def neg1 (x : D) (M : Store) : Rs FV := match x with
  | .int i => .ok (.v (.int (-i))) M
  | _ => .no

/-- scalars that == compares as data -/
def eqS : D → D → Option Bool
  | .non, .non => some true
  | .non, .int _ => some false | .int _, .non => some false | .non, .bl _ => some false | .bl _, .non => some false | .non, .str _ => some false | .str _, .non => some false
  | .int a, .int b => some (decide (a = b))
  | .bl a, .bl b => some (decide (a = b))
  | .str a, .str b => some (decide (a = b))
  | .int _, .str _ => some false | .str _, .int _ => some false | .bl _, .str _ => some false | .str _, .bl _ => some false
  | _, _ => none
mutual
def D.toPy : D → Option PyData
  | .non => some .none
  | .bl b => some (.bool b)
  | .int i => some (.int i)
  | .str x => some (.str x)
  | .tup xs => (D.toPys xs).map .tuple
  | .lst xs => (D.toPys xs).map .list
  | _ => none
def D.toPys : List D → Option (List PyData)
  | [] => some []
  | x :: xs => (D.toPy x).bind fun a => (D.toPys xs).map fun r => a :: r
end
def eqD (x y : D) : Option Bool := match eqS x y with
  | some b => some b
  | none => match x.toPy, y.toPy with
    | some a, some b => if (SeqAt.shaped a && SeqAt.shaped b) = true then some (PyData.eqv a b) else none
    | _, _ => none
def flatD : D → Bool
  | .non => true
  | .bl _ => true
  | .int _ => true
  | .str _ => true
  | _ => false
def eqF : D → D → Bool
  | .non, .non => true
  | .bl a, .bl b => a == b
  | .bl a, .int b => (if a then 1 else 0) == b
  | .int a, .bl b => a == (if b then 1 else 0)
  | .int a, .int b => a == b
  | .str a, .str b => a == b
  | _, _ => false
def inF (x : D) (xs : List D) : Bool := xs.any fun y => eqF y x
def toKey : D → Option Key
  | .int i => some (.inl i)
  | .str x => some (.inr x)
  | _ => none
def keyD : Key → D
  | .inl i => .int i
  | .inr x => .str x
def dlook : List Key → List D → Key → Option D
  | k :: ks, v :: vs, x => if k = x then some v else dlook ks vs x
  | _, _, _ => none
def strIn (x y : Str) : Bool := !(Builtin.Str.occurrences y x 0 y.length 1).isEmpty
def memD (x y : D) : Option Bool := match y with
  | .str z => (match x with
    | .str c => some (match c.cps.toList with
      | [s] => decide (s ∈ z.cps.toList)
      | _ => strIn c z)
    | _ => none)
  | .tup ys => if (flatD x && ys.all flatD) = true then some (inF x ys) else none
  | .lst ys => if (flatD x && ys.all flatD) = true then some (inF x ys) else none
  | .dct ks vs => (toKey x).map fun k => (dlook ks vs k).isSome
  | _ => none
def bR (o : Option Bool) (M : Store) : Rs FV := match o with
  | some b => .ok (.v (.bl b)) M
  | none => .no
def ltD : D → D → Option Bool
  | .int i, .int j => some (decide (i < j))
  | .str i, .str j => some (decide (i.cps.toList < j.cps.toList))
  | _, _ => none
def cm2 (o : Cm) (x y : D) (M : Store) : Rs FV := match o with
  | .eq => bR (eqD x y) M
  | .ne => bR ((eqD x y).map (!·)) M
  | .lt => bR (ltD x y) M
  | .gt => bR (ltD y x) M
  | .le => bR ((ltD y x).map (!·)) M
  | .ge => bR ((ltD x y).map (!·)) M
  | .isn => .ok (.v (.bl (decide (x = .non)))) M
  | .notn => .ok (.v (.bl (!decide (x = .non)))) M
  | .inn => bR (memD x y) M
  | .notin => bR ((memD x y).map (!·)) M
/-- a value's truth -/
def truD : D → Option Bool
  | .non => some false
  | .bl b => some b
  | .int i => some (i != 0)
  | .str y => if y.length ≤ sl then some ((y.length : Int) != 0) else none
  | .tup xs => some (!xs.isEmpty)
  | .lst xs => some (!xs.isEmpty)
  | .dct ks _ => some (!ks.isEmpty)
  | _ => none
def tR (o : Option Bool) (M : Store) : Rs Bool := match o with
  | some b => .ok b M
  | none => .no
def vR (o : Option D) (M : Store) : Rs FV := match o with
  | some d => .ok (.v d) M
  | none => .no
def ixS (x y : D) (M : Store) : Rs FV := match x, y with
  | .tup xs, .int i => vR (L2.atI xs i) M
  | .lst xs, .int i => vR (L2.atI xs i) M
  | .str z, .int i => guardR (decide (z.length ≤ sl)) (vR ((L2.atI z.cps.toList i).map fun c => .str ⟨#[c]⟩) M)
  | .dct ks vs, k => vR ((toKey k).bind (dlook ks vs)) M
  | _, _ => .no
def cutD (xs : List D) (lo hi : Option Int) : List D := (xs.drop (HT.sIx xs.length 0 lo)).take (HT.sIx xs.length xs.length hi - HT.sIx xs.length 0 lo)
def slS (x : D) (lo hi : Option Int) (M : Store) : Rs FV := match x with
  | .tup xs => .ok (.v (.tup (cutD xs lo hi))) M
  | .lst xs => .ok (.f (.lst (cutD xs lo hi))) M
  | .str z => guardR (decide (z.length ≤ sl)) (.ok (.v (.str (L2.cutS z lo hi))) M)
  | _ => .no
def isT : Ty → D → Option Bool
  | .tup, .tup _ => some true
  | .str, .str _ => some true
  | .bool, .bl _ => some true
  | .int, .int _ => some true
  | .int, .bl _ => some true
  | _, .ref _ => none
  | _, .scr _ => none
  | _, _ => some false
def intsOf : List D → Option (List Int)
  | [] => some []
  | .int i :: r => (intsOf r).map (i :: ·)
  | _ => none
def blsOf : List D → Option (List Bool)
  | [] => some []
  | .bl i :: r => (blsOf r).map (i :: ·)
  | _ => none
def strsOf : List D → Option (List Str)
  | [] => some []
  | .str i :: r => (strsOf r).map (i :: ·)
  | _ => none
/-- a list of pairs, for dict(..) -/
def pairsOf : List D → Option (List (Key × D))
  | [] => some []
  | .tup [k, v] :: r => (toKey k).bind fun k => (pairsOf r).map fun r => (k, v) :: r
  | _ => none
def dput (ks : List Key) (vs : List D) (k : Key) (d : D) : List Key × List D :=
  if (ks.any fun q => decide (q = k)) = true then (ks, (ks.zip vs).map fun p => if p.1 = k then d else p.2) else (ks ++ [k], vs ++ [d])
def dmerge (ks : List Key) (vs : List D) : List (Key × D) → List Key × List D
  | [] => (ks, vs)
  | (k, v) :: r => dmerge (dput ks vs k v).1 (dput ks vs k v).2 r
def maxI : Int → List Int → Int
  | m, [] => m
  | m, x :: r => maxI (if x > m then x else m) r
def minI : Int → List Int → Int
  | m, [] => m
  | m, x :: r => minI (if x < m then x else m) r
def rngD (a b : Int) : List D := (List.range (b - a).toNat).map fun k => .int (a + (k : Nat))
def inR (i : Int) : Bool := match i with
  | .ofNat n => Nat.ble (n + 1) 4611686018427387904
  | .negSucc n => Nat.ble (n + 1) 4611686018427387904
def leS (i : Int) : Bool := Nat.ble i.toNat sl
def oI (o : Option Int) (M : Store) : Rs FV := match o with
  | some d => .ok (.v (.int d)) M
  | none => .no
/-- ds: the arguments; xs: what they stand for -/
def primS (p : Prim) (xs ds : List D) (M : Store) : Rs FV := match p, xs with
  | .len, [.tup xs] => .ok (.v (.int xs.length)) M
  | .len, [.lst xs] => .ok (.v (.int xs.length)) M
  | .len, [.scr xs] => .ok (.v (.int xs.length)) M
  | .len, [.str z] => guardR (decide (z.length ≤ sl)) (.ok (.v (.int z.length)) M)
  | .len, [.dct ks _] => .ok (.v (.int ks.length)) M
  | .abs, [.int i] => .ok (.v (.int (if i < 0 then -i else i))) M
  | .max2, [.int i, .int j] => .ok (.v (.int (if j > i then j else i))) M
  | .min2, [.int i, .int j] => .ok (.v (.int (if j < i then j else i))) M
  | .maxl, [.lst xs] => oI ((intsOf xs).bind fun | [] => none | n :: r => some (maxI n r)) M
  | .minl, [.lst xs] => oI ((intsOf xs).bind fun | [] => none | n :: r => some (minI n r)) M
  | .int1, [.int i] => .ok (.v (.int i)) M
  | .int1, [.bl b] => .ok (.v (.int (if b then 1 else 0))) M
  | .str1, [.int i] => guardR (inW i) (.ok (.v (.str (toString i))) M)
  | .list1, [.tup xs] => .ok (.f (.lst xs)) M
  | .list1, [.lst xs] => .ok (.f (.lst xs)) M
  | .list1, [.scr xs] => .ok (.f (.lst (xs.map D.int))) M
  | .tuple1, [.tup xs] => .ok (.v (.tup xs)) M
  | .tuple1, [.lst xs] => .ok (.v (.tup xs)) M
  | .sum1, [.lst xs] => oI ((intsOf xs).map List.sum) M
  | .all1, [.lst xs] => bR ((blsOf xs).map fun l => l.all id) M
  | .any1, [.lst xs] => bR ((blsOf xs).map fun l => l.any id) M
  | .dict1, [.lst xs] => (match pairsOf xs with
    | some ps => .ok (.f (.dct (dmerge [] [] ps).1 (dmerge [] [] ps).2)) M
    | none => .no)
  | .lrng1, [.int n] => guardR (leS n && inR n) (.ok (.f (.lst (rngD 0 n))) M)
  | .lrng2, [.int a, .int b] => guardR (leS (b - a) && inR a && inR b) (.ok (.f (.lst (rngD a b))) M)
  | .trng1, [.int n] => guardR (leS n && inR n) (.ok (.v (.tup (rngD 0 n))) M)
  | .trng2, [.int a, .int b] => guardR (leS (b - a) && inR a && inR b) (.ok (.v (.tup (rngD a b))) M)
  | .isi t, [x] => bR (isT t x) M
  | _, _ => .no
/-- o: the receiver; x: what it stands for -/
def methS (m : Mth) (o x : D) (ds : List D) (M : Store) : Rs FV := match m, o, x, ds with
  | .append, .ref n, .lst xs, [d] => guardR (decide (xs.length < sl)) (.ok (.v .non) (M.set n (.lst (xs ++ [d]))))
  | .pop, .ref n, .lst xs, [] => (match xs[xs.length - 1]? with
    | some d => .ok (.v d) (M.set n (.lst xs.dropLast))
    | none => .no)
  | .popAt, .ref n, .lst xs, [.int i] => (match L2.ixN xs.length i with
    | some k => (match xs[k]? with
      | some d => .ok (.v d) (M.set n (.lst (xs.eraseIdx k)))
      | none => .no)
    | none => .no)
  | .get1, _, .dct ks vs, [k] => (match toKey k with
    | some k => .ok (.v ((dlook ks vs k).getD .non)) M
    | none => .no)
  | .get2, _, .dct ks vs, [k, d] => (match toKey k with
    | some k => .ok (.v ((dlook ks vs k).getD d)) M
    | none => .no)
  | _, _, _, _ => .no
/-- whose method it is -/
def mthK : Mth → D → Bool
  | .append, .lst _ => true
  | .pop, .lst _ => true
  | .popAt, .lst _ => true
  | .get1, .dct _ _ => true
  | .get2, .dct _ _ => true
  | _, _ => false
def setS (o x i d : D) (M : Store) : Rs Unit := match o, x, i with
  | .ref n, .lst xs, .int k => (match L2.ixN xs.length k with
    | some j => .ok () (M.set n (.lst (xs.set j d)))
    | none => .no)
  | .ref n, .dct ks vs, k => (match toKey k with
    | some k => guardR (decide (ks.length < sl)) (.ok () (M.set n (.dct (dput ks vs k d).1 (dput ks vs k d).2)))
    | none => .no)
  | _, _, _ => .no

/-! ### what is walked -/
abbrev Gd := List (Nat × D)
def okG (gs : Gd) (M : Store) : Bool := gs.all fun g => decide (M[g.1]? = some g.2)
def gdOf (d x : D) : Gd := match d with
  | .ref n => [(n, x)]
  | _ => []
def seqD : D → Option (List D)
  | .tup xs => some xs
  | .lst xs => some xs
  | .scr ns => some (ns.map .int)
  | _ => none
def signsD (z : Str) : List D := z.cps.toList.map fun c => .str ⟨#[c]⟩
def seqS : D → Option (List D)
  | .str z => some (signsD z)
  | d => seqD d
def enumD : Nat → List D → List D
  | _, [] => []
  | k, x :: r => .tup [.int k, x] :: enumD (k + 1) r
def itS (k : ItK) (xs ds : List D) (M : Store) : Rs (List D × Gd) := match k, xs, ds with
  | .seq, [x], [d] => (match seqS x with
    | some l => .ok (l, gdOf d x) M
    | none => .no)
  | .rng1, [.int n], _ => guardR (inR n) (.ok (rngD 0 n, []) M)
  | .rng2, [.int a, .int b], _ => guardR (inR a && inR b) (.ok (rngD a b, []) M)
  | .enum, [x], [d] => (match seqD x with
    | some l => .ok (enumD 0 l, gdOf d x) M
    | none => .no)
  | .zip, [x, y], [d, e] => (match seqD x, seqD y with
    | some l, some r => .ok ((l.zip r).map fun p => .tup [p.1, p.2], gdOf d x ++ gdOf e y) M
    | _, _ => .no)
  | _, _, _ => .no

inductive Fl where
  | nx (ρ : Env) | rt (d : FV) | bk (ρ : Env) | ct (ρ : Env)
def forL (stp : D → Env → Store → Rs Fl) (gs : Gd) : List D → Env → Store → Rs Fl
  | [], ρ, M => guardR (okG gs M) (.ok (.nx ρ) M)
  | x :: xs, ρ, M => guardR (okG gs M) ((stp x ρ M).bd fun r M => match r with
    | .nx ρ => forL stp gs xs ρ M
    | .ct ρ => forL stp gs xs ρ M
    | .bk ρ => .ok (.nx ρ) M
    | .rt d => .ok (.rt d) M)
def whileL (c : Env → Store → Rs Bool) (b : Env → Store → Rs Fl) : Nat → Env → Store → Rs Fl
  | 0, _, _ => .no
  | n + 1, ρ, M => (c ρ M).bd fun t M => match t with
    | false => .ok (.nx ρ) M
    | true => (b ρ M).bd fun r M => match r with
      | .nx ρ => whileL c b n ρ M
      | .ct ρ => whileL c b n ρ M
      | .bk ρ => .ok (.nx ρ) M
      | .rt d => .ok (.rt d) M
def wfuel : Nat := 1000000000
/-- one turn of a comprehension hands on an item or none -/
def cmpL (stp : D → Store → Rs (Option D)) (gs : Gd) : List D → List D → Store → Rs (List D)
  | [], acc, M => guardR (okG gs M) (.ok acc M)
  | x :: xs, acc, M => guardR (okG gs M) ((stp x M).bd fun r M => match r with
    | none => cmpL stp gs xs acc M
    | some d => guardR (decide (acc.length < sl)) (cmpL stp gs xs (acc ++ [d]) M))
def wipeE (ρ : Env) : List Nat → Env
  | [] => ρ
  | v :: vs => (wipeE ρ vs).set v none

/-- a value taken as a test -/
def tst (r : Rs FV) : Rs Bool := r.bdd fun x M => tR (truD (look M x)) M
structure Ctx where
  call : Nat → List D → Store → Rs FV
  glob : Nat → D

mutual
def ev (C : Ctx) : E → Env → Store → Rs FV
  | .var i, ρ, M => (match ρ[i]? with
    | some (some d) => .ok (.v d) M
    | _ => .no)
  | .con d, _, M => .ok (.v d) M
  | .glo g, _, M => .ok (.v (C.glob g)) M
  | .tup es, ρ, M => (evs C es ρ M).bd fun ds M => .ok (.v (.tup ds)) M
  | .lst es, ρ, M => (evs C es ρ M).bd fun ds M => .ok (.f (.lst ds)) M
  | .dct ks vs, ρ, M => .no
  | .bin o a b, ρ, M => (ev C a ρ M).bdd fun x M => (ev C b ρ M).bdd fun y M => op2 o (look M x) (look M y) M
  | .neg a, ρ, M => (ev C a ρ M).bdd fun x M => neg1 x M
  | .cmp o a b, ρ, M => (ev C a ρ M).bdd fun x M => (ev C b ρ M).bdd fun y M => cm2 o (look M x) (look M y) M
  | .chain o p a b c, ρ, M => (ev C a ρ M).bdd fun x M => (ev C b ρ M).bdd fun y M => (cm2 o (look M x) (look M y) M).bdd fun t M => match t with
    | .bl true => (ev C c ρ M).bdd fun z M => cm2 p (look M y) (look M z) M
    | .bl false => .ok (.v (.bl false)) M
    | _ => .no
  | .and a b, ρ, M => (ev C a ρ M).bdd fun x M => (tR (truD (look M x)) M).bd fun t M => match t with
    | true => (ev C b ρ M).bdd fun y M => .ok (.v y) M
    | false => .ok (.v x) M
  | .or a b, ρ, M => (ev C a ρ M).bdd fun x M => (tR (truD (look M x)) M).bd fun t M => match t with
    | false => (ev C b ρ M).bdd fun y M => .ok (.v y) M
    | true => .ok (.v x) M
  | .not a, ρ, M => (tst (ev C a ρ M)).bd fun t M => .ok (.v (.bl (!t))) M
  | .ife c a b, ρ, M => (tst (ev C c ρ M)).bd fun t M => match t with
    | true => ev C a ρ M
    | false => ev C b ρ M
  | .sub a b, ρ, M => (ev C a ρ M).bdd fun x M => (ev C b ρ M).bdd fun y M => ixS (look M x) y M
  | .slc a lo hi, ρ, M => (ev C a ρ M).bdd fun x M => (evs C lo ρ M).bd fun l M => (evs C hi ρ M).bd fun h M => (match l, h with
    | [], [] => slS (look M x) none none M
    | [.int i], [] => slS (look M x) (some i) none M
    | [], [.int j] => slS (look M x) none (some j) M
    | [.int i], [.int j] => slS (look M x) (some i) (some j) M
    | _, _ => .no)
  | .call f as, ρ, M => (evs C as ρ M).bd fun ds M => C.call f ds M
  | .prim p as, ρ, M => (evs C as ρ M).bd fun ds M => primS p (ds.map (look M)) ds M
  | .meth m o as, ρ, M => (ev C o ρ M).bdd fun x M => guardR (mthK m (look M x)) ((evs C as ρ M).bd fun ds M => methS m x (look M x) ds M)
  | .comp own t k its cs e, ρ, M => (evs C its ρ M).bd fun ds M => (itS k (ds.map (look M)) ds M).bd fun p M =>
      (cmpL (fun d M => (asgT C t d (wipeE ρ own) M).bd fun ρ M => (evTs C cs ρ M).bd fun b M => match b with
        | true => (ev C e ρ M).bdd fun y M => .ok (some y) M
        | false => .ok none M) p.2 p.1 [] M).bd fun ys M => .ok (.f (.lst ys)) M
  | .new e, ρ, M => (ev C e ρ M).bd fun x M => match x with
    | .f d => .ok (.v (.ref M.length)) (M ++ [d])
    | .v _ => .no
termination_by structural x => x
def evs (C : Ctx) : Es → Env → Store → Rs (List D)
  | .nil, _, M => .ok [] M
  | .cons e r, ρ, M => (ev C e ρ M).bdd fun d M => (evs C r ρ M).bd fun ds M => .ok (d :: ds) M
termination_by structural x => x
def evTs (C : Ctx) : Es → Env → Store → Rs Bool
  | .nil, _, M => .ok true M
  | .cons e .nil, ρ, M => tst (ev C e ρ M)
  | _, _, _ => .no
termination_by structural x => x
def asgT (C : Ctx) : T → D → Env → Store → Rs Env
  | .nm i, d, ρ, M => .ok (ρ.set i (some d)) M
  | .tp ts, d, ρ, M => (match look M d with
    | .tup xs => asgTs C ts xs ρ M
    | _ => .no)
  | .sb o i, d, ρ, M => (ev C o ρ M).bdd fun x M => (ev C i ρ M).bdd fun y M => (setS x (look M x) y d M).bd fun _ M => .ok ρ M
termination_by structural x => x
def asgTs (C : Ctx) : Ts → List D → Env → Store → Rs Env
  | .nil, [], ρ, M => .ok ρ M
  | .cons t r, d :: ds, ρ, M => (asgT C t d ρ M).bd fun ρ M => asgTs C r ds ρ M
  | _, _, _, _ => .no
termination_by structural x => x
end
def evT (C : Ctx) (e : E) (ρ : Env) (M : Store) : Rs Bool := tst (ev C e ρ M)
def parS : List Nat → List D → Env → Env
  | i :: is, d :: ds, ρ => parS is ds (ρ.set i (some d))
  | _, _, ρ => ρ
mutual
def ex (C : Ctx) : S → Env → Store → Rs Fl
  | .exp e, ρ, M => (ev C e ρ M).bdd fun _ M => .ok (.nx ρ) M
  | .asg t e, ρ, M => (ev C e ρ M).bdd fun d M => (asgT C t d ρ M).bd fun ρ M => .ok (.nx ρ) M
  | .par is es, ρ, M => (evs C es ρ M).bd fun ds M => guardR (decide (ds.length = is.length)) (.ok (.nx (parS is ds ρ)) M)
  | .ret e, ρ, M => (ev C e ρ M).bd fun d M => .ok (.rt d) M
  | .retN, _, M => .ok (.rt (.v .non)) M
  | .iff c a b, ρ, M => (evT C c ρ M).bd fun t M => match t with
    | true => exs C a ρ M
    | false => exs C b ρ M
  | .forr t k its b, ρ, M => (evs C its ρ M).bd fun ds M => (itS k (ds.map (look M)) ds M).bd fun p M =>
      forL (fun d ρ M => (asgT C t d ρ M).bd fun ρ M => exs C b ρ M) p.2 p.1 ρ M
  | .whil c b, ρ, M => whileL (evT C c) (exs C b) wfuel ρ M
  | .pass, ρ, M => .ok (.nx ρ) M
  | .brk, ρ, M => .ok (.bk ρ) M
  | .cont, ρ, M => .ok (.ct ρ) M
def exs (C : Ctx) : Ss → Env → Store → Rs Fl
  | .nil, ρ, M => .ok (.nx ρ) M
  | .cons s r, ρ, M => (ex C s ρ M).bd fun f M => match f with
    | .nx ρ => exs C r ρ M
    | f => .ok f M
end

/-! ### defs -/
structure Fn where
  np : Nat
  ns : Nat
  body : Ss
mutual
/-- every reference is below L -/
def D.scp (L : Nat) : D → Bool
  | .ref n => decide (n < L)
  | .tup xs => D.scps L xs
  | .lst xs => D.scps L xs
  | .dct _ xs => D.scps L xs
  | _ => true
def D.scps (L : Nat) : List D → Bool
  | [] => true
  | x :: xs => D.scp L x && D.scps L xs
end
def FV.thaw (L : Nat) (M : Store) : FV → FV
  | .v (.ref n) => (match decide (L ≤ n) with
    | true => (match M[n]? with
      | some x => .f x
      | none => .v (.ref n))
    | false => .v (.ref n))
  | x => x
def sameB (L : Nat) : Store → Store → Bool
  | [], _ => true
  | a :: as, b :: bs => (decide (a = b) || D.scp L b) && sameB L as bs
  | _ :: _, [] => false
/-- a call's end: what the call has made is let go, if nothing of it is held -/
def exitC (M : Store) (d : FV) (M' : Store) : Rs FV :=
  let d1 := d.thaw M.length M'
  match D.scp M.length d1.d && sameB M.length M M' with
  | true => .ok d1 (M'.take M.length)
  | false => .ok d M'
def runF (C : Ctx) (fn : Fn) (ds : List D) (M : Store) : Rs FV :=
  guardR (decide (ds.length = fn.np)) (match exs C fn.body (ds.map some ++ List.replicate (fn.ns - fn.np) none) M with
    | .ok (.rt d) M' => exitC M d M'
    | .ok (.nx _) M' => exitC M (.v .non) M'
    | _ => .no)
def callF (fs : List Fn) (gl : Nat → D) : Nat → Nat → List D → Store → Rs FV
  | 0, _, _, _ => .no
  | k + 1, f, ds, M => match fs[f]? with
    | some fn => runF ⟨callF fs gl k, gl⟩ fn ds M
    | none => .no
end PyI
/-! PyB: how data stands in the abstract heap -/
namespace PyI
open PySem PySem.Spec L2
open PyProof.Rows hiding St
/-- true: never changes again; false: unchanged for a while, and nothing's part -/
abbrev Fz := Addr → Option Bool

def Scr (K : PySem.W.Frag) (H : Hp) (p : Addr) (ns : List Int) : Prop :=
  (∃ o, H p = some (.frz o (.lst (ns.map V.int)))) ∨
    ∃ (o : Obj) (its : Array Value) (n : Nat), K.lookup p = some o ∧ o.cls = .type "list" ∧ o.dict = none ∧ o.data = .seq its n ∧ its.size ≤ sizeLine ∧ Vals (ns.map V.int) its.toList
theorem Scr.seq {K : PySem.W.Frag} {H : Hp} {p : Addr} {ns : List Int} (h : Scr K H p ns) : SqL K H p (ns.map V.int) := by
  rcases h with ⟨o, h⟩ | h
  · exact .inl (.inr ⟨o, h⟩)
  · exact .inr h
theorem Scr.of {K : PySem.W.Frag} {H : Hp} {p : Addr} {ns : List Int} (hO : Only H) (h : SqL K H p (ns.map V.int)) : Scr K H p ns := by
  rcases h with (h | ⟨o, h⟩) | h
  · rcases hO p with z | ⟨o, xs, z⟩
    · rw [h] at z; cases z
    · rw [h] at z; cases z
  · exact .inl ⟨o, h⟩
  · exact .inr h

mutual
/-- the value v stands for the data d: F the addresses that never change again, m the addresses of the store's objects -/
inductive Rep (K : PySem.W.Frag) (H : Hp) (F : Fz) (m : List Addr) : D → V → Prop
  | non : Rep K H F m .non .non
  | bl (b : Bool) : Rep K H F m (.bl b) (.bl b)
  | int (i : Int) : Rep K H F m (.int i) (.int i)
  | str (x : Str) : Rep K H F m (.str x) (.str x)
  | tup {p : Addr} {xs : List D} {vs : List V} : SqT K H p vs → Reps K H F m xs vs → Rep K H F m (.tup xs) (.ref p)
  | lst {p : Addr} {xs : List D} {vs : List V} : F p = some true → H p = some (.lst vs) → Reps K H F m xs vs → Rep K H F m (.lst xs) (.ref p)
  | dct {p : Addr} {ks : List Key} {xs : List D} {vs : List V} : F p = some true → H p = some (.dK (ks.zip vs)) → ks.length = vs.length → Reps K H F m xs vs → Rep K H F m (.dct ks xs) (.ref p)
  | ref {p : Addr} {n : Nat} : m[n]? = some p → Rep K H F m (.ref n) (.ref p)
  | scr {p : Addr} {ns : List Int} : Scr K H p ns → Rep K H F m (.scr ns) (.ref p)
inductive Reps (K : PySem.W.Frag) (H : Hp) (F : Fz) (m : List Addr) : List D → List V → Prop
  | nil : Reps K H F m [] []
  | cons {x : D} {v : V} {xs : List D} {vs : List V} : Rep K H F m x v → Reps K H F m xs vs → Reps K H F m (x :: xs) (v :: vs)
end
/-- how the heap may go on -/
structure Gr (H : Hp) (F : Fz) (m : List Addr) (H' : Hp) (F' : Fz) (m' : List Addr) : Prop where
  pre : ∃ r, m' = m ++ r
  fs : ∀ a b, F a = some b → F' a = some b
  tup : ∀ a xs, H a = some (.tup xs) → H' a = some (.tup xs)
  frz : ∀ a o u, H a = some (.frz o u) → H' a = some (.frz o u)
  fro : ∀ a b, F a = some b → H' a = H a
section
variable {K : PySem.W.Frag} {H H' H2 : Hp} {F F' F2 : Fz} {m m' m2 : List Addr}
theorem Gr.refl : Gr H F m H F m := ⟨⟨[], by simp⟩, fun _ _ h => h, fun _ _ h => h, fun _ _ _ h => h, fun _ _ _ => rfl⟩
theorem Gr.trans (a : Gr H F m H' F' m') (b : Gr H' F' m' H2 F2 m2) : Gr H F m H2 F2 m2 := by
  obtain ⟨r, e⟩ := a.pre
  obtain ⟨r', e'⟩ := b.pre
  exact ⟨⟨r ++ r', by rw [e', e, List.append_assoc]⟩, fun x y h => b.fs x y (a.fs x y h), fun x xs h => b.tup x xs (a.tup x xs h), fun x o u h => b.frz x o u (a.frz x o u h), fun x y h => (b.fro x y (a.fs x y h)).trans (a.fro x y h)⟩
theorem Gr.at (g : Gr H F m H' F' m') {n : Nat} {a : Addr} (h : m[n]? = some a) : m'[n]? = some a := by
  obtain ⟨r, e⟩ := g.pre
  rw [e, List.getElem?_append_left (List.getElem?_eq_some_iff.mp h).1]
  exact h
theorem Gr.sqT (g : Gr H F m H' F' m') {p : Addr} {vs : List V} (h : SqT K H p vs) : SqT K H' p vs := by
  rcases h with (h | ⟨o, h⟩) | h
  · exact .inl (.inl (g.tup _ _ h))
  · exact .inl (.inr ⟨o, g.frz _ _ _ h⟩)
  · exact .inr h
theorem Gr.scr (g : Gr H F m H' F' m') {p : Addr} {ns : List Int} (h : Scr K H p ns) : Scr K H' p ns := by
  rcases h with ⟨o, h⟩ | h
  · exact .inl ⟨o, g.frz _ _ _ h⟩
  · exact .inr h
mutual
theorem Rep.mono (g : Gr H F m H' F' m') : ∀ (d : D) (v : V), Rep K H F m d v → Rep K H' F' m' d v
  | .non, _, .non => .non
  | .bl _, _, .bl _ => .bl _
  | .int _, _, .int _ => .int _
  | .str _, _, .str _ => .str _
  | .tup xs, _, .tup h r => .tup (g.sqT h) (Reps.mono g xs _ r)
  | .lst xs, _, .lst f h r => .lst (g.fs _ _ f) ((g.fro _ _ f).trans h) (Reps.mono g xs _ r)
  | .dct _ xs, _, .dct f h l r => .dct (g.fs _ _ f) ((g.fro _ _ f).trans h) l (Reps.mono g xs _ r)
  | .ref _, _, .ref h => .ref (g.at h)
  | .scr _, _, .scr h => .scr (g.scr h)
theorem Reps.mono (g : Gr H F m H' F' m') : ∀ (ds : List D) (vs : List V), Reps K H F m ds vs → Reps K H' F' m' ds vs
  | [], _, .nil => .nil
  | x :: xs, _, .cons h r => .cons (Rep.mono g x _ h) (Reps.mono g xs _ r)
end
mutual
/-- references below L need the first L places alone -/
theorem Rep.take {L : Nat} : ∀ (d : D) (v : V), d.scp L = true → Rep K H F m d v → Rep K H F (m.take L) d v
  | .non, _, _, .non => .non
  | .bl _, _, _, .bl _ => .bl _
  | .int _, _, _, .int _ => .int _
  | .str _, _, _, .str _ => .str _
  | .tup xs, _, s, .tup h r => .tup h (Reps.take xs _ s r)
  | .lst xs, _, s, .lst f h r => .lst f h (Reps.take xs _ s r)
  | .dct _ xs, _, s, .dct f h l r => .dct f h l (Reps.take xs _ s r)
  | .ref n, _, s, .ref h => .ref (by
    have hn : n < L := of_decide_eq_true s
    rw [List.getElem?_take_of_lt hn]
    exact h)
  | .scr _, _, _, .scr h => .scr h
theorem Reps.take {L : Nat} : ∀ (ds : List D) (vs : List V), D.scps L ds = true → Reps K H F m ds vs → Reps K H F (m.take L) ds vs
  | [], _, _, .nil => .nil
  | x :: xs, _, s, .cons h r => by
    simp only [D.scps, Bool.and_eq_true] at s
    exact .cons (Rep.take x _ s.1 h) (Reps.take xs _ s.2 r)
end
theorem Reps.length : ∀ {ds : List D} {vs : List V}, Reps K H F m ds vs → ds.length = vs.length
  | _, _, .nil => rfl
  | _, _, .cons _ r => congrArg Nat.succ (Reps.length r)
theorem Reps.get : ∀ {ds : List D} {vs : List V} {i : Nat} {d : D}, Reps K H F m ds vs → ds[i]? = some d → ∃ v, vs[i]? = some v ∧ Rep K H F m d v
  | _, _, _, _, .nil, e => by simp at e
  | _, _, 0, _, .cons h _, e => by simp at e; subst e; exact ⟨_, rfl, h⟩
  | _, _, i + 1, d, .cons _ r, e => by
    obtain ⟨v, h1, h2⟩ := Reps.get (i := i) (d := d) r (by simpa using e)
    exact ⟨v, by simpa using h1, h2⟩
theorem Reps.append : ∀ {ds es : List D} {vs ws : List V}, Reps K H F m ds vs → Reps K H F m es ws → Reps K H F m (ds ++ es) (vs ++ ws)
  | _, _, _, _, .nil, s => s
  | _, _, _, _, .cons h r, s => .cons h (Reps.append r s)
theorem Reps.drop : ∀ {ds : List D} {vs : List V} (n : Nat), Reps K H F m ds vs → Reps K H F m (ds.drop n) (vs.drop n)
  | _, _, 0, r => r
  | _, _, _ + 1, .nil => .nil
  | _, _, n + 1, .cons _ r => Reps.drop n r
theorem Reps.taken : ∀ {ds : List D} {vs : List V} (n : Nat), Reps K H F m ds vs → Reps K H F m (ds.take n) (vs.take n)
  | _, _, 0, _ => .nil
  | _, _, _ + 1, .nil => .nil
  | _, _, n + 1, .cons h r => .cons h (Reps.taken n r)
theorem Reps.set {d : D} {v : V} (h : Rep K H F m d v) : ∀ {ds : List D} {vs : List V} (n : Nat), Reps K H F m ds vs → Reps K H F m (ds.set n d) (vs.set n v)
  | _, _, _, .nil => .nil
  | _, _, 0, .cons _ r => .cons h r
  | _, _, n + 1, .cons g r => .cons g (Reps.set h n r)
theorem Reps.erase : ∀ {ds : List D} {vs : List V} (n : Nat), Reps K H F m ds vs → Reps K H F m (ds.eraseIdx n) (vs.eraseIdx n)
  | _, _, _, .nil => .nil
  | _, _, 0, .cons _ r => r
  | _, _, n + 1, .cons g r => .cons g (Reps.erase n r)
theorem Reps.dropLast {ds : List D} {vs : List V} (h : Reps K H F m ds vs) : Reps K H F m ds.dropLast vs.dropLast := by
  rw [List.dropLast_eq_take, List.dropLast_eq_take, h.length]
  exact h.taken _
theorem Reps.flat : ∀ {ds : List D} {vs : List V}, Reps K H F m ds vs → ∀ k : Nat, Reps K H F m (List.replicate k ds).flatten (List.replicate k vs).flatten
  | _, _, _, 0 => .nil
  | _, _, h, k + 1 => by
    rw [List.replicate_succ, List.replicate_succ, List.flatten_cons, List.flatten_cons]
    exact Reps.append h (Reps.flat h k)
theorem Reps.ints : ∀ (ns : List Int), Reps K H F m (ns.map D.int) (ns.map V.int)
  | [] => .nil
  | _ :: r => .cons (.int _) (Reps.ints r)

/-- what stands at a store's object -/
def Own (K : PySem.W.Frag) (H : Hp) (F : Fz) (m : List Addr) (a : Addr) : D → Prop
  | .lst xs => ∃ vs, H a = some (.lst vs) ∧ Reps K H F m xs vs
  | .dct ks xs => ∃ vs, H a = some (.dK (ks.zip vs)) ∧ ks.length = vs.length ∧ Reps K H F m xs vs
  | _ => False
theorem Own.mono {a : Addr} {d : D} (g : Gr H F m H' F' m') (e : H' a = H a) (h : Own K H F m a d) : Own K H' F' m' a d := by
  cases d with
  | lst xs => obtain ⟨vs, h1, h2⟩ := h; exact ⟨vs, e.trans h1, Reps.mono g _ _ h2⟩
  | dct ks xs => obtain ⟨vs, h1, h2, h3⟩ := h; exact ⟨vs, e.trans h1, h2, Reps.mono g _ _ h3⟩
  | _ => exact h.elim
theorem Own.take {a : Addr} {d : D} {L : Nat} (s : d.scp L = true) (h : Own K H F m a d) : Own K H F (m.take L) a d := by
  cases d with
  | lst xs => obtain ⟨vs, h1, h2⟩ := h; exact ⟨vs, h1, Reps.take _ _ s h2⟩
  | dct ks xs => obtain ⟨vs, h1, h2, h3⟩ := h; exact ⟨vs, h1, h2, Reps.take _ _ s h3⟩
  | _ => exact h.elim
theorem Own.mut {a : Addr} {d : D} (h : Own K H F m a d) : Mut (H a) := by
  cases d with
  | lst xs => obtain ⟨vs, h1, h2⟩ := h; rw [h1]; trivial
  | dct ks xs => obtain ⟨vs, h1, h2, h3⟩ := h; rw [h1]; trivial
  | _ => exact h.elim
theorem Own.some {a : Addr} {d : D} (h : Own K H F m a d) : ∃ o, H a = some o := by
  cases d with
  | lst xs => obtain ⟨vs, h1, h2⟩ := h; exact ⟨_, h1⟩
  | dct ks xs => obtain ⟨vs, h1, h2, h3⟩ := h; exact ⟨_, h1⟩
  | _ => exact h.elim

/-- the store as it stands in the heap -/
structure Ab (K : PySem.W.Frag) (H : Hp) (F : Fz) (m : List Addr) (M : Store) : Prop where
  len : m.length = M.length
  nd : m.Nodup
  dj : ∀ a ∈ m, F a = none
  live : ∀ a b, F a = some b → ∃ o, H a = some o
  obj : ∀ (n : Nat) (a : Addr) (d : D), m[n]? = some a → M[n]? = some d → Own K H F m a d
theorem Ab.at {M : Store} (A : Ab K H F m M) {n : Nat} {a : Addr} (h : m[n]? = some a) : ∃ d, M[n]? = some d ∧ Own K H F m a d := by
  have hn : n < M.length := by rw [← A.len]; exact (List.getElem?_eq_some_iff.mp h).1
  exact ⟨_, List.getElem?_eq_getElem hn, A.obj n a _ h (List.getElem?_eq_getElem hn)⟩
theorem Ab.mem {M : Store} (A : Ab K H F m M) {a : Addr} (h : a ∈ m) : ∃ (n : Nat) (d : D), m[n]? = some a ∧ M[n]? = some d ∧ Own K H F m a d := by
  obtain ⟨n, hn⟩ := List.mem_iff_getElem?.mp h
  obtain ⟨d, h1, h2⟩ := A.at hn
  exact ⟨n, d, hn, h1, h2⟩
/-- nothing that matters has changed: a new object, perhaps -/
theorem Ab.keep {M : Store} (A : Ab K H F m M) (k : ∀ a o, H a = some o → H' a = some o) : Gr H F m H' F m ∧ Ab K H' F m M := by
  have g : Gr H F m H' F m := ⟨⟨[], by simp⟩, fun _ _ h => h, fun a xs h => k a _ h, fun a o u h => k a _ h, fun a b h => by
    obtain ⟨o, e⟩ := A.live a b h
    rw [e]; exact k a o e⟩
  refine ⟨g, A.len, A.nd, A.dj, fun a b h => ?_, fun n a d h1 h2 => ?_⟩
  · obtain ⟨o, e⟩ := A.live a b h
    exact ⟨o, k a o e⟩
  · have h := A.obj n a d h1 h2
    obtain ⟨o, e⟩ := h.some
    exact h.mono g (by rw [e]; exact k a o e)
theorem Ab.new {M : Store} (A : Ab K H F m M) {p : Addr} {o : HO} (hp : H p = none) : Gr H F m (upd H p o) F m ∧ Ab K (upd H p o) F m M :=
  A.keep fun a u h => by rw [upd_ne (ne_of_none h hp)]; exact h
theorem Ab.notF {M : Store} (A : Ab K H F m M) {p : Addr} (hp : H p = none) : F p = none := by
  cases h : F p with
  | none => rfl
  | some b =>
    obtain ⟨o, e⟩ := A.live p b h
    rw [hp] at e; cases e
theorem Ab.notm {M : Store} (A : Ab K H F m M) {p : Addr} (hp : H p = none) : p ∉ m := fun h => by
  obtain ⟨n, d, _, _, h2⟩ := A.mem h
  obtain ⟨o, e⟩ := h2.some
  rw [hp] at e; cases e
theorem getElem?_inj {α : Type} {l : List α} (h : l.Nodup) {i j : Nat} {x : α} (a : l[i]? = some x) (b : l[j]? = some x) : i = j := by
  obtain ⟨h1, e1⟩ := List.getElem?_eq_some_iff.mp a
  obtain ⟨h2, e2⟩ := List.getElem?_eq_some_iff.mp b
  exact (List.getElem_inj h).mp (e1.trans e2.symm)
/-- an object of the store is written -/
theorem Ab.write {M : Store} (A : Ab K H F m M) {n : Nat} {a : Addr} {o : HO} {d : D} (hn : m[n]? = some a) (hd : ∀ H' F' m', Gr H F m H' F' m' → H' a = some o → Own K H' F' m' a d) :
    Gr H F m (upd H a o) F m ∧ Ab K (upd H a o) F m (M.set n d) := by
  obtain ⟨d0, h0, h1⟩ := A.at hn
  have hm : a ∈ m := List.mem_of_getElem? hn
  have mu := h1.mut
  have g : Gr H F m (upd H a o) F m := ⟨⟨[], by simp⟩, fun _ _ h => h, fun b xs h => by
      rw [upd_ne (fun e => by subst e; rw [h] at mu; exact mu)]; exact h, fun b u v h => by
      rw [upd_ne (fun e => by subst e; rw [h] at mu; exact mu)]; exact h, fun b y h => by
      have hb : b ≠ a := fun e => by rw [e, A.dj a hm] at h; cases h
      exact upd_ne hb⟩
  refine ⟨g, by rw [List.length_set]; exact A.len, A.nd, A.dj, fun b y h => ?_, fun k b u h2 h3 => ?_⟩
  · obtain ⟨z, e⟩ := A.live b y h
    have hb : b ≠ a := fun e => by rw [e, A.dj a hm] at h; cases h
    exact ⟨z, (upd_ne hb).trans e⟩
  · by_cases hk : k = n
    · subst hk
      rw [hn] at h2; cases h2
      have hlt : k < M.length := (List.getElem?_eq_some_iff.mp h0).1
      rw [List.getElem?_set_self hlt] at h3
      cases h3
      exact hd _ _ _ g upd_same
    · rw [List.getElem?_set_ne (Ne.symm hk)] at h3
      exact (A.obj k b u h2 h3).mono g (upd_ne fun e => hk (getElem?_inj A.nd h2 (e ▸ hn)))

/-- a value that may be new -/
inductive RepF (K : PySem.W.Frag) (H : Hp) (F : Fz) (m : List Addr) : FV → V → Prop
  | v {d : D} {v : V} : Rep K H F m d v → RepF K H F m (.v d) v
  | f {d : D} {p : Addr} : F p = none → p ∉ m → Own K H F m p d → RepF K H F m (.f d) (.ref p)
theorem RepF.frz {M : Store} {x : FV} {v : V} (A : Ab K H F m M) (h : RepF K H F m x v) : ∃ F', Gr H F m H F' m ∧ Ab K H F' m M ∧ Rep K H F' m x.d v := by
  cases h with
  | v h => exact ⟨F, Gr.refl, A, h⟩
  | @f d p h1 h2 h3 =>
    have g : Gr H F m H (fun a => if a = p then some true else F a) m := ⟨⟨[], by simp⟩, fun a b h => by
      have : a ≠ p := fun e => by rw [e, h1] at h; cases h
      show (if a = p then some true else F a) = some b
      rw [if_neg this]; exact h, fun _ _ h => h, fun _ _ _ h => h, fun _ _ _ => rfl⟩
    refine ⟨fun a => if a = p then some true else F a, g, ⟨A.len, A.nd, fun a ha => ?_, fun a b h => ?_, fun n a d h1 h2 => (A.obj n a d h1 h2).mono g rfl⟩, ?_⟩
    · show (if a = p then some true else F a) = none
      rw [if_neg (fun e : a = p => h2 (e ▸ ha))]
      exact A.dj a ha
    · by_cases e : a = p
      · subst e; exact h3.some
      · have h : (if a = p then some true else F a) = some b := h
        rw [if_neg e] at h
        exact A.live a b h
    · cases d with
      | lst xs => obtain ⟨vs, e, r⟩ := h3; exact .lst (if_pos rfl) e (Reps.mono g _ _ r)
      | dct ks xs => obtain ⟨vs, e, l, r⟩ := h3; exact .dct (if_pos rfl) e l (Reps.mono g _ _ r)
      | _ => exact h3.elim
theorem RepF.thaw {M : Store} {d : D} {v : V} (A : Ab K H F m M) (h : RepF K H F m (.f d) v) : ∃ m', Gr H F m H F m' ∧ Ab K H F m' (M ++ [d]) ∧ Rep K H F m' (.ref M.length) v := by
  cases h with
  | @f _ p h1 h2 h3 =>
    have g : Gr H F m H F (m ++ [p]) := ⟨⟨[p], rfl⟩, fun _ _ h => h, fun _ _ h => h, fun _ _ _ h => h, fun _ _ _ => rfl⟩
    refine ⟨m ++ [p], g, ⟨by rw [List.length_append, List.length_append, A.len] <;> rfl, ?_, fun a ha => ?_, A.live, fun n a u e1 e2 => ?_⟩, ?_⟩
    · rw [List.nodup_append]
      refine ⟨A.nd, by simp, fun a ha b hb => ?_⟩
      rw [List.mem_singleton] at hb
      subst hb
      exact fun e => h2 (e ▸ ha)
    · rcases List.mem_append.mp ha with ha | ha
      · exact A.dj a ha
      · rw [List.mem_singleton] at ha; subst ha; exact h1
    · by_cases hn : n < m.length
      · rw [List.getElem?_append_left hn] at e1
        rw [List.getElem?_append_left (by rw [← A.len]; exact hn)] at e2
        exact (A.obj n a u e1 e2).mono g rfl
      · have hl := (List.getElem?_eq_some_iff.mp e1).1
        rw [List.length_append, List.length_singleton] at hl
        have hn' : n = m.length := by omega
        subst hn'
        rw [List.getElem?_concat_length] at e1
        rw [A.len, List.getElem?_concat_length] at e2
        cases e1; cases e2
        exact h3.mono g rfl
    · refine .ref ?_
      rw [← A.len, List.getElem?_concat_length]

/-- a list set aside: nothing else holds it -/
theorem Ab.aside {M : Store} {p : Addr} (A : Ab K H F m M) (h1 : F p = none) (h2 : p ∉ m) (h3 : ∃ o, H p = some o) : Gr H F m H (fun a => if a = p then some false else F a) m ∧ Ab K H (fun a => if a = p then some false else F a) m M := by
  have g : Gr H F m H (fun a => if a = p then some false else F a) m := ⟨⟨[], by simp⟩, fun a b h => by
      have : a ≠ p := fun e => by rw [e, h1] at h; cases h
      show (if a = p then some false else F a) = some b
      rw [if_neg this]; exact h, fun _ _ h => h, fun _ _ _ h => h, fun _ _ _ => rfl⟩
  refine ⟨g, A.len, A.nd, fun a ha => ?_, fun a b h => ?_, fun n a d h1 h2 => (A.obj n a d h1 h2).mono g rfl⟩
  · show (if a = p then some false else F a) = none
    rw [if_neg (fun e : a = p => h2 (e ▸ ha))]
    exact A.dj a ha
  · by_cases e : a = p
    · subst e; exact h3
    · have h : (if a = p then some false else F a) = some b := h
      rw [if_neg e] at h
      exact A.live a b h
mutual
theorem Rep.back {p : Addr} {o : HO} (hp : F p = some false) (mu : Mut (H p)) : ∀ (d : D) (v : V), Rep K H F m d v → Rep K (upd H p o) (fun a => if a = p then none else F a) m d v
  | .non, _, .non => .non
  | .bl _, _, .bl _ => .bl _
  | .int _, _, .int _ => .int _
  | .str _, _, .str _ => .str _
  | .tup xs, _, .tup (p := q) h r => .tup (by
    rcases h with (h | ⟨w, h⟩) | h
    · exact .inl (.inl (by rw [upd_ne (fun e => by rw [e] at h; rw [h] at mu; exact mu)]; exact h))
    · exact .inl (.inr ⟨w, by rw [upd_ne (fun e => by rw [e] at h; rw [h] at mu; exact mu)]; exact h⟩)
    · exact .inr h) (Reps.back hp mu xs _ r)
  | .lst xs, _, .lst (p := q) f h r => .lst (by
    have : q ≠ p := fun e => by rw [e, hp] at f; cases f
    show (if q = p then none else F q) = some true
    rw [if_neg this]; exact f) (by
    have : q ≠ p := fun e => by rw [e, hp] at f; cases f
    rw [upd_ne this]; exact h) (Reps.back hp mu xs _ r)
  | .dct _ xs, _, .dct (p := q) f h l r => .dct (by
    have : q ≠ p := fun e => by rw [e, hp] at f; cases f
    show (if q = p then none else F q) = some true
    rw [if_neg this]; exact f) (by
    have : q ≠ p := fun e => by rw [e, hp] at f; cases f
    rw [upd_ne this]; exact h) l (Reps.back hp mu xs _ r)
  | .ref _, _, .ref h => .ref h
  | .scr _, _, .scr h => .scr (by
    rcases h with ⟨w, h⟩ | h
    · exact .inl ⟨w, by rw [upd_ne (fun e => by rw [e] at h; rw [h] at mu; exact mu)]; exact h⟩
    · exact .inr h)
theorem Reps.back {p : Addr} {o : HO} (hp : F p = some false) (mu : Mut (H p)) : ∀ (ds : List D) (vs : List V), Reps K H F m ds vs → Reps K (upd H p o) (fun a => if a = p then none else F a) m ds vs
  | [], _, .nil => .nil
  | x :: xs, _, .cons h r => .cons (Rep.back hp mu x _ h) (Reps.back hp mu xs _ r)
end
/-- it is written, and stands as before -/
theorem Ab.back {M : Store} {p : Addr} {o : HO} (A : Ab K H F m M) (hp : F p = some false) (mu : Mut (H p)) : Ab K (upd H p o) (fun a => if a = p then none else F a) m M := by
  have hm : p ∉ m := fun h => by have := A.dj p h; rw [hp] at this; cases this
  refine ⟨A.len, A.nd, fun a ha => ?_, fun a b h => ?_, fun n a d h1 h2 => ?_⟩
  · show (if a = p then none else F a) = none
    rw [if_neg (fun e : a = p => hm (e ▸ ha))]
    exact A.dj a ha
  · have h : (if a = p then none else F a) = some b := h
    by_cases e : a = p
    · rw [if_pos e] at h; cases h
    · rw [if_neg e] at h
      rw [upd_ne e]
      exact A.live a b h
  · have ha : a ≠ p := fun e => hm (e ▸ List.mem_of_getElem? h1)
    have h := A.obj n a d h1 h2
    cases d with
    | lst xs => obtain ⟨vs, e, r⟩ := h; exact ⟨vs, (upd_ne ha).trans e, Reps.back hp mu _ _ r⟩
    | dct ks xs => obtain ⟨vs, e, l, r⟩ := h; exact ⟨vs, (upd_ne ha).trans e, l, Reps.back hp mu _ _ r⟩
    | _ => exact h.elim
/-- from the state ahead of the setting aside -/
theorem Gr.back {p : Addr} {o : HO} (g : Gr H F m H' F' m') (h1 : F p = none) (hp : F' p = some false) (mu : Mut (H' p)) : Gr H F m (upd H' p o) (fun a => if a = p then none else F' a) m' := by
  refine ⟨g.pre, fun a b h => ?_, fun a xs h => ?_, fun a w u h => ?_, fun a b h => ?_⟩
  · have ha : a ≠ p := fun e => by rw [e, h1] at h; cases h
    show (if a = p then none else F' a) = some b
    rw [if_neg ha]
    exact g.fs a b h
  · have h2 := g.tup a xs h
    rw [upd_ne (fun e => by rw [e] at h2; rw [h2] at mu; exact mu)]
    exact h2
  · have h2 := g.frz a w u h
    rw [upd_ne (fun e => by rw [e] at h2; rw [h2] at mu; exact mu)]
    exact h2
  · have ha : a ≠ p := fun e => by rw [e, h1] at h; cases h
    rw [upd_ne ha]
    exact g.fro a b h

/-- the names' values -/
structure En (K : PySem.W.Frag) (H : Hp) (F : Fz) (m : List Addr) (ρ : Env) (σ : St) : Prop where
  len : ρ.length = σ.length
  at_ : ∀ (i : Nat) (d : D), ρ[i]? = some (some d) → ∃ v, σ[i]? = some (some v) ∧ Rep K H F m d v
theorem En.mono {ρ : Env} {σ : St} (g : Gr H F m H' F' m') (h : En K H F m ρ σ) : En K H' F' m' ρ σ :=
  ⟨h.len, fun i d e => let ⟨v, h1, h2⟩ := h.at_ i d e; ⟨v, h1, Rep.mono g _ _ h2⟩⟩
theorem En.set {ρ : Env} {σ : St} {i : Nat} {d : D} {v : V} (h : En K H F m ρ σ) (r : Rep K H F m d v) : En K H F m (ρ.set i (some d)) (σ.set i (some v)) := by
  refine ⟨by rw [List.length_set, List.length_set]; exact h.len, fun j e hj => ?_⟩
  by_cases hij : j = i
  · subst hij
    have hl : j < ρ.length := by
      have := (List.getElem?_eq_some_iff.mp hj).1
      rw [List.length_set] at this; exact this
    rw [List.getElem?_set_self hl] at hj
    cases hj
    exact ⟨v, List.getElem?_set_self (by rw [← h.len]; exact hl), r⟩
  · rw [List.getElem?_set_ne (Ne.symm hij)] at hj
    obtain ⟨w, h1, h2⟩ := h.at_ j e hj
    exact ⟨w, by rw [List.getElem?_set_ne (Ne.symm hij)]; exact h1, h2⟩
theorem En.wipe {ρ : Env} {σ : St} (h : En K H F m ρ σ) : ∀ vs : List Nat, En K H F m (wipeE ρ vs) (wipe σ vs)
  | [] => h
  | v :: vs => by
    have ih := En.wipe h vs
    refine ⟨by show ((wipeE ρ vs).set v none).length = ((L2.wipe σ vs).set v none).length; rw [List.length_set, List.length_set]; exact ih.len, fun j e hj => ?_⟩
    have hj : ((wipeE ρ vs).set v none)[j]? = some (some e) := hj
    show ∃ w, ((L2.wipe σ vs).set v none)[j]? = some (some w) ∧ _
    by_cases hij : j = v
    · subst hij
      by_cases hl : j < (wipeE ρ vs).length
      · rw [List.getElem?_set_self hl] at hj; cases hj
      · rw [List.getElem?_eq_none (by rw [List.length_set]; omega)] at hj; cases hj
    · rw [List.getElem?_set_ne (Ne.symm hij)] at hj
      obtain ⟨w, h1, h2⟩ := ih.at_ j e hj
      exact ⟨w, by rw [List.getElem?_set_ne (Ne.symm hij)]; exact h1, h2⟩

/-- what a value stands for, looked up -/
theorem Rep.look {M : Store} {d : D} {v : V} (A : Ab K H F m M) (h : Rep K H F m d v) :
    Rep K H F m (look M d) v ∨ ∃ n p, d = .ref n ∧ v = .ref p ∧ m[n]? = some p ∧ Own K H F m p (look M d) := by
  cases h with
  | @ref p n h =>
    obtain ⟨u, h1, h2⟩ := A.at h
    refine .inr ⟨n, p, rfl, rfl, h, ?_⟩
    show Own K H F m p ((M[n]?).getD .non)
    rw [h1]; exact h2
  | non => exact .inl .non
  | bl b => exact .inl (.bl b)
  | int i => exact .inl (.int i)
  | str x => exact .inl (.str x)
  | tup h r => exact .inl (.tup h r)
  | lst f h r => exact .inl (.lst f h r)
  | dct f h l r => exact .inl (.dct f h l r)
  | scr h => exact .inl (.scr h)
theorem look_lst {M : Store} {d : D} {v : V} {xs : List D} (A : Ab K H F m M) (h : Rep K H F m d v) (e : look M d = .lst xs) : ∃ p vs, v = .ref p ∧ H p = some (.lst vs) ∧ Reps K H F m xs vs := by
  rcases h.look A with h | ⟨n, p, e1, e2, e3, h⟩
  · rw [e] at h
    cases h with
    | lst f h1 r => exact ⟨_, _, rfl, h1, r⟩
  · rw [e] at h
    obtain ⟨vs, h1, h2⟩ := h
    exact ⟨p, vs, e2, h1, h2⟩
theorem look_dct {M : Store} {d : D} {v : V} {ks : List Key} {xs : List D} (A : Ab K H F m M) (h : Rep K H F m d v) (e : look M d = .dct ks xs) : ∃ p vs, v = .ref p ∧ H p = some (.dK (ks.zip vs)) ∧ ks.length = vs.length ∧ Reps K H F m xs vs := by
  rcases h.look A with h | ⟨n, p, e1, e2, e3, h⟩
  · rw [e] at h
    cases h with
    | dct f h1 l r => exact ⟨_, _, rfl, h1, l, r⟩
  · rw [e] at h
    obtain ⟨vs, h1, h2, h3⟩ := h
    exact ⟨p, vs, e2, h1, h2, h3⟩
theorem look_tup {M : Store} {d : D} {v : V} {xs : List D} (A : Ab K H F m M) (h : Rep K H F m d v) (e : look M d = .tup xs) : ∃ p vs, v = .ref p ∧ SqT K H p vs ∧ Reps K H F m xs vs := by
  rcases h.look A with h | ⟨n, p, e1, e2, e3, h⟩
  · rw [e] at h
    cases h with
    | tup h1 r => exact ⟨_, _, rfl, h1, r⟩
  · rw [e] at h; exact h.elim
theorem look_int {M : Store} {d : D} {v : V} {i : Int} (A : Ab K H F m M) (h : Rep K H F m d v) (e : look M d = .int i) : v = .int i := by
  rcases h.look A with h | ⟨n, p, e1, e2, e3, h⟩
  · rw [e] at h; cases h; rfl
  · rw [e] at h; exact h.elim
theorem look_str {M : Store} {d : D} {v : V} {i : Str} (A : Ab K H F m M) (h : Rep K H F m d v) (e : look M d = .str i) : v = .str i := by
  rcases h.look A with h | ⟨n, p, e1, e2, e3, h⟩
  · rw [e] at h; cases h; rfl
  · rw [e] at h; exact h.elim
theorem look_bl {M : Store} {d : D} {v : V} {i : Bool} (A : Ab K H F m M) (h : Rep K H F m d v) (e : look M d = .bl i) : v = .bl i := by
  rcases h.look A with h | ⟨n, p, e1, e2, e3, h⟩
  · rw [e] at h; cases h; rfl
  · rw [e] at h; exact h.elim
theorem look_scr {M : Store} {d : D} {v : V} {ns : List Int} (A : Ab K H F m M) (h : Rep K H F m d v) (e : look M d = .scr ns) : ∃ p, v = .ref p ∧ Scr K H p ns := by
  rcases h.look A with h | ⟨n, p, e1, e2, e3, h⟩
  · rw [e] at h
    cases h with
    | scr h1 => exact ⟨_, rfl, h1⟩
  · rw [e] at h; exact h.elim
theorem look_non {M : Store} {d : D} {v : V} (A : Ab K H F m M) (h : Rep K H F m d v) : (look M d = .non) ↔ v = .non := by
  rcases h.look A with h | ⟨n, p, e1, e2, e3, h⟩
  · constructor
    · intro e; rw [e] at h; cases h; rfl
    · intro e; subst e
      generalize look M d = u at h
      cases h; rfl
  · constructor
    · intro e; rw [e] at h; exact h.elim
    · intro e; rw [e2] at e; cases e
end
end PyI
/-! PyC: the operations, by values -/
namespace PyI
open PySem PySem.Spec L2
open PyProof.Rows hiding St

theorem sl_eq : sl = sizeLine := by rw [sizeLine_eq]; rfl
theorem guardR_ok {α : Type} {c : Bool} {r : Rs α} {a : α} {M : Store} (h : guardR c r = .ok a M) : c = true ∧ r = .ok a M := by
  cases c with
  | true => exact ⟨rfl, h⟩
  | false => cases h
theorem Rs.bd_inv {α β : Type} {r : Rs α} {k : α → Store → Rs β} {b : β} {M' : Store} (h : r.bd k = .ok b M') : ∃ a M, r = .ok a M ∧ k a M = .ok b M' := by
  cases r with
  | ok a M => exact ⟨a, M, rfl, h⟩
  | no => cases h
theorem Rs.bdd_inv {β : Type} {r : Rs FV} {k : D → Store → Rs β} {b : β} {M' : Store} (h : r.bdd k = .ok b M') : ∃ a M, r = .ok a M ∧ k a.d M = .ok b M' := by
  cases r with
  | ok a M => exact ⟨a, M, rfl, h⟩
  | no => cases h

section
variable {K : PySem.W.Frag} {H H' : Hp} {F F' : Fz} {m m' : List Addr} {M M' : Store}
/-- a wish about what comes, at a state that has gone on from (H, F, m) -/
def Wish (K : PySem.W.Frag) (H : Hp) (F : Fz) (m : List Addr) (x : FV) (M : Store) (Q : VK) : Prop := ∀ H' F' m' v, Gr H F m H' F' m' → Ab K H' F' m' M → RepF K H' F' m' x v → Q v H'
theorem Wish.now {x : FV} {v : V} {Q : VK} (w : Wish K H F m x M Q) (A : Ab K H F m M) (r : RepF K H F m x v) : Q v H := w H F m v .refl A r
theorem Wish.mono {x : FV} {Q : VK} (g : Gr H F m H' F' m') (w : Wish K H F m x M Q) : Wish K H' F' m' x M Q := fun H2 F2 m2 v g2 => w H2 F2 m2 v (g.trans g2)
theorem Wish.v {d : D} {v : V} {Q : VK} (w : Wish K H F m (.v d) M Q) (A : Ab K H F m M) (r : Rep K H F m d v) : Q v H := w.now A (.v r)
theorem Wish.tup {ds : List D} {vs : List V} {Q : VK} (w : Wish K H F m (.v (.tup ds)) M Q) (A : Ab K H F m M) (r : Reps K H F m ds vs) (p : Addr) (hp : H p = none) : Q (.ref p) (upd H p (.tup vs)) := by
  obtain ⟨g, A'⟩ := A.new (o := .tup vs) hp
  exact w _ _ _ _ g A' (.v (.tup (SqT.of upd_same) (Reps.mono g _ _ r)))
theorem Wish.lst {ds : List D} {vs : List V} {Q : VK} (w : Wish K H F m (.f (.lst ds)) M Q) (A : Ab K H F m M) (r : Reps K H F m ds vs) (p : Addr) (hp : H p = none) : Q (.ref p) (upd H p (.lst vs)) := by
  obtain ⟨g, A'⟩ := A.new (o := .lst vs) hp
  exact w _ _ _ _ g A' (.f (A.notF hp) (A.notm hp) ⟨vs, upd_same, Reps.mono g _ _ r⟩)
theorem Wish.dct {ks : List Key} {ds : List D} {vs : List V} {Q : VK} (w : Wish K H F m (.f (.dct ks ds)) M Q) (A : Ab K H F m M) (l : ks.length = vs.length) (r : Reps K H F m ds vs) (p : Addr) (hp : H p = none) :
    Q (.ref p) (upd H p (.dK (ks.zip vs))) := by
  obtain ⟨g, A'⟩ := A.new (o := .dK (ks.zip vs)) hp
  exact w _ _ _ _ g A' (.f (A.notF hp) (A.notm hp) ⟨vs, upd_same, l, Reps.mono g _ _ r⟩)

/-- the canonical reading of an operation of two values -/
def r2 (K : PySem.W.Frag) (sem : D → D → Store → Rs FV) : R2 := fun x y H Q => ∃ F m M d e r M', Ab K H F m M ∧ Rep K H F m d x ∧ Rep K H F m e y ∧ sem d e M = .ok r M' ∧ Wish K H F m r M' Q
def r1 (K : PySem.W.Frag) (sem : D → Store → Rs FV) : V → Hp → VK → Prop := fun x H Q => ∃ F m M d r M', Ab K H F m M ∧ Rep K H F m d x ∧ sem d M = .ok r M' ∧ Wish K H F m r M' Q
def rN (K : PySem.W.Frag) (sem : List D → Store → Rs FV) : List V → Hp → VK → Prop := fun xs H Q => ∃ F m M ds r M', Ab K H F m M ∧ Reps K H F m ds xs ∧ sem ds M = .ok r M' ∧ Wish K H F m r M' Q
end
section
variable {X : Cx}
theorem _root_.L2.OpR.weak {f : Value → Value → Sem Value} {r r' : R2} (h : OpR X f r) (w : ∀ x y H Q, r' x y H Q → r x y H Q) : OpR X f r' := fun pins s σ H x y v u Q I rx ry q => h pins s σ H x y v u Q I rx ry (w x y H Q q)
theorem _root_.L2.UnR.weak {f : Value → Sem Value} {r r' : V → Hp → VK → Prop} (h : UnR X f r) (w : ∀ x H Q, r' x H Q → r x H Q) : UnR X f r' := fun pins s σ H x v Q I rx q => h pins s σ H x v Q I rx (w x H Q q)
theorem _root_.L2.CallR.weak {f : Value} {r r' : List V → Hp → VK → Prop} (h : CallR X f r) (w : ∀ xs H Q, r' xs H Q → r xs H Q) : CallR X f r' := fun pins s σ H xs us Q I rx q => h pins s σ H xs us Q I rx (w xs H Q q)
theorem _root_.L2.IxR.weak {r r' : R2} (h : IxR X r) (w : ∀ x y H Q, r' x y H Q → r x y H Q) : IxR X r' := fun a b pins s σ H x y v u Q I rx ry q => h a b pins s σ H x y v u Q I rx ry (w x y H Q q)
theorem _root_.L2.SlR.weak {r r' : V → Option Int → Option Int → Hp → VK → Prop} (h : SlR X r) (w : ∀ x l u H Q, r' x l u H Q → r x l u H Q) : SlR X r' := fun pins s σ H x v vl vu lo hi sl Q I rx hs pl pu q => h pins s σ H x v vl vu lo hi sl Q I rx hs pl pu (w x lo hi H Q q)
theorem _root_.L2.MtR.weak {id : String} {r r' : V → List V → Hp → VK → Prop} (h : MtR X id r) (w : ∀ x xs H Q, r' x xs H Q → r x xs H Q) : MtR X id r' := fun pins s σ H x xs v us Q I rx rs q => h pins s σ H x xs v us Q I rx rs (w x xs H Q q)

def opOf : Op → Operator
  | .add => .Add | .sub => .Sub | .mul => .Mult | .fdiv => .FloorDiv | .mod => .Mod | .pow => .Pow | .shl => .LShift | .shr => .RShift | .band => .BitAnd | .bor => .BitOr | .bxor => .BitXor
/-- the same, the sides looked up -/
abbrev lk2 (f : D → D → Store → Rs FV) : D → D → Store → Rs FV := fun x y M => f (look M x) (look M y) M

theorem inW_ok {i : Int} (h : inW i = true) : -(2 ^ 64) < i ∧ i < 2 ^ 64 := by
  unfold inW at h
  split at h
  · rename_i n
    have := Nat.le_of_ble_eq_true h
    have e : Int.ofNat n = (n : Int) := rfl
    omega
  · rename_i n
    have := Nat.le_of_ble_eq_true h
    have e := Int.negSucc_eq n
    omega
theorem expB_ok {i : Int} (h : expB i = true) : 0 ≤ i ∧ i ≤ 1000000 := by
  unfold expB at h
  split at h
  · rename_i n
    have := Nat.le_of_ble_eq_true h
    have e : Int.ofNat n = (n : Int) := rfl
    omega
  · cases h
theorem leS_ok {i : Int} (h : leS i = true) : i ≤ sl := by
  unfold leS at h
  have := Nat.le_of_ble_eq_true h
  omega
theorem inW_abs {i : Int} (h : inW i = true) : i.natAbs < 2 ^ 64 := by
  obtain ⟨h1, h2⟩ := inW_ok h
  omega

/-- an operation of ints alone -/
theorem op_ints {o : Op} {C : Int → Int → Prop} {g : Int → Int → Int} (h : OpR X (binaryOp (opOf o)) (rI C fun i j => .int (g i j)))
    (inv : ∀ x y M r M', op2 o x y M = .ok r M' → ∃ i j, x = .int i ∧ y = .int j ∧ C i j ∧ r = .v (.int (g i j)) ∧ M' = M) : OpR X (binaryOp (opOf o)) (r2 X.K (lk2 (op2 o))) := by
  refine h.weak fun x y H Q ⟨F, m, M, d, e, r, M', A, hd, he, es, w⟩ => ?_
  obtain ⟨i, j, e1, e2, c, rfl, rfl⟩ := inv _ _ _ _ _ es
  exact ⟨i, j, look_int A hd e1, look_int A he e2, c, w.v A (.int _)⟩
theorem or0 {f : Value → Value → Sem Value} {g : Int → Int → Int} (h : OpR X f (rI0 fun i j => .int (g i j))) : OpR X f (rI (fun _ _ => True) fun i j => .int (g i j)) := h.weak fun x y H Q ⟨i, j, a, b, _, q⟩ => ⟨i, j, a, b, q⟩
theorem op_sub' : OpR X (binaryOp (opOf .sub)) (r2 X.K (lk2 (op2 .sub))) := op_ints (or0 op_sub) fun x y M r M' h => by
  unfold op2 at h
  split at h <;> simp_all
theorem op_band' : OpR X (binaryOp (opOf .band)) (r2 X.K (lk2 (op2 .band))) := op_ints (or0 op_and) fun x y M r M' h => by
  unfold op2 at h
  split at h <;> simp_all
theorem op_bor' : OpR X (binaryOp (opOf .bor)) (r2 X.K (lk2 (op2 .bor))) := op_ints (or0 op_or) fun x y M r M' h => by
  unfold op2 at h
  split at h <;> simp_all
theorem op_bxor' : OpR X (binaryOp (opOf .bxor)) (r2 X.K (lk2 (op2 .bxor))) := op_ints (or0 op_xor) fun x y M r M' h => by
  unfold op2 at h
  split at h <;> simp_all
theorem op_fdiv' : OpR X (binaryOp (opOf .fdiv)) (r2 X.K (lk2 (op2 .fdiv))) := op_ints op_fdivW fun x y M r M' h => by
  unfold op2 at h
  split at h <;> try (exfalso; simp_all; done)
  rename_i i j _
  obtain ⟨h1, h2⟩ := guardR_ok h
  simp only [Bool.and_eq_true, decide_eq_true_eq] at h1
  cases h2
  exact ⟨i, j, rfl, rfl, wide_div (b := 64) h1.1 (inW_abs h1.2) (by decide) (by decide), rfl, rfl⟩
theorem op_mod' : OpR X (binaryOp (opOf .mod)) (r2 X.K (lk2 (op2 .mod))) := op_ints op_mod fun x y M r M' h => by
  unfold op2 at h
  split at h <;> try (exfalso; simp_all; done)
  rename_i i j _
  obtain ⟨h1, h2⟩ := guardR_ok h
  cases h2
  exact ⟨i, j, rfl, rfl, of_decide_eq_true h1, rfl, rfl⟩
theorem op_pow' : OpR X (binaryOp (opOf .pow)) (r2 X.K (lk2 (op2 .pow))) := op_ints op_pow fun x y M r M' h => by
  unfold op2 at h
  split at h <;> try (exfalso; simp_all; done)
  rename_i i j _
  obtain ⟨h1, h2⟩ := guardR_ok h
  simp only [Bool.and_eq_true, decide_eq_true_eq] at h1
  cases h2
  exact ⟨i, j, rfl, rfl, ⟨(expB_ok h1.1).1, (expB_ok h1.1).2, inW_abs h1.2⟩, rfl, rfl⟩
theorem op_shl' : OpR X (binaryOp (opOf .shl)) (r2 X.K (lk2 (op2 .shl))) := op_ints op_shl fun x y M r M' h => by
  unfold op2 at h
  split at h <;> try (exfalso; simp_all; done)
  rename_i i j _
  obtain ⟨h1, h2⟩ := guardR_ok h
  simp only [Bool.and_eq_true, decide_eq_true_eq] at h1
  cases h2
  exact ⟨i, j, rfl, rfl, ⟨(expB_ok h1.1).1, (expB_ok h1.1).2, inW_abs h1.2⟩, rfl, rfl⟩
theorem op_shr' : OpR X (binaryOp (opOf .shr)) (r2 X.K (lk2 (op2 .shr))) := op_ints op_shr fun x y M r M' h => by
  unfold op2 at h
  split at h <;> try (exfalso; simp_all; done)
  rename_i i j _
  obtain ⟨h1, h2⟩ := guardR_ok h
  cases h2
  exact ⟨i, j, rfl, rfl, of_decide_eq_true h1, rfl, rfl⟩
theorem op_mul' : OpR X (binaryOp (opOf .mul)) (r2 X.K (lk2 (op2 .mul))) := op_ints op_mul fun x y M r M' h => by
  unfold op2 at h
  split at h <;> try (exfalso; simp_all; done)
  rename_i i j _
  obtain ⟨h1, h2⟩ := guardR_ok h
  simp only [Bool.or_eq_true] at h1
  cases h2
  exact ⟨i, j, rfl, rfl, h1.imp inW_ok inW_ok, rfl, rfl⟩
theorem op_add' : OpR X (binaryOp (opOf .add)) (r2 X.K (lk2 (op2 .add))) := by
  refine (OpR.or op_add (OpR.or op_add_str (OpR.or op_catA op_cat))).weak fun x y H Q ⟨F, m, M, d, e, r, M', A, hd, he, es, w⟩ => ?_
  unfold lk2 at es
  unfold op2 at es
  split at es <;> try (exfalso; simp_all; done)
  · rename_i i j _ e1 e2
    cases es
    exact .inl ⟨i, j, look_int A hd e1, look_int A he e2, w.v A (.int _)⟩
  · rename_i i j _ e1 e2
    obtain ⟨h1, h2⟩ := guardR_ok es
    cases h2
    exact .inr (.inl ⟨i, j, look_str A hd e1, look_str A he e2, by rw [← sl_eq]; exact of_decide_eq_true h1, w.v A (.str _)⟩)
  · rename_i xs ys _ e1 e2
    obtain ⟨h1, h2⟩ := guardR_ok es
    cases h2
    obtain ⟨p, vs, rfl, hp, rp⟩ := look_tup A hd e1
    obtain ⟨q, us, rfl, hq, rq⟩ := look_tup A he e2
    have l1 := rp.length
    have l2 := rq.length
    refine .inr (.inr (.inl ⟨p, q, vs, us, rfl, rfl, hp, hq, ?_, fun z => ?_, fun _ z => ?_, fun _ _ a ha => ?_⟩))
    · rw [← l1, ← l2, ← sl_eq]; exact of_decide_eq_true h1
    · subst z
      cases rp
      exact w.v A (.tup hq rq)
    · subst z
      cases rq
      rw [List.append_nil] at w
      exact w.v A (.tup hp rp)
    · exact w.tup A (rp.append rq) a ha
  · rename_i xs ys _ e1 e2
    obtain ⟨h1, h2⟩ := guardR_ok es
    cases h2
    obtain ⟨p, vs, rfl, hp, rp⟩ := look_lst A hd e1
    obtain ⟨q, us, rfl, hq, rq⟩ := look_lst A he e2
    refine .inr (.inr (.inr ⟨p, q, vs, us, rfl, rfl, hp, hq, ?_, fun a ha => w.lst A (rp.append rq) a ha⟩))
    rw [← rp.length, ← rq.length, ← sl_eq]; exact of_decide_eq_true h1
theorem op_all (o : Op) : OpR X (binaryOp (opOf o)) (r2 X.K (lk2 (op2 o))) := by
  cases o
  · exact op_add'
  · exact op_sub'
  · exact op_mul'
  · exact op_fdiv'
  · exact op_mod'
  · exact op_pow'
  · exact op_shl'
  · exact op_shr'
  · exact op_band'
  · exact op_bor'
  · exact op_bxor'
theorem neg_all : UnR X (unaryOp .USub) (r1 X.K neg1) := by
  refine un_neg.weak fun x H Q ⟨F, m, M, d, r, M', A, hd, es, w⟩ => ?_
  unfold neg1 at es
  split at es
  · rename_i i
    cases es
    cases hd
    exact ⟨i, rfl, w.v A (.int _)⟩
  · cases es

/-! ### comparisons -/
mutual
theorem toPy_dp {K : PySem.W.Frag} {H : Hp} {F : Fz} {m : List Addr} : ∀ (d : D) (v : V) (p : PyData), Rep K H F m d v → d.toPy = some p → Dp K H v p
  | .non, _, _, .non, e => by cases e; exact .non
  | .bl _, _, _, .bl _, e => by cases e; exact .bl _
  | .int _, _, _, .int _, e => by cases e; exact .int _
  | .str _, _, _, .str _, e => by cases e; exact .str _
  | .tup xs, _, _, .tup h r, e => by
    simp only [D.toPy] at e
    obtain ⟨ps, e1, e2⟩ := Option.map_eq_some_iff.mp e
    subst e2
    exact .tup h (toPys_dp xs _ ps r e1)
  | .lst xs, _, _, .lst f h r, e => by
    simp only [D.toPy] at e
    obtain ⟨ps, e1, e2⟩ := Option.map_eq_some_iff.mp e
    subst e2
    exact .lst (SqL.of h) (toPys_dp xs _ ps r e1)
  | .dct _ _, _, _, _, e => by simp [D.toPy] at e
  | .ref _, _, _, _, e => by simp [D.toPy] at e
  | .scr _, _, _, _, e => by simp [D.toPy] at e
theorem toPys_dp {K : PySem.W.Frag} {H : Hp} {F : Fz} {m : List Addr} : ∀ (ds : List D) (vs : List V) (ps : List PyData), Reps K H F m ds vs → D.toPys ds = some ps → DpAll K H vs ps
  | [], _, _, .nil, e => by cases e; exact .nil
  | x :: xs, _, _, .cons h r, e => by
    simp only [D.toPys] at e
    obtain ⟨a, e1, e2⟩ := Option.bind_eq_some_iff.mp e
    obtain ⟨q, e3, e4⟩ := Option.map_eq_some_iff.mp e2
    subst e4
    exact .cons (toPy_dp x _ a h e1) (toPys_dp xs _ q r e3)
end
theorem own_dp {K : PySem.W.Frag} {H : Hp} {F : Fz} {m : List Addr} {M : Store} {d : D} {v : V} {p : PyData} (A : Ab K H F m M) (h : Rep K H F m d v) (e : (look M d).toPy = some p) : Dp K H v p := by
  rcases h.look A with h | ⟨n, q, e1, e2, e3, h⟩
  · exact toPy_dp _ _ _ h e
  · generalize look M d = u at h e
    cases u with
    | lst xs =>
      obtain ⟨vs, h1, h2⟩ := h
      simp only [D.toPy] at e
      obtain ⟨ps, e1, e4⟩ := Option.map_eq_some_iff.mp e
      subst e4 e2
      exact .lst (SqL.of h1) (toPys_dp xs _ ps h2 e1)
    | dct ks xs => simp [D.toPy] at e
    | _ => exact h.elim
theorem eqS_scal {K : PySem.W.Frag} {H : Hp} {F : Fz} {m : List Addr} {M : Store} {d e : D} {x y : V} {b : Bool} (A : Ab K H F m M) (hd : Rep K H F m d x) (he : Rep K H F m e y) (h : eqS (look M d) (look M e) = some b) : scal x y = true ∧ decide (x = y) = b := by
  have ld := fun i => look_int (i := i) A hd
  have le := fun i => look_int (i := i) A he
  have sd := fun i => look_str (i := i) A hd
  have se := fun i => look_str (i := i) A he
  have bd := fun i => look_bl (i := i) A hd
  have be := fun i => look_bl (i := i) A he
  have nd := look_non A hd
  have ne := look_non A he
  generalize look M d = u at *
  generalize look M e = z at *
  cases u <;> cases z <;> simp_all [eqS, scal] <;> (subst h; simp_all)
def cmOf : Cm → CmpOp
  | .eq => .Eq | .ne => .NotEq | .lt => .Lt | .le => .LtE | .gt => .Gt | .ge => .GtE | .isn => .Is | .notn => .IsNot | .inn => .In | .notin => .NotIn
theorem bR_ok {o : Option Bool} {M M' : Store} {r : FV} (h : bR o M = .ok r M') : ∃ b, o = some b ∧ r = .v (.bl b) ∧ M' = M := by
  cases o with
  | none => cases h
  | some b => cases h; exact ⟨b, rfl, rfl, rfl⟩
theorem eqD_or {K : PySem.W.Frag} {H : Hp} {F : Fz} {m : List Addr} {M : Store} {d e : D} {x y : V} {b : Bool} (A : Ab K H F m M) (hd : Rep K H F m d x) (he : Rep K H F m e y) (h : eqD (look M d) (look M e) = some b) :
    (scal x y = true ∧ decide (x = y) = b) ∨ ∃ p q, Dp K H x p ∧ Dp K H y q ∧ SeqAt.shaped p = true ∧ SeqAt.shaped q = true ∧ PyData.eqv p q = b := by
  unfold eqD at h
  split at h
  · rename_i c hc
    cases h
    exact .inl (eqS_scal A hd he hc)
  · split at h
    · rename_i a c ha hc
      split at h
      · rename_i hs
        cases h
        rw [Bool.and_eq_true] at hs
        exact .inr ⟨a, c, own_dp A hd ha, own_dp A he hc, hs.1, hs.2, rfl⟩
      · cases h
    · cases h
theorem cm_eq (hu : X.A.units + 64 < cLine) : OpR X (compareOp .Eq) (r2 X.K (lk2 (cm2 .eq))) := by
  refine (OpR.or op_eq (op_eqD hu)).weak fun x y H Q ⟨F, m, M, d, e, r, M', A, hd, he, es, w⟩ => ?_
  obtain ⟨b, e1, rfl, rfl⟩ := bR_ok es
  rcases eqD_or A hd he e1 with ⟨h1, h2⟩ | ⟨p, q, h1, h2, h3, h4, h5⟩
  · exact .inl ⟨h1, by rw [h2]; exact w.v A (.bl b)⟩
  · exact .inr ⟨p, q, h1, h2, h3, h4, by rw [h5]; exact w.v A (.bl b)⟩
theorem cm_ne (hu : X.A.units + 64 < cLine) : OpR X (compareOp .NotEq) (r2 X.K (lk2 (cm2 .ne))) := by
  refine (OpR.or op_ne (op_neD hu)).weak fun x y H Q ⟨F, m, M, d, e, r, M', A, hd, he, es, w⟩ => ?_
  obtain ⟨b, e1, rfl, rfl⟩ := bR_ok es
  obtain ⟨c, e2, e3⟩ := Option.map_eq_some_iff.mp e1
  rcases eqD_or A hd he e2 with ⟨h1, h2⟩ | ⟨p, q, h1, h2, h3, h4, h5⟩
  · exact .inl ⟨h1, by rw [h2, e3]; exact w.v A (.bl b)⟩
  · exact .inr ⟨p, q, h1, h2, h3, h4, by rw [h5, e3]; exact w.v A (.bl b)⟩
theorem ltD_inv {x y : D} {b : Bool} (h : ltD x y = some b) : (∃ i j, x = .int i ∧ y = .int j ∧ b = decide (i < j)) ∨ ∃ i j, x = .str i ∧ y = .str j ∧ b = decide (i.cps.toList < j.cps.toList) := by
  unfold ltD at h
  split at h <;> simp_all
theorem cm_lt : OpR X (compareOp .Lt) (r2 X.K (lk2 (cm2 .lt))) := by
  refine (OpR.or op_lt op_lt_str).weak fun x y H Q ⟨F, m, M, d, e, r, M', A, hd, he, es, w⟩ => ?_
  obtain ⟨b, e1, rfl, rfl⟩ := bR_ok es
  rcases ltD_inv e1 with ⟨i, j, h1, h2, rfl⟩ | ⟨i, j, h1, h2, rfl⟩
  · exact .inl ⟨i, j, look_int A hd h1, look_int A he h2, w.v A (.bl _)⟩
  · exact .inr ⟨i, j, look_str A hd h1, look_str A he h2, w.v A (.bl _)⟩
theorem cm_gt : OpR X (compareOp .Gt) (r2 X.K (lk2 (cm2 .gt))) := by
  refine (OpR.or op_gt op_gt_str).weak fun x y H Q ⟨F, m, M, d, e, r, M', A, hd, he, es, w⟩ => ?_
  obtain ⟨b, e1, rfl, rfl⟩ := bR_ok es
  rcases ltD_inv e1 with ⟨i, j, h1, h2, rfl⟩ | ⟨i, j, h1, h2, rfl⟩
  · exact .inl ⟨j, i, look_int A hd h2, look_int A he h1, w.v A (.bl _)⟩
  · exact .inr ⟨j, i, look_str A hd h2, look_str A he h1, w.v A (.bl _)⟩
theorem not_lt_dec (i j : Int) : (!decide (j < i)) = decide (i ≤ j) := by
  by_cases h : j < i
  · rw [decide_eq_true h, decide_eq_false (by omega)] <;> rfl
  · rw [decide_eq_false h, decide_eq_true (by omega)] <;> rfl
theorem cm_le : OpR X (compareOp .LtE) (r2 X.K (lk2 (cm2 .le))) := by
  refine (OpR.or op_le op_le_str).weak fun x y H Q ⟨F, m, M, d, e, r, M', A, hd, he, es, w⟩ => ?_
  obtain ⟨b, e0, rfl, rfl⟩ := bR_ok es
  obtain ⟨c, e1, rfl⟩ := Option.map_eq_some_iff.mp e0
  rcases ltD_inv e1 with ⟨i, j, h1, h2, rfl⟩ | ⟨i, j, h1, h2, rfl⟩
  · exact .inl ⟨j, i, look_int A hd h2, look_int A he h1, by show Q (.bl (decide (j ≤ i))) H; rw [← not_lt_dec]; exact w.v A (.bl _)⟩
  · exact .inr ⟨j, i, look_str A hd h2, look_str A he h1, w.v A (.bl _)⟩
theorem cm_ge : OpR X (compareOp .GtE) (r2 X.K (lk2 (cm2 .ge))) := by
  refine (OpR.or op_ge op_ge_str).weak fun x y H Q ⟨F, m, M, d, e, r, M', A, hd, he, es, w⟩ => ?_
  obtain ⟨b, e0, rfl, rfl⟩ := bR_ok es
  obtain ⟨c, e1, rfl⟩ := Option.map_eq_some_iff.mp e0
  rcases ltD_inv e1 with ⟨i, j, h1, h2, rfl⟩ | ⟨i, j, h1, h2, rfl⟩
  · exact .inl ⟨i, j, look_int A hd h1, look_int A he h2, by show Q (.bl (decide (j ≤ i))) H; rw [← not_lt_dec]; exact w.v A (.bl _)⟩
  · exact .inr ⟨i, j, look_str A hd h1, look_str A he h2, w.v A (.bl _)⟩
theorem non_dec {K : PySem.W.Frag} {H : Hp} {F : Fz} {m : List Addr} {M : Store} {d : D} {x : V} (A : Ab K H F m M) (hd : Rep K H F m d x) : decide (x = .non) = decide (look M d = .non) := by
  by_cases h : look M d = .non
  · rw [decide_eq_true h, decide_eq_true ((look_non A hd).mp h)]
  · rw [decide_eq_false h, decide_eq_false fun z => h ((look_non A hd).mpr z)]
/-- is None: the right side a value none -/
abbrev isS (f : Cm) : D → D → Store → Rs FV := fun x y M => match y with
  | .non => cm2 f (look M x) (look M y) M
  | _ => .no
theorem cm_isn : OpR X (compareOp .Is) (r2 X.K (isS .isn)) := by
  refine op_isN.weak fun x y H Q ⟨F, m, M, d, e, r, M', A, hd, he, es, w⟩ => ?_
  cases e <;> try (cases es; done)
  cases he
  cases es
  exact ⟨rfl, by rw [non_dec A hd]; exact w.v A (.bl _)⟩
theorem cm_notn : OpR X (compareOp .IsNot) (r2 X.K (isS .notn)) := by
  refine op_notN.weak fun x y H Q ⟨F, m, M, d, e, r, M', A, hd, he, es, w⟩ => ?_
  cases e <;> try (cases es; done)
  cases he
  cases es
  exact ⟨rfl, by rw [non_dec A hd]; exact w.v A (.bl _)⟩
end
end PyI
/-! PyD: places, slices, truth, calls of built-ins, by values -/
namespace PyI
open PySem PySem.Spec L2
open PyProof.Rows hiding St

section
variable {K : PySem.W.Frag} {H H' : Hp} {F F' : Fz} {m m' : List Addr} {M M' : Store}
/-! ### flat data -/
theorem flat_rep {d : D} {v : V} (h : Rep K H F m d v) (f : flatD d = true) : flatV v = true := by
  cases h <;> first | rfl | (simp [flatD] at f)
theorem flats_rep : ∀ {ds : List D} {vs : List V}, Reps K H F m ds vs → ds.all flatD = true → vs.all flatV = true
  | _, _, .nil, _ => rfl
  | _, _, .cons h r, f => by
    rw [List.all_cons, Bool.and_eq_true] at f ⊢
    exact ⟨flat_rep h f.1, flats_rep r f.2⟩
theorem eqF_rep {d e : D} {x y : V} (hd : Rep K H F m d x) (he : Rep K H F m e y) (fd : flatD d = true) (fe : flatD e = true) : eqV x y = eqF d e := by
  cases hd <;> cases he <;> first | rfl | (simp [flatD] at fd; done) | (simp [flatD] at fe; done)
theorem inF_rep {d : D} {x : V} (hd : Rep K H F m d x) (fd : flatD d = true) : ∀ {ds : List D} {vs : List V}, Reps K H F m ds vs → ds.all flatD = true → inV x vs = inF d ds
  | _, _, .nil, _ => rfl
  | _, _, .cons h r, f => by
    rw [List.all_cons, Bool.and_eq_true] at f
    unfold inV inF
    rw [List.any_cons, List.any_cons, eqF_rep h hd f.1 fd]
    congr 1
    exact inF_rep hd fd r f.2
/-! ### dicts -/
theorem dlook_rep : ∀ {ks : List Key} {ds : List D} {vs : List V} (k : Key), Reps K H F m ds vs → ks.length = vs.length →
    (dlook ks ds k = none ∧ valV (ks.zip vs) k = none) ∨ ∃ d v, dlook ks ds k = some d ∧ valV (ks.zip vs) k = some v ∧ Rep K H F m d v
  | [], _, _, k, r, l => by
    cases r with
    | nil => exact .inl ⟨rfl, rfl⟩
    | cons h r => simp at l
  | q :: ks, _, _, k, r, l => by
    cases r with
    | nil => simp at l
    | @cons x v xs vs h r =>
      by_cases e : q = k
      · exact .inr ⟨x, v, if_pos e, by rw [List.zip_cons_cons]; exact valV_pos e, h⟩
      · have ih := dlook_rep k r (by simpa using l)
        have e1 : dlook (q :: ks) (x :: xs) k = dlook ks xs k := if_neg e
        have e2 : valV ((q :: ks).zip (v :: vs)) k = valV (ks.zip vs) k := by rw [List.zip_cons_cons]; exact valV_neg e
        rw [e1, e2]
        exact ih
theorem putK_zip {vs : List V} {ks : List Key} {k : Key} {v : V} (l : ks.length = vs.length) :
    putK (ks.zip vs) k v = if (ks.any fun q => decide (q = k)) = true then ks.zip ((ks.zip vs).map fun p => if p.1 = k then v else p.2) else (ks ++ [k]).zip (vs ++ [v]) := by
  have hany : ((ks.zip vs).any fun kv => decide (kv.1 = k)) = (ks.any fun q => decide (q = k)) := by
    have : ∀ (ks : List Key) (vs : List V), ks.length = vs.length → ((ks.zip vs).any fun kv => decide (kv.1 = k)) = (ks.any fun q => decide (q = k)) := by
      intro ks
      induction ks with
      | nil => intro vs l; simp
      | cons q ks ih =>
        intro vs l
        cases vs with
        | nil => simp at l
        | cons v vs => rw [List.zip_cons_cons, List.any_cons, List.any_cons, ih vs (by simpa using l)]
    exact this ks vs l
  unfold putK
  rw [hany]
  by_cases h : (ks.any fun q => decide (q = k)) = true
  · rw [if_pos h, if_pos h]
    have : ∀ (ks : List Key) (vs : List V), ks.length = vs.length → (ks.zip vs).map (fun kv => if kv.1 = k then (kv.1, v) else kv) = ks.zip ((ks.zip vs).map fun p => if p.1 = k then v else p.2) := by
      intro ks
      induction ks with
      | nil => intro vs l; rfl
      | cons q ks ih =>
        intro vs l
        cases vs with
        | nil => simp at l
        | cons u vs =>
          simp only [List.zip_cons_cons, List.map_cons]
          rw [ih vs (by simpa using l)]
          by_cases e : q = k
          · simp [e]
          · simp [e]
    exact this ks vs l
  · rw [if_neg h, if_neg h, List.zip_append l]
    rfl
theorem dput_rep {ks : List Key} {ds : List D} {vs : List V} {k : Key} {d : D} {v : V} (r : Reps K H F m ds vs) (l : ks.length = vs.length) (h : Rep K H F m d v) :
    ∃ ws, putK (ks.zip vs) k v = (dput ks ds k d).1.zip ws ∧ (dput ks ds k d).1.length = ws.length ∧ Reps K H F m (dput ks ds k d).2 ws := by
  rw [putK_zip l]
  unfold dput
  by_cases e : (ks.any fun q => decide (q = k)) = true
  · rw [if_pos e, if_pos e]
    have lz : ks.length = ((ks.zip vs).map fun p => if p.1 = k then v else p.2).length := by
      rw [List.length_map, List.length_zip, l, Nat.min_self]
    refine ⟨_, rfl, lz, ?_⟩
    show Reps K H F m ((ks.zip ds).map fun p => if p.1 = k then d else p.2) _
    clear lz e
    induction ks generalizing ds vs with
    | nil => exact .nil
    | cons q ks ih =>
      cases r with
      | nil => simp at l
      | @cons x u xs us hx r =>
        simp only [List.zip_cons_cons, List.map_cons]
        refine .cons ?_ (ih r (by simpa using l))
        by_cases e : q = k
        · simp only [if_pos e]; exact h
        · simp only [if_neg e]; exact hx
  · rw [if_neg e, if_neg e]
    exact ⟨_, rfl, by simp [l], r.append (.cons h .nil)⟩
theorem toKey_rep {d : D} {v : V} {k : Key} (h : Rep K H F m d v) (e : toKey d = some k) : v = kV k := by
  cases h <;> simp [toKey] at e <;> subst e <;> rfl
end

section
variable {X : Cx}
theorem op_in_dct (hu : X.A.units + 1 < cLine) : OpR X (compareOp .In) (fun x y H Q => ∃ a o, y = .ref a ∧ DGet H a x o ∧ Q (.bl o.isSome) H) := by
  intro pins s σ H x y v u Q I rx ry h
  obtain ⟨a, o, rfl, g, q⟩ := h
  obtain rfl : u = Value.ref a := ry
  exact d_in hu I g rx fun s3 I3 => ⟨.bl o.isSome, H, I3, rfl, q⟩
theorem op_notIn_dct (hu : X.A.units + 1 < cLine) : OpR X (compareOp .NotIn) (fun x y H Q => ∃ a o, y = .ref a ∧ DGet H a x o ∧ Q (.bl (!o.isSome)) H) := by
  intro pins s σ H x y v u Q I rx ry h
  obtain ⟨a, o, rfl, g, q⟩ := h
  obtain rfl : u = Value.ref a := ry
  exact d_notIn hu I g rx fun s3 I3 => ⟨.bl (!o.isSome), H, I3, rfl, q⟩

/-- the cases of x in y -/
theorem memD_cases {K : PySem.W.Frag} {H : Hp} {F : Fz} {m : List Addr} {M : Store} {d e : D} {x y : V} {b : Bool} (A : Ab K H F m M) (hd : Rep K H F m d x) (he : Rep K H F m e y) (h : memD (look M d) (look M e) = some b) :
    (∃ (c : Nat) (z : Str), x = .str ⟨#[c]⟩ ∧ y = .str z ∧ b = decide (c ∈ z.cps.toList)) ∨ (∃ i j, x = .str i ∧ y = .str j ∧ b = !(Builtin.Str.occurrences j i 0 j.length 1).isEmpty) ∨
      (∃ p xs, y = .ref p ∧ (SqL K H p xs ∨ SqT K H p xs) ∧ flatV x = true ∧ xs.all flatV = true ∧ b = inV x xs) ∨ ∃ a o, y = .ref a ∧ DGet H a x o ∧ b = o.isSome := by
  unfold memD at h
  split at h
  · rename_i z ez
    split at h
    · rename_i c ec
      have ex := look_str A hd ec
      have ey := look_str A he ez
      injection h with h
      split at h
      · rename_i s es
        refine .inl ⟨s, z, ?_, ey, h.symm⟩
        rw [ex]
        congr 1
        obtain ⟨cp⟩ := c
        simp only at es
        congr 1
        exact Array.toList_inj.mp (by simpa using es)
      · exact .inr (.inl ⟨c, z, ex, ey, h.symm⟩)
    · cases h
  · rename_i ys ey
    split at h
    · rename_i hf
      cases h
      rw [Bool.and_eq_true] at hf
      obtain ⟨p, vs, rfl, hp, r⟩ := look_tup A he ey
      rcases hd.look A with h | ⟨n, q, e1, e2, e3, h⟩
      · exact .inr (.inr (.inl ⟨p, vs, rfl, .inr hp, flat_rep h hf.1, flats_rep r hf.2, (inF_rep h hf.1 r hf.2).symm⟩))
      · exfalso
        generalize look M d = u at h hf
        cases u <;> first | exact h.elim | (simp [flatD] at hf)
    · cases h
  · rename_i ys ey
    split at h
    · rename_i hf
      cases h
      rw [Bool.and_eq_true] at hf
      obtain ⟨p, vs, rfl, hp, r⟩ := look_lst A he ey
      rcases hd.look A with h | ⟨n, q, e1, e2, e3, h⟩
      · exact .inr (.inr (.inl ⟨p, vs, rfl, .inl (SqL.of hp), flat_rep h hf.1, flats_rep r hf.2, (inF_rep h hf.1 r hf.2).symm⟩))
      · exfalso
        generalize look M d = u at h hf
        cases u <;> first | exact h.elim | (simp [flatD] at hf)
    · cases h
  · rename_i ks vs ey
    obtain ⟨k, ek, ek2⟩ := Option.map_eq_some_iff.mp h
    obtain ⟨p, us, rfl, hp, l, r⟩ := look_dct A he ey
    have hx : x = kV k := by
      rcases hd.look A with h | ⟨n, q, e1, e2, e3, h⟩
      · exact toKey_rep h ek
      · exfalso
        generalize look M d = u at h ek
        cases u <;> first | exact h.elim | (simp [toKey] at ek; done)
    subst hx
    refine .inr (.inr (.inr ⟨p, _, rfl, DGet.k hp, ?_⟩))
    rcases dlook_rep k r l with ⟨h1, h2⟩ | ⟨d', v', h1, h2, _⟩
    · rw [h2, ← ek2, h1]; rfl
    · rw [h2, ← ek2, h1]; rfl
  · cases h
theorem cm_in (hu : X.A.units + 1 < cLine) : OpR X (compareOp .In) (r2 X.K (lk2 (cm2 .inn))) := by
  refine (OpR.or op_in_sign (OpR.or op_in_str (OpR.or op_in_seq (op_in_dct hu)))).weak fun x y H Q ⟨F, m, M, d, e, r, M', A, hd, he, es, w⟩ => ?_
  obtain ⟨b, e1, rfl, rfl⟩ := bR_ok es
  rcases memD_cases A hd he e1 with ⟨c, z, h1, h2, rfl⟩ | ⟨i, j, h1, h2, rfl⟩ | ⟨p, xs, h1, h2, h3, h4, rfl⟩ | ⟨a, o, h1, h2, rfl⟩
  · exact .inl ⟨c, z, h1, h2, w.v A (.bl _)⟩
  · exact .inr (.inl ⟨i, j, h1, h2, w.v A (.bl _)⟩)
  · exact .inr (.inr (.inl ⟨p, xs, h1, h2, h3, h4, w.v A (.bl _)⟩))
  · exact .inr (.inr (.inr ⟨a, o, h1, h2, w.v A (.bl _)⟩))
theorem cm_notin (hu : X.A.units + 1 < cLine) : OpR X (compareOp .NotIn) (r2 X.K (lk2 (cm2 .notin))) := by
  refine (OpR.or op_notIn_sign (OpR.or op_notin_str (OpR.or op_notIn_seq (op_notIn_dct hu)))).weak fun x y H Q ⟨F, m, M, d, e, r, M', A, hd, he, es, w⟩ => ?_
  obtain ⟨b0, e0, rfl, rfl⟩ := bR_ok es
  obtain ⟨b, e1, rfl⟩ := Option.map_eq_some_iff.mp e0
  rcases memD_cases A hd he e1 with ⟨c, z, h1, h2, rfl⟩ | ⟨i, j, h1, h2, rfl⟩ | ⟨p, xs, h1, h2, h3, h4, rfl⟩ | ⟨a, o, h1, h2, rfl⟩
  · exact .inl ⟨c, z, h1, h2, w.v A (.bl _)⟩
  · exact .inr (.inl ⟨i, j, h1, h2, w.v A (.bl _)⟩)
  · exact .inr (.inr (.inl ⟨p, xs, h1, h2, h3, h4, w.v A (.bl _)⟩))
  · exact .inr (.inr (.inr ⟨a, o, h1, h2, w.v A (.bl _)⟩))

/-! ### truth -/
theorem tR_ok {o : Option Bool} {M M' : Store} {b : Bool} (h : tR o M = .ok b M') : o = some b ∧ M' = M := by
  cases o with
  | none => cases h
  | some c => cases h; exact ⟨rfl, rfl⟩
theorem tru_rep {K : PySem.W.Frag} {H : Hp} {F : Fz} {m : List Addr} {M : Store} {d : D} {x : V} {b : Bool} (A : Ab K H F m M) (hd : Rep K H F m d x) (h : truD (look M d) = some b) : TruV K x H b := by
  unfold truD at h
  split at h
  · rename_i e; cases h; rw [(look_non A hd).mp e]; rfl
  · rename_i c e; cases h; rw [look_bl A hd e]; rfl
  · rename_i i e; cases h; rw [look_int A hd e]; rfl
  · rename_i y e
    split at h
    · rename_i hy; cases h; rw [look_str A hd e]; exact ⟨by rw [← sl_eq]; exact hy, rfl⟩
    · cases h
  · rename_i xs e; cases h
    obtain ⟨p, vs, rfl, hp, r⟩ := look_tup A hd e
    refine .inr (.inl ⟨vs, hp, ?_⟩)
    cases r <;> rfl
  · rename_i xs e; cases h
    obtain ⟨p, vs, rfl, hp, r⟩ := look_lst A hd e
    refine .inl ⟨vs, SqL.of hp, ?_⟩
    cases r <;> rfl
  · rename_i ks xs e; cases h
    obtain ⟨p, vs, rfl, hp, l, r⟩ := look_dct A hd e
    refine .inr (.inr ⟨_, hp, ?_⟩)
    cases ks with
    | nil => rfl
    | cons k ks =>
      cases vs with
      | nil => simp at l
      | cons v vs => rfl
  · cases h

/-! ### places and slices -/
theorem vR_ok {o : Option D} {M M' : Store} {r : FV} (h : vR o M = .ok r M') : ∃ d, o = some d ∧ r = .v d ∧ M' = M := by
  cases o with
  | none => cases h
  | some b => cases h; exact ⟨b, rfl, rfl, rfl⟩
theorem atI_rep {K : PySem.W.Frag} {H : Hp} {F : Fz} {m : List Addr} {ds : List D} {vs : List V} {i : Int} {d : D} (r : Reps K H F m ds vs) (h : atI ds i = some d) : ∃ v, atI vs i = some v ∧ Rep K H F m d v := by
  unfold atI at h ⊢
  rw [← r.length]
  cases e : ixN ds.length i with
  | none => rw [e] at h; cases h
  | some j =>
    rw [e] at h
    exact r.get h
/-- d[y] of a dict, in the place of an index -/
theorem ix_dct (hu : X.A.units + 1 < cLine) : IxR X (fun x y H Q => ∃ a v, x = .ref a ∧ DGet H a y (some v) ∧ Q v H) := by
  intro value slice pins s σ H x y v u Q I rx ry h hs
  obtain ⟨a, w, rfl, g, q⟩ := h
  obtain rfl : v = Value.ref a := rx
  exact tail_any (dict_typeIs I g) PySem.F.slot_dict_getitem.lookup (d_getItem hu I g ry fun w' s3 I3 rw' => ⟨w, H, I3, rw', q⟩) hs
theorem ix_all (hu : X.A.units + 1 < cLine) : IxR X (r2 X.K fun x y M => ixS (look M x) y M) := by
  refine (IxR.or ix_seq (ix_dct hu)).weak fun x y H Q ⟨F, m, M, d, e, r, M', A, hd, he, es, w⟩ => ?_
  replace es : ixS (look M d) e M = .ok r M' := es
  unfold ixS at es
  split at es
  · rename_i xs i e1
    obtain ⟨z, h1, rfl, rfl⟩ := vR_ok es
    obtain ⟨p, vs, rfl, hp, rr⟩ := look_tup A hd e1
    cases he
    obtain ⟨v, h2, h3⟩ := atI_rep rr h1
    exact .inl (.inr (.inl ⟨p, vs, i, v, rfl, rfl, hp, h2, w.v A h3⟩))
  · rename_i xs i e1
    obtain ⟨z, h1, rfl, rfl⟩ := vR_ok es
    obtain ⟨p, vs, rfl, hp, rr⟩ := look_lst A hd e1
    cases he
    obtain ⟨v, h2, h3⟩ := atI_rep rr h1
    exact .inl (.inl ⟨p, vs, i, v, rfl, rfl, SqL.of hp, h2, w.v A h3⟩)
  · rename_i z i e1
    obtain ⟨h1, h2⟩ := guardR_ok es
    obtain ⟨u, h3, rfl, rfl⟩ := vR_ok h2
    obtain ⟨c, h4, rfl⟩ := Option.map_eq_some_iff.mp h3
    cases he
    exact .inl (.inr (.inr ⟨z, i, c, look_str A hd e1, rfl, by rw [← sl_eq]; exact of_decide_eq_true h1, h4, w.v A (.str _)⟩))
  · rename_i ks vs k _ e1
    obtain ⟨z, h1, rfl, rfl⟩ := vR_ok es
    obtain ⟨q, h2, h3⟩ := Option.bind_eq_some_iff.mp h1
    obtain ⟨p, us, rfl, hp, l, rr⟩ := look_dct A hd e1
    have hy := toKey_rep he h2
    subst hy
    rcases dlook_rep q rr l with ⟨h4, _⟩ | ⟨d', v', h4, h5, h6⟩
    · rw [h3] at h4; cases h4
    · rw [h3] at h4; cases h4
      exact .inr ⟨p, v', rfl, by rw [← h5]; exact DGet.k hp, w.v A h6⟩
  · cases es
theorem cutD_rep {K : PySem.W.Frag} {H : Hp} {F : Fz} {m : List Addr} {ds : List D} {vs : List V} (r : Reps K H F m ds vs) (lo hi : Option Int) : Reps K H F m (cutD ds lo hi) (cutV vs lo hi) := by
  unfold cutD cutV
  rw [r.length]
  exact (r.drop _).taken _
theorem cut_whole {xs : List V} {lo hi : Option Int} (h : HT.sIx xs.length 0 lo = 0 ∧ HT.sIx xs.length xs.length hi = xs.length) : cutV xs lo hi = xs := by
  unfold cutV
  rw [h.1, h.2, List.drop_zero, Nat.sub_zero, List.take_length]
def rSl (K : PySem.W.Frag) : V → Option Int → Option Int → Hp → VK → Prop := fun x lo hi H Q => ∃ F m M d r M', Ab K H F m M ∧ Rep K H F m d x ∧ slS (look M d) lo hi M = .ok r M' ∧ Wish K H F m r M' Q
theorem sl_all : SlR X (rSl X.K) := by
  refine (SlR.or sl_tupA (SlR.or sl_list sl_str)).weak fun x lo hi H Q ⟨F, m, M, d, r, M', A, hd, es, w⟩ => ?_
  unfold slS at es
  split at es
  · rename_i xs e1
    cases es
    obtain ⟨p, vs, rfl, hp, rr⟩ := look_tup A hd e1
    refine .inl ⟨p, vs, rfl, hp, fun h => ?_, fun _ a ha => w.tup A (cutD_rep rr lo hi) a ha⟩
    have r2 := cutD_rep rr lo hi
    rw [cut_whole h] at r2
    exact w.v A (.tup hp r2)
  · rename_i xs e1
    cases es
    obtain ⟨p, vs, rfl, hp, rr⟩ := look_lst A hd e1
    exact .inr (.inl ⟨p, vs, rfl, SqL.of hp, fun a ha => w.lst A (cutD_rep rr lo hi) a ha⟩)
  · rename_i z e1
    obtain ⟨h1, h2⟩ := guardR_ok es
    cases h2
    exact .inr (.inr ⟨z, look_str A hd e1, by rw [← sl_eq]; exact of_decide_eq_true h1, w.v A (.str _)⟩)
  · cases es

/-! ### o[i] = v -/
def rSet (K : PySem.W.Frag) : TSet := fun o i v H Q => ∃ F m M d e z M', Ab K H F m M ∧ Rep K H F m d o ∧ Rep K H F m e i ∧ Rep K H F m z v ∧ setS d (look M d) e z M = .ok () M' ∧
  ∀ H' F' m', Gr H F m H' F' m' → Ab K H' F' m' M' → Q H'
theorem set_all (hu : X.A.units + 1 < cLine) : PSet X (rSet X.K) := by
  intro pins s σ H o i v ov iv u Q I ro ri rv h
  obtain ⟨F, m, M, d, e, z, M', A, hd, he, hz, es, w⟩ := h
  unfold setS at es
  split at es
  · rename_i n xs k e1
    split at es
    · rename_i j hj
      cases es
      cases hd with
      | ref hn =>
        cases he
        obtain ⟨d0, h0, h1⟩ := A.at hn
        have e2 : d0 = .lst xs := by
          have e3 : (M[n]?).getD .non = .lst xs := e1
          rw [h0] at e3; exact e3
        subst e2
        obtain ⟨vs, hp, r⟩ := h1
        refine set_list pins s σ H _ _ _ ov iv u Q I ro ri rv ⟨_, vs, k, j, rfl, rfl, hp, by rw [← r.length]; exact hj, ?_⟩
        obtain ⟨g, A'⟩ := A.write (o := .lst (vs.set j v)) (d := .lst (xs.set j z)) hn fun H' F' m' g e => ⟨_, e, (Reps.mono g _ _ r).set (Rep.mono g _ _ hz) j⟩
        exact w _ _ _ g A'
    · cases es
  · rename_i k _ _ _ n ks ws e1
    split at es
    · rename_i q hk
      obtain ⟨h1, h2⟩ := guardR_ok es
      cases h2
      cases hd with
      | ref hn =>
        obtain ⟨d0, h0, h3⟩ := A.at hn
        have e2 : d0 = .dct ks ws := by
          have e3 : (M[n]?).getD .non = .dct ks ws := e1
          rw [h0] at e3; exact e3
        subst e2
        obtain ⟨vs, hp, l, r⟩ := h3
        have hy := toKey_rep he hk
        subst hy
        obtain ⟨us, h4, h5, h6⟩ := dput_rep (k := q) r l hz
        obtain rfl : ov = Value.ref _ := ro
        refine d_setItem hu I (DPut.k hp ?_) ri rv fun s4 I4 => ⟨_, I4, ?_⟩
        · rw [List.length_zip, ← l, Nat.min_self, ← sl_eq]; exact of_decide_eq_true h1
        · rw [h4]
          obtain ⟨g, A'⟩ := A.write (o := .dK ((dput ks ws q z).1.zip us)) (d := .dct (dput ks ws q z).1 (dput ks ws q z).2) hn fun H' F' m' g e => ⟨_, e, h5, Reps.mono g _ _ h6⟩
          exact w _ _ _ g A'
    · cases es
  · cases es
end
end PyI
/-! PyE: calls of built-ins and of their methods, by values -/
namespace PyI
open PySem PySem.Spec L2
open PyProof.Rows hiding St

section
variable {K : PySem.W.Frag} {H H' : Hp} {F F' : Fz} {m m' : List Addr} {M M' : Store}
theorem Reps.one {d : D} {vs : List V} (h : Reps K H F m [d] vs) : ∃ v, vs = [v] ∧ Rep K H F m d v := by
  cases h with
  | cons a b => cases b; exact ⟨_, rfl, a⟩
theorem Reps.two {d e : D} {vs : List V} (h : Reps K H F m [d, e] vs) : ∃ v w, vs = [v, w] ∧ Rep K H F m d v ∧ Rep K H F m e w := by
  cases h with
  | cons a b =>
    obtain ⟨w, rfl, h⟩ := b.one
    exact ⟨_, w, rfl, a, h⟩
theorem look1 {f : D → D} {ds : List D} {x : D} (h : ds.map f = [x]) : ∃ d, ds = [d] ∧ f d = x := by
  cases ds with
  | nil => simp at h
  | cons d r => cases r with
    | nil => simp at h; exact ⟨d, rfl, h⟩
    | cons _ _ => simp at h
theorem look2 {f : D → D} {ds : List D} {x y : D} (h : ds.map f = [x, y]) : ∃ d e, ds = [d, e] ∧ f d = x ∧ f e = y := by
  cases ds with
  | nil => simp at h
  | cons d r => cases r with
    | nil => simp at h
    | cons e r => cases r with
      | nil => simp at h; exact ⟨d, e, rfl, h.1, h.2⟩
      | cons _ _ => simp at h
theorem intsOf_rep : ∀ {ds : List D} {vs : List V} {ns : List Int}, Reps K H F m ds vs → intsOf ds = some ns → vs = ns.map V.int
  | [], _, _, .nil, e => by cases e; rfl
  | d :: ds, _, ns, .cons h r, e => by
    cases d with
    | int i =>
      simp only [intsOf] at e
      obtain ⟨ms, e1, e2⟩ := Option.map_eq_some_iff.mp e
      subst e2
      cases h
      rw [intsOf_rep r e1] <;> rfl
    | _ => simp [intsOf] at e
theorem blsOf_rep : ∀ {ds : List D} {vs : List V} {ns : List Bool}, Reps K H F m ds vs → blsOf ds = some ns → vs = ns.map V.bl
  | [], _, _, .nil, e => by cases e; rfl
  | d :: ds, _, ns, .cons h r, e => by
    cases d with
    | bl i =>
      simp only [blsOf] at e
      obtain ⟨ms, e1, e2⟩ := Option.map_eq_some_iff.mp e
      subst e2
      cases h
      rw [blsOf_rep r e1] <;> rfl
    | _ => simp [blsOf] at e
theorem strsOf_rep : ∀ {ds : List D} {vs : List V} {ns : List Str}, Reps K H F m ds vs → strsOf ds = some ns → vs = ns.map V.str
  | [], _, _, .nil, e => by cases e; rfl
  | d :: ds, _, ns, .cons h r, e => by
    cases d with
    | str i =>
      simp only [strsOf] at e
      obtain ⟨ms, e1, e2⟩ := Option.map_eq_some_iff.mp e
      subst e2
      cases h
      rw [strsOf_rep r e1] <;> rfl
    | _ => simp [strsOf] at e
theorem oI_ok {o : Option Int} {r : FV} (h : oI o M = .ok r M') : ∃ i, o = some i ∧ r = .v (.int i) ∧ M' = M := by
  cases o with
  | none => cases h
  | some b => cases h; exact ⟨b, rfl, rfl, rfl⟩
theorem minI_spec : ∀ (r : List Int) (n : Int), (minI n r = n ∨ minI n r ∈ r) ∧ minI n r ≤ n ∧ ∀ y ∈ r, minI n r ≤ y
  | [], n => ⟨.inl rfl, Int.le_refl _, fun y h => by cases h⟩
  | x :: r, n => by
    obtain ⟨h1, h2, h3⟩ := minI_spec r (if x < n then x else n)
    show (minI (if x < n then x else n) r = n ∨ _) ∧ _
    by_cases hx : x < n
    · rw [if_pos hx] at h1 h2 h3
      simp only [minI, if_pos hx]
      refine ⟨.inr ?_, by omega, fun y hy => ?_⟩
      · rcases h1 with h | h
        · rw [h]; exact List.mem_cons_self
        · exact List.mem_cons_of_mem _ h
      · rcases List.mem_cons.mp hy with rfl | hy
        · exact h2
        · exact h3 y hy
    · rw [if_neg hx] at h1 h2 h3
      simp only [minI, if_neg hx]
      refine ⟨?_, h2, fun y hy => ?_⟩
      · rcases h1 with h | h
        · exact .inl h
        · exact .inr (List.mem_cons_of_mem _ h)
      · rcases List.mem_cons.mp hy with rfl | hy
        · omega
        · exact h3 y hy
theorem maxI_spec : ∀ (r : List Int) (n : Int), (maxI n r = n ∨ maxI n r ∈ r) ∧ n ≤ maxI n r ∧ ∀ y ∈ r, y ≤ maxI n r
  | [], n => ⟨.inl rfl, Int.le_refl _, fun y h => by cases h⟩
  | x :: r, n => by
    obtain ⟨h1, h2, h3⟩ := maxI_spec r (if x > n then x else n)
    by_cases hx : x > n
    · rw [if_pos hx] at h1 h2 h3
      simp only [maxI, if_pos hx]
      refine ⟨.inr ?_, by omega, fun y hy => ?_⟩
      · rcases h1 with h | h
        · rw [h]; exact List.mem_cons_self
        · exact List.mem_cons_of_mem _ h
      · rcases List.mem_cons.mp hy with rfl | hy
        · exact h2
        · exact h3 y hy
    · rw [if_neg hx] at h1 h2 h3
      simp only [maxI, if_neg hx]
      refine ⟨?_, h2, fun y hy => ?_⟩
      · rcases h1 with h | h
        · exact .inl h
        · exact .inr (List.mem_cons_of_mem _ h)
      · rcases List.mem_cons.mp hy with rfl | hy
        · omega
        · exact h3 y hy
/-- pairs, for dict(..) -/
theorem pairsOf_rep : ∀ {ds : List D} {vs : List V} {ps : List (Key × D)}, Reps K H F m ds vs → pairsOf ds = some ps →
    ∃ (as : List Addr) (kvs : List (Key × V)), vs = as.map V.ref ∧ Paired (fun p kv => SqT K H p [kV kv.1, kv.2]) as kvs ∧ Paired (fun (p : Key × D) (kv : Key × V) => p.1 = kv.1 ∧ Rep K H F m p.2 kv.2) ps kvs
  | [], _, _, .nil, e => by
    cases e
    exact ⟨[], [], rfl, .nil, .nil⟩
  | d :: ds, _, ps, .cons h r, e => by
    unfold pairsOf at e
    split at e <;> try (exfalso; simp_all; done)
    rename_i k v rr eq
    injection eq with e1 e2
    subst e1 e2
    obtain ⟨q, e3, e4⟩ := Option.bind_eq_some_iff.mp e
    obtain ⟨ps', e5, e6⟩ := Option.map_eq_some_iff.mp e4
    subst e6
    obtain ⟨as, kvs, h1, h2, h3⟩ := pairsOf_rep r e5
    cases h with
    | @tup p _ us hp hr =>
      obtain ⟨a, b, rfl, ha, hb⟩ := hr.two
      have hk := toKey_rep ha e3
      subst hk
      exact ⟨p :: as, (q, b) :: kvs, by rw [h1] <;> rfl, .cons hp h2, .cons ⟨rfl, hb⟩ h3⟩
theorem dmerge_rep : ∀ {ps : List (Key × D)} {kvs : List (Key × V)} {ks : List Key} {ds : List D} {vs : List V}, Paired (fun (p : Key × D) (kv : Key × V) => p.1 = kv.1 ∧ Rep K H F m p.2 kv.2) ps kvs →
    Reps K H F m ds vs → ks.length = vs.length → ∃ ws, mergeK (ks.zip vs) kvs = (dmerge ks ds ps).1.zip ws ∧ (dmerge ks ds ps).1.length = ws.length ∧ Reps K H F m (dmerge ks ds ps).2 ws
  | _, _, ks, ds, vs, .nil, r, l => ⟨vs, rfl, l, r⟩
  | (k, d) :: ps, (k', v) :: kvs, ks, ds, vs, .cons h t, r, l => by
    obtain ⟨e, h⟩ := h
    simp only at e
    subst e
    obtain ⟨ws, h1, h2, h3⟩ := dput_rep (k := k) r l h
    obtain ⟨us, g1, g2, g3⟩ := dmerge_rep t h3 h2
    refine ⟨us, ?_, g2, g3⟩
    show mergeK (putK (ks.zip vs) k v) kvs = _
    rw [h1]
    exact g1
end

def tyName : Ty → String
  | .tup => "tuple" | .str => "str" | .bool => "bool" | .int => "int"
section
variable {K : PySem.W.Frag} {H : Hp} {F : Fz} {m : List Addr} {M : Store}
theorem sqT_tyX {p : Addr} {vs : List V} (h : SqT K H p vs) : TyX K H (.ref p) (.type "tuple") := by
  rcases h with (h | ⟨o, h⟩) | ⟨o, its, n, h, hc, _⟩
  · exact .base (.tup h)
  · exact .fTuple h
  · exact .kTuple h hc
theorem ref_tyX {n : Nat} {v : V} (A : Ab K H F m M) (h : Rep K H F m (.ref n) v) : (∃ xs, look M (.ref n) = .lst xs ∧ TyX K H v (.type "list")) ∨ ∃ ks xs, look M (.ref n) = .dct ks xs ∧ TyX K H v (.type "dict") := by
  cases h with
  | @ref p n h =>
    obtain ⟨d, h1, h2⟩ := A.at h
    have e : look M (.ref n) = d := by show (M[n]?).getD .non = d; rw [h1] <;> rfl
    rw [e]
    cases d with
    | lst xs => obtain ⟨vs, h3, _⟩ := h2; exact .inl ⟨xs, rfl, .base (.lst h3)⟩
    | dct ks xs => obtain ⟨vs, h3, _⟩ := h2; exact .inr ⟨ks, xs, rfl, .base (.dK h3)⟩
    | _ => exact h2.elim
theorem kb (a b : String) (r : Bool) (h : kitB a b = some r) : PySem.W.kitOne K (.type a) (.type b) = some r := kit_ty h
theorem isi_kit (t : Ty) {d : D} {v : V} {b : Bool} (A : Ab K H F m M) (h : Rep K H F m d v) (e : isT t (look M d) = some b) : ∃ ty, TyX K H v ty ∧ PySem.W.kitOne K ty (.type (tyName t)) = some b := by
  cases h with
  | non => cases t <;> cases e <;> exact ⟨_, .base .non, kit_ty (by decide +kernel)⟩
  | bl x => cases t <;> cases e <;> exact ⟨_, .base (.bl x), kit_ty (by decide +kernel)⟩
  | int x => cases t <;> cases e <;> exact ⟨_, .base (.int x), kit_ty (by decide +kernel)⟩
  | str x => cases t <;> cases e <;> exact ⟨_, .base (.str x), kit_ty (by decide +kernel)⟩
  | tup h r => cases t <;> cases e <;> exact ⟨_, sqT_tyX h, kit_ty (by decide +kernel)⟩
  | lst f h r => cases t <;> cases e <;> exact ⟨_, .base (.lst h), kit_ty (by decide +kernel)⟩
  | dct f h l r => cases t <;> cases e <;> exact ⟨_, .base (.dK h), kit_ty (by decide +kernel)⟩
  | ref h =>
    rcases ref_tyX A (.ref h) with ⟨xs, e1, e2⟩ | ⟨ks, xs, e1, e2⟩
    · rw [e1] at e
      cases t <;> cases e <;> exact ⟨_, e2, kit_ty (by decide +kernel)⟩
    · rw [e1] at e
      cases t <;> cases e <;> exact ⟨_, e2, kit_ty (by decide +kernel)⟩
  | scr h => cases t <;> cases e
end

/-- the built-in's value, by its name and the number of arguments -/
def primOf1 (x : Str) : Option Prim :=
  if x = "len" then some .len
  else if x = "abs" then some .abs
  else if x = "max" then some .maxl
  else if x = "min" then some .minl
  else if x = "int" then some .int1
  else if x = "str" then some .str1
  else if x = "list" then some .list1
  else if x = "tuple" then some .tuple1
  else if x = "sum" then some .sum1
  else if x = "all" then some .all1
  else if x = "any" then some .any1
  else if x = "dict" then some .dict1
  else none
def primOf2 (x : Str) : Option Prim :=
  if x = "max" then some .max2
  else if x = "min" then some .min2
  else none
def primOf (x : Str) : Nat → Option Prim
  | 1 => primOf1 x
  | 2 => primOf2 x
  | _ => none
abbrev lkN (f : List D → List D → Store → Rs FV) : List D → Store → Rs FV := fun ds M => f (ds.map (look M)) ds M
section
variable {X : Cx}
theorem pr_len : CallR X (.builtin "len") (rN X.K (lkN (primS .len))) := by
  refine (CallR.or call_len call_lenD).weak fun xs H Q ⟨F, m, M, ds, r, M', A, rr, es, w⟩ => ?_
  have es : primS .len (ds.map (look M)) ds M = .ok r M' := es
  unfold primS at es
  split at es <;> try (exfalso; simp_all; done)
  · rename_i ys _ e
    cases es
    obtain ⟨d, rfl, e1⟩ := look1 e
    obtain ⟨v, rfl, h⟩ := rr.one
    obtain ⟨p, vs, rfl, hp, r1⟩ := look_tup A h e1
    exact .inl ⟨_, ys.length, rfl, .inr ⟨vs, hp, r1.length⟩, w.v A (.int _)⟩
  · rename_i ys _ e
    cases es
    obtain ⟨d, rfl, e1⟩ := look1 e
    obtain ⟨v, rfl, h⟩ := rr.one
    obtain ⟨p, vs, rfl, hp, r1⟩ := look_lst A h e1
    exact .inl ⟨_, ys.length, rfl, .inl ⟨vs, SqL.of hp, r1.length⟩, w.v A (.int _)⟩
  · rename_i ys _ e
    cases es
    obtain ⟨d, rfl, e1⟩ := look1 e
    obtain ⟨v, rfl, h⟩ := rr.one
    obtain ⟨p, rfl, hp⟩ := look_scr A h e1
    exact .inl ⟨_, ys.length, rfl, .inl ⟨_, hp.seq, by rw [List.length_map]⟩, w.v A (.int _)⟩
  · rename_i z _ e
    obtain ⟨h1, h2⟩ := guardR_ok es
    cases h2
    obtain ⟨d, rfl, e1⟩ := look1 e
    obtain ⟨v, rfl, h⟩ := rr.one
    obtain rfl := look_str A h e1
    exact .inl ⟨_, z.length, rfl, ⟨by rw [← sl_eq]; exact of_decide_eq_true h1, rfl⟩, w.v A (.int _)⟩
  · rename_i ks ys _ e
    cases es
    obtain ⟨d, rfl, e1⟩ := look1 e
    obtain ⟨v, rfl, h⟩ := rr.one
    obtain ⟨p, vs, rfl, hp, l, r1⟩ := look_dct A h e1
    refine .inr ⟨p, _, rfl, hp, ?_⟩
    rw [List.length_zip, ← l, Nat.min_self]
    exact w.v A (.int _)
theorem pr_abs : CallR X (.builtin "abs") (rN X.K (lkN (primS .abs))) := by
  refine call_abs.weak fun xs H Q ⟨F, m, M, ds, r, M', A, rr, es, w⟩ => ?_
  have es : primS .abs (ds.map (look M)) ds M = .ok r M' := es
  unfold primS at es
  split at es <;> try (exfalso; simp_all; done)
  rename_i i _ e
  cases es
  obtain ⟨d, rfl, e1⟩ := look1 e
  obtain ⟨v, rfl, h⟩ := rr.one
  obtain rfl := look_int A h e1
  exact ⟨i, rfl, w.v A (.int _)⟩
theorem pr_max2 (hc : X.calm = true) : CallR X (.builtin "max") (rN X.K (lkN (primS .max2))) := by
  refine (call_max2 hc).weak fun xs H Q ⟨F, m, M, ds, r, M', A, rr, es, w⟩ => ?_
  have es : primS .max2 (ds.map (look M)) ds M = .ok r M' := es
  unfold primS at es
  split at es <;> try (exfalso; simp_all; done)
  rename_i i j _ e
  cases es
  obtain ⟨d, f, rfl, e1, e2⟩ := look2 e
  obtain ⟨v, u, rfl, h, h'⟩ := rr.two
  obtain rfl := look_int A h e1
  obtain rfl := look_int A h' e2
  exact ⟨i, j, rfl, w.v A (.int _)⟩
theorem pr_min2 (hc : X.calm = true) : CallR X (.builtin "min") (rN X.K (lkN (primS .min2))) := by
  refine (call_min2 hc).weak fun xs H Q ⟨F, m, M, ds, r, M', A, rr, es, w⟩ => ?_
  have es : primS .min2 (ds.map (look M)) ds M = .ok r M' := es
  unfold primS at es
  split at es <;> try (exfalso; simp_all; done)
  rename_i i j _ e
  cases es
  obtain ⟨d, f, rfl, e1, e2⟩ := look2 e
  obtain ⟨v, u, rfl, h, h'⟩ := rr.two
  obtain rfl := look_int A h e1
  obtain rfl := look_int A h' e2
  exact ⟨i, j, rfl, w.v A (.int _)⟩
theorem pr_minl (hc : X.calm = true) : CallR X (.builtin "min") (rN X.K (lkN (primS .minl))) := by
  refine (cr_min hc).weak fun xs H Q ⟨F, m, M, ds, r, M', A, rr, es, w⟩ => ?_
  have es : primS .minl (ds.map (look M)) ds M = .ok r M' := es
  unfold primS at es
  split at es <;> try (exfalso; simp_all; done)
  rename_i ys _ e
  obtain ⟨i, h1, rfl, rfl⟩ := oI_ok es
  obtain ⟨ns, h2, h3⟩ := Option.bind_eq_some_iff.mp h1
  obtain ⟨d, rfl, e1⟩ := look1 e
  obtain ⟨v, rfl, h⟩ := rr.one
  obtain ⟨p, vs, rfl, hp, r1⟩ := look_lst A h e1
  have hv := intsOf_rep r1 h2
  subst hv
  cases ns with
  | nil => cases h3
  | cons n l =>
    cases h3
    refine ⟨p, n :: l, rfl, SqL.of hp, Nat.succ_pos _, fun k hk hl => ?_⟩
    obtain ⟨g1, g2, g3⟩ := minI_spec l n
    have : k = minI n l := by
      have a1 : minI n l ∈ n :: l := by
        rcases g1 with g | g
        · rw [g]; exact List.mem_cons_self
        · exact List.mem_cons_of_mem _ g
      have a2 := hl _ a1
      have a3 : minI n l ≤ k := by
        rcases List.mem_cons.mp hk with rfl | hk
        · exact g2
        · exact g3 k hk
      omega
    subst this
    exact w.v A (.int _)
theorem pr_maxl (hc : X.calm = true) : CallR X (.builtin "max") (rN X.K (lkN (primS .maxl))) := by
  refine (cr_max hc).weak fun xs H Q ⟨F, m, M, ds, r, M', A, rr, es, w⟩ => ?_
  have es : primS .maxl (ds.map (look M)) ds M = .ok r M' := es
  unfold primS at es
  split at es <;> try (exfalso; simp_all; done)
  rename_i ys _ e
  obtain ⟨i, h1, rfl, rfl⟩ := oI_ok es
  obtain ⟨ns, h2, h3⟩ := Option.bind_eq_some_iff.mp h1
  obtain ⟨d, rfl, e1⟩ := look1 e
  obtain ⟨v, rfl, h⟩ := rr.one
  obtain ⟨p, vs, rfl, hp, r1⟩ := look_lst A h e1
  have hv := intsOf_rep r1 h2
  subst hv
  cases ns with
  | nil => cases h3
  | cons n l =>
    cases h3
    refine ⟨p, n :: l, rfl, SqL.of hp, Nat.succ_pos _, fun k hk hl => ?_⟩
    obtain ⟨g1, g2, g3⟩ := maxI_spec l n
    have : k = maxI n l := by
      have a1 : maxI n l ∈ n :: l := by
        rcases g1 with g | g
        · rw [g]; exact List.mem_cons_self
        · exact List.mem_cons_of_mem _ g
      have a2 := hl _ a1
      have a3 : k ≤ maxI n l := by
        rcases List.mem_cons.mp hk with rfl | hk
        · exact g2
        · exact g3 k hk
      omega
    subst this
    exact w.v A (.int _)
theorem pr_int1 : CallR X (.type "int") (rN X.K (lkN (primS .int1))) := by
  refine call_int1.weak fun xs H Q ⟨F, m, M, ds, r, M', A, rr, es, w⟩ => ?_
  have es : primS .int1 (ds.map (look M)) ds M = .ok r M' := es
  unfold primS at es
  split at es <;> try (exfalso; simp_all; done)
  · rename_i i _ e
    cases es
    obtain ⟨d, rfl, e1⟩ := look1 e
    obtain ⟨v, rfl, h⟩ := rr.one
    obtain rfl := look_int A h e1
    exact .inl ⟨i, rfl, w.v A (.int _)⟩
  · rename_i i _ e
    cases es
    obtain ⟨d, rfl, e1⟩ := look1 e
    obtain ⟨v, rfl, h⟩ := rr.one
    obtain rfl := look_bl A h e1
    exact .inr ⟨i, rfl, w.v A (.int _)⟩
theorem pr_str1 : CallR X (.type "str") (rN X.K (lkN (primS .str1))) := by
  refine call_str_int.weak fun xs H Q ⟨F, m, M, ds, r, M', A, rr, es, w⟩ => ?_
  have es : primS .str1 (ds.map (look M)) ds M = .ok r M' := es
  unfold primS at es
  split at es <;> try (exfalso; simp_all; done)
  rename_i i _ e
  obtain ⟨h1, h2⟩ := guardR_ok es
  cases h2
  obtain ⟨d, rfl, e1⟩ := look1 e
  obtain ⟨v, rfl, h⟩ := rr.one
  obtain rfl := look_int A h e1
  exact ⟨i, rfl, Nat.lt_of_lt_of_le (PySem.Flt.log2_lt_of (by decide) (inW_abs h1)) (by decide), w.v A (.str _)⟩
theorem pr_list1 : CallR X (.type "list") (rN X.K (lkN (primS .list1))) := by
  refine call_list_of.weak fun xs H Q ⟨F, m, M, ds, r, M', A, rr, es, w⟩ => ?_
  have es : primS .list1 (ds.map (look M)) ds M = .ok r M' := es
  unfold primS at es
  split at es <;> try (exfalso; simp_all; done)
  · rename_i ys _ e
    cases es
    obtain ⟨d, rfl, e1⟩ := look1 e
    obtain ⟨v, rfl, h⟩ := rr.one
    obtain ⟨p, vs, rfl, hp, r1⟩ := look_tup A h e1
    exact ⟨p, vs, rfl, .inr hp, fun a ha => w.lst A r1 a ha⟩
  · rename_i ys _ e
    cases es
    obtain ⟨d, rfl, e1⟩ := look1 e
    obtain ⟨v, rfl, h⟩ := rr.one
    obtain ⟨p, vs, rfl, hp, r1⟩ := look_lst A h e1
    exact ⟨p, vs, rfl, .inl (SqL.of hp), fun a ha => w.lst A r1 a ha⟩
  · rename_i ys _ e
    cases es
    obtain ⟨d, rfl, e1⟩ := look1 e
    obtain ⟨v, rfl, h⟩ := rr.one
    obtain ⟨p, rfl, hp⟩ := look_scr A h e1
    exact ⟨p, _, rfl, .inl hp.seq, fun a ha => w.lst A (Reps.ints ys) a ha⟩
theorem pr_tuple1 : CallR X (.type "tuple") (rN X.K (lkN (primS .tuple1))) := by
  refine call_tuple_of.weak fun xs H Q ⟨F, m, M, ds, r, M', A, rr, es, w⟩ => ?_
  have es : primS .tuple1 (ds.map (look M)) ds M = .ok r M' := es
  unfold primS at es
  split at es <;> try (exfalso; simp_all; done)
  · rename_i ys _ e
    cases es
    obtain ⟨d, rfl, e1⟩ := look1 e
    obtain ⟨v, rfl, h⟩ := rr.one
    obtain ⟨p, vs, rfl, hp, r1⟩ := look_tup A h e1
    exact ⟨p, vs, rfl, .inr ⟨hp, w.v A (.tup hp r1)⟩⟩
  · rename_i ys _ e
    cases es
    obtain ⟨d, rfl, e1⟩ := look1 e
    obtain ⟨v, rfl, h⟩ := rr.one
    obtain ⟨p, vs, rfl, hp, r1⟩ := look_lst A h e1
    exact ⟨p, vs, rfl, .inl ⟨SqL.of hp, fun a ha => w.tup A r1 a ha⟩⟩
theorem pr_sum1 (hc : X.calm = true) : CallR X (.builtin "sum") (rN X.K (lkN (primS .sum1))) := by
  refine (cr_sum hc).weak fun xs H Q ⟨F, m, M, ds, r, M', A, rr, es, w⟩ => ?_
  have es : primS .sum1 (ds.map (look M)) ds M = .ok r M' := es
  unfold primS at es
  split at es <;> try (exfalso; simp_all; done)
  rename_i ys _ e
  obtain ⟨i, h1, rfl, rfl⟩ := oI_ok es
  obtain ⟨ns, h2, rfl⟩ := Option.map_eq_some_iff.mp h1
  obtain ⟨d, rfl, e1⟩ := look1 e
  obtain ⟨v, rfl, h⟩ := rr.one
  obtain ⟨p, vs, rfl, hp, r1⟩ := look_lst A h e1
  have hv := intsOf_rep r1 h2
  subst hv
  exact ⟨p, ns, rfl, SqL.of hp, w.v A (.int _)⟩
theorem pr_all1 (hc : X.calm = true) : CallR X (.builtin "all") (rN X.K (lkN (primS .all1))) := by
  refine (cr_all hc).weak fun xs H Q ⟨F, m, M, ds, r, M', A, rr, es, w⟩ => ?_
  have es : primS .all1 (ds.map (look M)) ds M = .ok r M' := es
  unfold primS at es
  split at es <;> try (exfalso; simp_all; done)
  rename_i ys _ e
  obtain ⟨i, h1, rfl, rfl⟩ := bR_ok es
  obtain ⟨ns, h2, rfl⟩ := Option.map_eq_some_iff.mp h1
  obtain ⟨d, rfl, e1⟩ := look1 e
  obtain ⟨v, rfl, h⟩ := rr.one
  obtain ⟨p, vs, rfl, hp, r1⟩ := look_lst A h e1
  have hv := blsOf_rep r1 h2
  subst hv
  exact ⟨p, ns, rfl, SqL.of hp, w.v A (.bl _)⟩
theorem pr_any1 (hc : X.calm = true) : CallR X (.builtin "any") (rN X.K (lkN (primS .any1))) := by
  refine (cr_any hc).weak fun xs H Q ⟨F, m, M, ds, r, M', A, rr, es, w⟩ => ?_
  have es : primS .any1 (ds.map (look M)) ds M = .ok r M' := es
  unfold primS at es
  split at es <;> try (exfalso; simp_all; done)
  rename_i ys _ e
  obtain ⟨i, h1, rfl, rfl⟩ := bR_ok es
  obtain ⟨ns, h2, rfl⟩ := Option.map_eq_some_iff.mp h1
  obtain ⟨d, rfl, e1⟩ := look1 e
  obtain ⟨v, rfl, h⟩ := rr.one
  obtain ⟨p, vs, rfl, hp, r1⟩ := look_lst A h e1
  have hv := blsOf_rep r1 h2
  subst hv
  exact ⟨p, ns, rfl, SqL.of hp, w.v A (.bl _)⟩
theorem pr_dict1 (hc : X.calm = true) : CallR X (.type "dict") (rN X.K (lkN (primS .dict1))) := by
  refine (call_dictP hc).weak fun xs H Q ⟨F, m, M, ds, r, M', A, rr, es, w⟩ => ?_
  have es : primS .dict1 (ds.map (look M)) ds M = .ok r M' := es
  unfold primS at es
  split at es <;> try (exfalso; simp_all; done)
  rename_i ys _ e
  split at es
  · rename_i ps hps
    cases es
    obtain ⟨d, rfl, e1⟩ := look1 e
    obtain ⟨v, rfl, h⟩ := rr.one
    obtain ⟨p, vs, rfl, hp, r1⟩ := look_lst A h e1
    obtain ⟨as, kvs, h1, h2, h3⟩ := pairsOf_rep r1 hps
    obtain ⟨ws, g1, g2, g3⟩ := dmerge_rep (ks := []) (vs := []) h3 .nil rfl
    subst h1
    refine ⟨p, as, kvs, rfl, SqL.of hp, h2, fun a ha => ?_⟩
    rw [show mergeK [] kvs = (dmerge [] [] ps).1.zip ws from g1]
    exact w.dct A g2 g3 a ha
  · cases es

/-! ### methods -/
theorem mt_list_pop : MtR X "list.pop" (fun x xs H Q => rPop x xs H Q ∨ rPopAt x xs H Q) := MtR.or mt_pop mt_popAt
/-- the canonical reading of a method -/
def rM (K : PySem.W.Frag) (mm : Mth) : V → List V → Hp → VK → Prop := fun x xs H Q => ∃ F m M d ds r M', Ab K H F m M ∧ Rep K H F m d x ∧ Reps K H F m ds xs ∧ methS mm d (look M d) ds M = .ok r M' ∧ Wish K H F m r M' Q
theorem ref_own {K : PySem.W.Frag} {H : Hp} {F : Fz} {m : List Addr} {M : Store} {n : Nat} {x : V} {u : D} (A : Ab K H F m M) (h : Rep K H F m (.ref n) x) (e : look M (.ref n) = u) : ∃ p, x = .ref p ∧ m[n]? = some p ∧ Own K H F m p u := by
  cases h with
  | @ref p n h =>
    obtain ⟨d, h1, h2⟩ := A.at h
    have e' : (M[n]?).getD .non = u := e
    rw [h1] at e'
    exact ⟨p, rfl, h, by rw [← (show d = u from e')]; exact h2⟩
theorem mm_append : MtR X "list.append" (rM X.K .append) := by
  refine MtR.weak mt_append fun x xs H Q ⟨F, m, M, d, ds, r, M', A, hd, hs, es, w⟩ => ?_
  unfold methS at es
  split at es <;> try (exfalso; simp_all; done)
  rename_i n ys e _ h1
  obtain ⟨h2, h3⟩ := guardR_ok es
  cases h3
  obtain ⟨p, rfl, hn, vs, hp, rr⟩ := ref_own A hd h1
  obtain ⟨v, rfl, hv⟩ := hs.one
  refine ⟨p, vs, v, rfl, rfl, hp, by rw [← rr.length, ← sl_eq]; exact of_decide_eq_true h2, ?_⟩
  obtain ⟨g, A'⟩ := A.write (o := .lst (vs ++ [v])) (d := .lst (ys ++ [e])) hn fun H' F' m' g e => ⟨_, e, (Reps.mono g _ _ rr).append (.cons (Rep.mono g _ _ hv) .nil)⟩
  exact w _ _ _ _ g A' (.v .non)
theorem mm_pop : MtR X "list.pop" (fun x xs H Q => rM X.K .pop x xs H Q ∨ rM X.K .popAt x xs H Q) := by
  intro pins s σ H x xs xv us Q I rx rs h
  refine mt_list_pop pins s σ H x xs xv us Q I rx rs ?_
  rcases h with ⟨F, m, M, d, ds, r, M', A, hd, hs, es, w⟩ | ⟨F, m, M, d, ds, r, M', A, hd, hs, es, w⟩
  · unfold methS at es
    split at es <;> try (exfalso; simp_all; done)
    rename_i n ys _ h1
    split at es
    · rename_i y hy
      cases es
      obtain ⟨p, rfl, hn, vs, hp, rr⟩ := ref_own A hd h1
      cases hs
      rw [rr.length] at hy
      obtain ⟨v, h2, h3⟩ := rr.get hy
      refine .inl ⟨p, vs, v, rfl, rfl, hp, h2, ?_⟩
      obtain ⟨g, A'⟩ := A.write (o := .lst vs.dropLast) (d := .lst ys.dropLast) hn fun H' F' m' g e => ⟨_, e, (Reps.mono g _ _ rr).dropLast⟩
      exact w _ _ _ _ g A' (.v (Rep.mono g _ _ h3))
    · cases es
  · unfold methS at es
    split at es <;> try (exfalso; simp_all; done)
    rename_i n ys i _ h1
    split at es
    · rename_i k hk
      split at es
      · rename_i y hy
        cases es
        obtain ⟨p, rfl, hn, vs, hp, rr⟩ := ref_own A hd h1
        obtain ⟨v0, rfl, hv0⟩ := hs.one
        cases hv0
        obtain ⟨v, h2, h3⟩ := rr.get hy
        rw [rr.length] at hk
        obtain ⟨q1, q2, q3, q4⟩ := ixN_seq hk
        have hz : vs.length < 2 ^ 62 := by
          have := (I.lstM hp).1
          rw [sizeLine_eq] at this
          omega
        refine .inr ⟨p, vs, i, k, v, rfl, rfl, hp, by omega, by omega, q1, h2, ?_⟩
        obtain ⟨g, A'⟩ := A.write (o := .lst (vs.eraseIdx k)) (d := .lst (ys.eraseIdx k)) hn fun H' F' m' g e => ⟨_, e, (Reps.mono g _ _ rr).erase k⟩
        exact w _ _ _ _ g A' (.v (Rep.mono g _ _ h3))
      · cases es
    · cases es
theorem mm_get (hu : X.A.units + 1 < cLine) : MtR X "dict.get" (fun x xs H Q => rM X.K .get1 x xs H Q ∨ rM X.K .get2 x xs H Q) := by
  intro pins s σ H x xs v us Q I rx rs h
  rcases h with ⟨F, m, M, d, ds, r, M', A, hd, hs, es, w⟩ | ⟨F, m, M, d, ds, r, M', A, hd, hs, es, w⟩
  · unfold methS at es
    split at es <;> try (exfalso; simp_all; done)
    rename_i ks vs k _ h1
    split at es
    · rename_i q hq
      cases es
      obtain ⟨p, ws, rfl, hp, l, rr⟩ := look_dct A hd h1
      obtain ⟨y, rfl, hy⟩ := hs.one
      have e := toKey_rep hy hq
      subst e
      obtain ⟨u, rfl, ru⟩ := vals1 rs
      obtain rfl : v = Value.ref p := rx
      refine d_get1 hu I (DGet.k hp) ru fun w' s' I' r' => ⟨_, H, I', r', ?_⟩
      rcases dlook_rep q rr l with ⟨h4, h5⟩ | ⟨d', v', h4, h5, h6⟩
      · rw [h5]; rw [h4] at w; exact w.v A .non
      · rw [h5]; rw [h4] at w; exact w.v A h6
    · cases es
  · unfold methS at es
    split at es <;> try (exfalso; simp_all; done)
    rename_i ks vs k z _ h1
    split at es
    · rename_i q hq
      cases es
      obtain ⟨p, ws, rfl, hp, l, rr⟩ := look_dct A hd h1
      obtain ⟨y, y2, rfl, hy, hy2⟩ := hs.two
      have e := toKey_rep hy hq
      subst e
      obtain ⟨u, u2, rfl, ru, ru2⟩ := vals2 rs
      obtain rfl : v = Value.ref p := rx
      refine d_get2 hu I (DGet.k hp) ru ru2 fun w' s' I' r' => ⟨_, H, I', r', ?_⟩
      rcases dlook_rep q rr l with ⟨h4, h5⟩ | ⟨d', v', h4, h5, h6⟩
      · rw [h5]; rw [h4] at w; exact w.v A hy2
      · rw [h5]; rw [h4] at w; exact w.v A h6
    · cases es
end
end PyI
/-! PyF: readings of expressions by the interpreter; a rule for each construct -/
namespace PyI
open PySem PySem.Spec L2
open PyProof.Rows hiding St

def TEI (K : PySem.W.Frag) (sem : Env → Store → Rs FV) : TE := fun σ H Q => ∃ F m ρ M x M', En K H F m ρ σ ∧ Ab K H F m M ∧ sem ρ M = .ok x M' ∧ Wish K H F m x M' Q
def TTI (K : PySem.W.Frag) (sem : Env → Store → Rs Bool) : TT := fun σ H Q => ∃ F m ρ M b M', En K H F m ρ σ ∧ Ab K H F m M ∧ sem ρ M = .ok b M' ∧ ∀ H' F' m', Gr H F m H' F' m' → Ab K H' F' m' M' → Q b H'
def TAI (K : PySem.W.Frag) (sem : Env → Store → Rs (List D)) : TA := fun σ H Q => ∃ F m ρ M ds M', En K H F m ρ σ ∧ Ab K H F m M ∧ sem ρ M = .ok ds M' ∧ ∀ H' F' m' vs, Gr H F m H' F' m' → Ab K H' F' m' M' → Reps K H' F' m' ds vs → Q vs H'
section
variable {K : PySem.W.Frag} {H : Hp} {F : Fz} {m : List Addr} {ρ : Env} {σ : L2.St} {M M' : Store}
/-- a part's value, then the rest -/
theorem stepD {β : Type} {A : Env → Store → Rs FV} {k : D → Store → Rs β} {r : β} {Q : VK} (en : En K H F m ρ σ) (ab : Ab K H F m M) (e : (A ρ M).bdd k = .ok r M')
    (cont : ∀ d M1 H1 F1 m1 v, Gr H F m H1 F1 m1 → Ab K H1 F1 m1 M1 → Rep K H1 F1 m1 d v → k d M1 = .ok r M' → Q v H1) : TEI K A σ H Q := by
  obtain ⟨x, M1, h1, h2⟩ := Rs.bdd_inv e
  refine ⟨F, m, ρ, M, x, M1, en, ab, h1, fun H1 F1 m1 v g ab1 rf => ?_⟩
  obtain ⟨F2, g2, ab2, rep⟩ := rf.frz ab1
  exact cont x.d M1 H1 F2 m1 v (g.trans g2) ab2 rep h2
theorem stepF {β : Type} {A : Env → Store → Rs FV} {k : FV → Store → Rs β} {r : β} {Q : VK} (en : En K H F m ρ σ) (ab : Ab K H F m M) (e : (A ρ M).bd k = .ok r M')
    (cont : ∀ d M1 H1 F1 m1 v, Gr H F m H1 F1 m1 → Ab K H1 F1 m1 M1 → RepF K H1 F1 m1 d v → k d M1 = .ok r M' → Q v H1) : TEI K A σ H Q := by
  obtain ⟨x, M1, h1, h2⟩ := Rs.bd_inv e
  exact ⟨F, m, ρ, M, x, M1, en, ab, h1, fun H1 F1 m1 v g ab1 rf => cont x M1 H1 F1 m1 v g ab1 rf h2⟩
theorem stepT {β : Type} {A : Env → Store → Rs Bool} {k : Bool → Store → Rs β} {r : β} {Q : Bool → Hp → Prop} (en : En K H F m ρ σ) (ab : Ab K H F m M) (e : (A ρ M).bd k = .ok r M')
    (cont : ∀ b M1 H1 F1 m1, Gr H F m H1 F1 m1 → Ab K H1 F1 m1 M1 → k b M1 = .ok r M' → Q b H1) : TTI K A σ H Q := by
  obtain ⟨x, M1, h1, h2⟩ := Rs.bd_inv e
  exact ⟨F, m, ρ, M, x, M1, en, ab, h1, fun H1 F1 m1 g ab1 => cont x M1 H1 F1 m1 g ab1 h2⟩
theorem stepA {β : Type} {A : Env → Store → Rs (List D)} {k : List D → Store → Rs β} {r : β} {Q : List V → Hp → Prop} (en : En K H F m ρ σ) (ab : Ab K H F m M) (e : (A ρ M).bd k = .ok r M')
    (cont : ∀ ds M1 H1 F1 m1 vs, Gr H F m H1 F1 m1 → Ab K H1 F1 m1 M1 → Reps K H1 F1 m1 ds vs → k ds M1 = .ok r M' → Q vs H1) : TAI K A σ H Q := by
  obtain ⟨x, M1, h1, h2⟩ := Rs.bd_inv e
  exact ⟨F, m, ρ, M, x, M1, en, ab, h1, fun H1 F1 m1 vs g ab1 rs => cont x M1 H1 F1 m1 vs g ab1 rs h2⟩
end
theorem _root_.L2.PE.weak {X : Cx} {e : Expr} {t t' : TE} (h : PE X e t) (w : ∀ σ H Q, t' σ H Q → t σ H Q) : PE X e t' := ⟨fun pins s σ H Q I q => h.run pins s σ H Q I (w σ H Q q)⟩
theorem _root_.L2.PE.any {X : Cx} {e : Expr} {t' : TE} (w : ∀ σ H Q, t' σ H Q → ∃ t, PE X e t ∧ t σ H Q) : PE X e t' := ⟨fun pins s σ H Q I q => let ⟨_, h, z⟩ := w σ H Q q; h.run pins s σ H Q I z⟩
theorem _root_.L2.PT.weak {X : Cx} {e : Expr} {t t' : TT} (h : PT X e t) (w : ∀ σ H Q, t' σ H Q → t σ H Q) : PT X e t' := ⟨fun pins s σ H Q I q => h.run pins s σ H Q I (w σ H Q q)⟩
theorem _root_.L2.PW.weak {X : Cx} {e : Expr} {t t' : TT} (h : PW X e t) (w : ∀ σ H Q, t' σ H Q → t σ H Q) : PW X e t' := ⟨fun wh pins s σ H Q I q => h.run wh pins s σ H Q I (w σ H Q q)⟩
theorem _root_.L2.PA.weak {X : Cx} {e : List Expr} {t t' : TA} (h : PA X e t) (w : ∀ σ H Q, t' σ H Q → t σ H Q) : PA X e t' := ⟨fun pos pins s σ H Q I q => h.run pos pins s σ H Q I (w σ H Q q)⟩
theorem _root_.L2.PI.any {X : Cx} {tg e : Expr} {t' : TI} (w : ∀ σ H Q, t' σ H Q → ∃ t, PI X tg e t ∧ t σ H Q) : PI X tg e t' := ⟨fun pins s σ H Q I q => let ⟨_, h, z⟩ := w σ H Q q; h.run pins s σ H Q I z⟩
theorem _root_.L2.PO.weak {X : Cx} {e : Option Expr} {t t' : TO} (h : PO X e t) (w : ∀ σ H Q, t' σ H Q → t σ H Q) : PO X e t' := ⟨fun pins s σ H Q I q => h.run pins s σ H Q I (w σ H Q q)⟩

/-! ### shapes of the text -/
def isStar : Expr → Bool
  | .Starred _ _ => true
  | _ => false
theorem star1 {e : Expr} {es : List Expr} {env : PySem.Env} (h : isStar e = false) : starEach (e :: es) env = (false, eval e env) :: starEach es env := by
  cases e <;> first | rfl | (simp [isStar] at h)
theorem starAny {env : PySem.Env} {pos : Pos} : ∀ {es : List Expr}, es.all (fun e => !isStar e) = true → (backTo pos (starEach es env)).any (·.1) = false
  | [], _ => rfl
  | e :: es, h => by
    rw [List.all_cons, Bool.and_eq_true] at h
    rw [star1 (by simpa using h.1)]
    show (false || (backTo pos (starEach es env)).any (·.1)) = false
    rw [starAny h.2] <;> rfl
theorem starAll {env : PySem.Env} {pos : Pos} : ∀ {es : List Expr}, es.all (fun e => !isStar e) = true → (backTo pos (starEach es env)).all (fun x => !x.1) = true
  | [], _ => rfl
  | e :: es, h => by
    rw [List.all_cons, Bool.and_eq_true] at h
    rw [star1 (by simpa using h.1)]
    show (!false && (backTo pos (starEach es env)).all (fun x => !x.1)) = true
    rw [starAll h.2] <;> rfl
def isSlice : Expr → Bool
  | .Slice _ _ _ _ => true
  | _ => false
theorem plainIx_of {b : Expr} (h : isSlice b = false) : PlainIx b := by
  intro o i
  cases b <;> first | rfl | (simp [isSlice] at h)
def isSetD : Expr → Bool
  | .Set _ _ _ => true
  | _ => false
theorem nomark_of {b : Expr} {op : CmpOp} (h : isSetD b = false) : behindInMarks op b = false := by
  cases b <;> first | rfl | (simp [isSetD] at h)
theorem lastMark_of {b c : Expr} {op op' : CmpOp} (h : isSetD c = false) : lastMarks [op, op'] [b, c] = false := by
  show behindInMarks op' c = false
  exact nomark_of h
theorem folded_of {b : Expr} {env : PySem.Env} (h : isSetD b = false) : ∀ x, foldedSetIterable b env x = pure x := by
  intro x
  cases b <;> first | rfl | (simp [isSetD] at h)
def isCall0 : Expr → Bool
  | .Call _ [] _ _ => true
  | _ => false
theorem base_of {o : Expr} {m : Str} {env : PySem.Env} (h : isCall0 o = false) : attributeBase o m env (eval o env) = eval o env := by
  cases o with
  | Call f args kws pos =>
    cases args with
    | nil => simp [isCall0] at h
    | cons a r => cases f <;> rfl
  | _ => rfl
/-- its test is its value's truth -/
def isPlainTest : Expr → Bool
  | .UnaryOp .Not _ _ => false
  | .BoolOp _ _ _ => false
  | .IfExp _ _ _ _ => false
  | .Compare _ _ _ _ => false
  | _ => true
theorem plainTest_of {e : Expr} {env : PySem.Env} (h : isPlainTest e = true) : ∀ whole, isTrue e env whole = (do let v ← whole; standAt e.pos; holding [v] (truthy v)) := by
  intro whole
  cases e with
  | UnaryOp op a p => cases op <;> first | rfl | (simp [isPlainTest] at h)
  | BoolOp _ _ _ => simp [isPlainTest] at h
  | IfExp _ _ _ _ => simp [isPlainTest] at h
  | Compare _ _ _ _ => simp [isPlainTest] at h
  | _ => rfl

section
variable {X : Cx} {pos : Pos}
/-! ### names, constants -/
theorem ie_var {x : Str} {i : Nat} {C : Ctx} (hN : X.N[i]? = some x) (hv : Vis X.env.scope x) (hd : (x == ("__debug__" : Str)) = false) (hcd : (x == ("__classdict__" : Str)) = false) : PE X (.Name x pos) (TEI X.K (ev C (.var i))) := by
  refine (pe_var hN hv hd hcd).weak fun σ H Q ⟨F, m, ρ, M, x, M', en, ab, e, w⟩ => ?_
  simp only [ev] at e
  split at e
  · rename_i d hd
    cases e
    obtain ⟨v, h1, h2⟩ := en.at_ i d hd
    exact ⟨v, h1, w.v ab h2⟩
  · cases e
theorem ie_int {i : Int} {k : Nat} {C : Ctx} : PE X (.Constant (.int i) k pos) (TEI X.K (ev C (.con (.int i)))) := by
  refine pe_int.weak fun σ H Q ⟨F, m, ρ, M, x, M', en, ab, e, w⟩ => ?_
  simp only [ev] at e
  cases e
  exact w.v ab (.int _)
theorem ie_bl {i : Bool} {k : Nat} {C : Ctx} : PE X (.Constant (.bool i) k pos) (TEI X.K (ev C (.con (.bl i)))) := by
  refine pe_bl.weak fun σ H Q ⟨F, m, ρ, M, x, M', en, ab, e, w⟩ => ?_
  simp only [ev] at e
  cases e
  exact w.v ab (.bl _)
theorem ie_non {k : Nat} {C : Ctx} : PE X (.Constant .none k pos) (TEI X.K (ev C (.con .non))) := by
  refine pe_non.weak fun σ H Q ⟨F, m, ρ, M, x, M', en, ab, e, w⟩ => ?_
  simp only [ev] at e
  cases e
  exact w.v ab .non
theorem ie_str {i : Str} {k : Nat} {C : Ctx} : PE X (.Constant (.str i) k pos) (TEI X.K (ev C (.con (.str i)))) := by
  refine pe_str.weak fun σ H Q ⟨F, m, ρ, M, x, M', en, ab, e, w⟩ => ?_
  simp only [ev] at e
  cases e
  exact w.v ab (.str _)
theorem ie_glo {x : Str} {u : Value} {v : V} {g : Nat} {C : Ctx} (hg : Gl X x) (hm : X.mg x = some u) (r : RelV v u) (hr : ∀ H F m, Rep X.K H F m (C.glob g) v) (hd : (x == ("__debug__" : Str)) = false) : PE X (.Name x pos) (TEI X.K (ev C (.glo g))) := by
  refine (pe_glob hg hm r hd).weak fun σ H Q ⟨F, m, ρ, M, x, M', en, ab, e, w⟩ => ?_
  simp only [ev] at e
  cases e
  exact w.v ab (hr _ _ _)

/-! ### several -/
theorem ia_nil {C : Ctx} : PA X [] (TAI X.K (evs C .nil)) := by
  refine pa_nil.weak fun σ H Q ⟨F, m, ρ, M, ds, M', en, ab, e, w⟩ => ?_
  simp only [evs] at e
  cases e
  exact w H F m [] .refl ab .nil
theorem ia_cons {C : Ctx} {e : Expr} {es : List Expr} {a : E} {as : Es} (h : PE X e (TEI X.K (ev C a))) (hs : PA X es (TAI X.K (evs C as))) (st : isStar e = false) : PA X (e :: es) (TAI X.K (evs C (.cons a as))) := by
  refine (pa_cons h hs (star1 st)).weak fun σ H Q ⟨F, m, ρ, M, ds, M', en, ab, e, w⟩ => ?_
  simp only [evs] at e
  refine stepD en ab e fun d M1 H1 F1 m1 v g1 ab1 r1 e1 => ?_
  refine stepA (en.mono g1) ab1 e1 fun us M2 H2 F2 m2 vs g2 ab2 r2 e2 => ?_
  cases e2
  exact w H2 F2 m2 _ (g1.trans g2) ab2 (.cons (Rep.mono g2 _ _ r1) r2)
theorem evs_len {C : Ctx} : ∀ {as : Es} {ρ : Env} {M M' : Store} {ds : List D}, evs C as ρ M = .ok ds M' → ∀ n, (∃ l : List E, l.length = n ∧ as = l.foldr Es.cons Es.nil) → ds.length = n
  | .nil, ρ, M, M', ds, e, n, ⟨l, h1, h2⟩ => by
    simp only [evs] at e
    cases e
    cases l with
    | nil => exact h1
    | cons _ _ => cases h2
  | .cons a as, ρ, M, M', ds, e, n, ⟨l, h1, h2⟩ => by
    simp only [evs] at e
    obtain ⟨x, M1, e1, e2⟩ := Rs.bdd_inv e
    obtain ⟨r, M2, e3, e4⟩ := Rs.bd_inv e2
    cases e4
    cases l with
    | nil => cases h2
    | cons b l =>
      injection h2 with h2 h3
      rw [← h1, List.length_cons, List.length_cons, evs_len e3 l.length ⟨l, rfl, h3⟩]
def Es.len : Es → Nat
  | .nil => 0
  | .cons _ r => r.len + 1
theorem evs_length {C : Ctx} : ∀ {as : Es} {ρ : Env} {M M' : Store} {ds : List D}, evs C as ρ M = .ok ds M' → ds.length = as.len
  | .nil, ρ, M, M', ds, e => by
    simp only [evs] at e
    cases e; rfl
  | .cons a as, ρ, M, M', ds, e => by
    simp only [evs] at e
    obtain ⟨x, M1, e1, e2⟩ := Rs.bdd_inv e
    obtain ⟨r, M2, e3, e4⟩ := Rs.bd_inv e2
    cases e4
    rw [List.length_cons, evs_length e3] <;> rfl
theorem line1000 {n : Nat} (h : n ≤ 1000) : n ≤ sizeLine := by rw [sizeLine_eq]; omega
theorem ie_tup {C : Ctx} {es : List Expr} {as : Es} {k : Nat} (h : PA X es (TAI X.K (evs C as))) (hl : as.len ≤ 1000) : PE X (.Tuple es k pos) (TEI X.K (ev C (.tup as))) := by
  refine (pe_tup h).weak fun σ H Q ⟨F, m, ρ, M, x, M', en, ab, e, w⟩ => ?_
  simp only [ev] at e
  have e0 := e
  refine stepA en ab e fun us M2 H2 F2 m2 vs g2 ab2 r2 e2 => ?_
  cases e2
  obtain ⟨ds, M3, e3, e4⟩ := Rs.bd_inv e0
  injection e4 with e5 e6
  injection e5 with e5
  injection e5 with e5
  subst e5
  refine ⟨line1000 ?_, fun p hp => (w.mono g2).tup ab2 r2 p hp⟩
  rw [← r2.length, evs_length e3]
  exact hl
theorem ie_lst {C : Ctx} {es : List Expr} {as : Es} (h : PA X es (TAI X.K (evs C as))) (hl : as.len ≤ 1000) : PE X (.List es pos) (TEI X.K (ev C (.lst as))) := by
  refine (pe_lst h).weak fun σ H Q ⟨F, m, ρ, M, x, M', en, ab, e, w⟩ => ?_
  simp only [ev] at e
  have e0 := e
  refine stepA en ab e fun us M2 H2 F2 m2 vs g2 ab2 r2 e2 => ?_
  cases e2
  obtain ⟨ds, M3, e3, e4⟩ := Rs.bd_inv e0
  injection e4 with e5 e6
  injection e5 with e5
  injection e5 with e5
  subst e5
  refine ⟨line1000 ?_, fun p hp => (w.mono g2).lst ab2 r2 p hp⟩
  rw [← r2.length, evs_length e3]
  exact hl
/-- a new object is kept in the store -/
theorem ie_new {C : Ctx} {e : Expr} {a : E} (h : PE X e (TEI X.K (ev C a))) : PE X e (TEI X.K (ev C (.new a))) := by
  refine h.weak fun σ H Q ⟨F, m, ρ, M, x, M', en, ab, e, w⟩ => ?_
  simp only [ev] at e
  refine stepF en ab e fun d M1 H1 F1 m1 v g1 ab1 r1 e1 => ?_
  cases d with
  | v d => cases e1
  | f d =>
    cases e1
    obtain ⟨m2, g2, ab2, r2⟩ := r1.thaw ab1
    exact w H1 F1 m2 v (g1.trans g2) ab2 (.v r2)

/-! ### operators -/
variable {a b c : Expr} {p q r : E} {C : Ctx}
theorem ie_bin {o : Op} (ha : PE X a (TEI X.K (ev C p))) (hb : PE X b (TEI X.K (ev C q))) : PE X (.BinOp a (opOf o) b pos) (TEI X.K (ev C (.bin o p q))) := by
  refine (pe_op (op_all o) ha hb).weak fun σ H Q ⟨F, m, ρ, M, x, M', en, ab, e, w⟩ => ?_
  simp only [ev] at e
  refine stepD en ab e fun d M1 H1 F1 m1 v g1 ab1 r1 e1 => ?_
  refine stepD (en.mono g1) ab1 e1 fun d2 M2 H2 F2 m2 v2 g2 ab2 r2 e2 => ?_
  exact ⟨F2, m2, M2, d, d2, x, M', ab2, Rep.mono g2 _ _ r1, r2, e2, w.mono (g1.trans g2)⟩
theorem ie_neg (ha : PE X a (TEI X.K (ev C p))) : PE X (.UnaryOp .USub a pos) (TEI X.K (ev C (.neg p))) := by
  refine (pe_un neg_all ha).weak fun σ H Q ⟨F, m, ρ, M, x, M', en, ab, e, w⟩ => ?_
  simp only [ev] at e
  refine stepD en ab e fun d M1 H1 F1 m1 v g1 ab1 r1 e1 => ?_
  exact ⟨F1, m1, M1, d, x, M', ab1, r1, e1, w.mono g1⟩
/-- comparisons but is -/
def plainCm : Cm → Bool
  | .isn => false
  | .notn => false
  | _ => true
theorem cm_all (hu : X.A.units + 64 < cLine) {o : Cm} (h : plainCm o = true) : OpR X (compareOp (cmOf o)) (r2 X.K (lk2 (cm2 o))) := by
  cases o <;> first | exact cm_eq hu | exact cm_ne hu | exact cm_lt | exact cm_le | exact cm_gt | exact cm_ge | exact cm_in (by omega) | exact cm_notin (by omega) | (simp [plainCm] at h)
theorem ie_cmp (hu : X.A.units + 64 < cLine) {o : Cm} (h : plainCm o = true) (ha : PE X a (TEI X.K (ev C p))) (hb : PE X b (TEI X.K (ev C q))) (hm : isSetD b = false) : PE X (.Compare a [cmOf o] [b] pos) (TEI X.K (ev C (.cmp o p q))) := by
  refine (pe_cmpR (cm_all hu h) ha hb (nomark_of hm)).weak fun σ H Q ⟨F, m, ρ, M, x, M', en, ab, e, w⟩ => ?_
  simp only [ev] at e
  refine stepD en ab e fun d M1 H1 F1 m1 v g1 ab1 r1 e1 => ?_
  refine stepD (en.mono g1) ab1 e1 fun d2 M2 H2 F2 m2 v2 g2 ab2 r2 e2 => ?_
  exact ⟨F2, m2, M2, d, d2, x, M', ab2, Rep.mono g2 _ _ r1, r2, e2, w.mono (g1.trans g2)⟩
/-- is None, is not None -/
def isCm : Cm → Bool
  | .isn => true
  | .notn => true
  | _ => false
theorem ie_is {o : Cm} (h : isCm o = true) {k : Nat} {pos' : Pos} (ha : PE X a (TEI X.K (ev C p))) : PE X (.Compare a [cmOf o] [.Constant .none k pos'] pos) (TEI X.K (ev C (.cmp o p (.con .non)))) := by
  have hr : OpR X (compareOp (cmOf o)) (r2 X.K (isS o)) := by
    cases o <;> first | exact cm_isn | exact cm_notn | (simp [isCm] at h)
  refine (pe_cmpR hr ha pe_non rfl).weak fun σ H Q ⟨F, m, ρ, M, x, M', en, ab, e, w⟩ => ?_
  rw [ev] at e
  refine stepD en ab e fun d M1 H1 F1 m1 v g1 ab1 r1 e1 => ?_
  have e2 : cm2 o (look M1 d) (look M1 .non) M1 = .ok x M' := by
    simpa only [ev, Rs.bdd, FV.d] using e1
  exact ⟨F1, m1, M1, d, .non, x, M', ab1, r1, .non, e2, w.mono g1⟩

/-! ### tests -/
/-- a part's value as a test -/
theorem stepV {β : Type} {K : PySem.W.Frag} {H : Hp} {F : Fz} {m : List Addr} {ρ : Env} {σ : L2.St} {M M' : Store} {A : Env → Store → Rs FV} {k : Bool → Store → Rs β} {r : β} {Q : VK} (en : En K H F m ρ σ) (ab : Ab K H F m M) (e : (tst (A ρ M)).bd k = .ok r M')
    (cont : ∀ d M1 H1 F1 m1 v t, Gr H F m H1 F1 m1 → Ab K H1 F1 m1 M1 → Rep K H1 F1 m1 d v → TruV K v H1 t → k t M1 = .ok r M' → Q v H1) : TEI K A σ H Q := by
  obtain ⟨t, M1, h1, h2⟩ := Rs.bd_inv e
  refine stepD en ab h1 fun d M2 H1 F1 m1 v g1 ab1 r1 e1 => ?_
  obtain ⟨e2, e3⟩ := tR_ok e1
  subst e3
  exact cont d _ H1 F1 m1 v t g1 ab1 r1 (tru_rep ab1 r1 e2) h2
theorem tst_bd {A : Rs FV} : (tst A).bd (fun b M => Rs.ok b M) = tst A := by
  cases h : tst A with
  | ok b M => rfl
  | no => rfl
/-- any expression whose test is its value's truth -/
theorem it_truth (ha : PE X a (TEI X.K (ev C p))) (hp : isPlainTest a = true) : PT X a (TTI X.K (evT C p)) := by
  refine (pt_truth ha (plainTest_of hp)).weak fun σ H Q ⟨F, m, ρ, M, b, M', en, ab, e, w⟩ => ?_
  unfold evT at e
  rw [← tst_bd] at e
  refine stepV en ab e fun d M1 H1 F1 m1 v t g1 ab1 r1 ht e1 => ?_
  cases e1
  exact ⟨_, ht, w _ _ _ g1 ab1⟩
theorem cm2_bl {o : Cm} {x y : D} {M M' : Store} {r : FV} (h : cm2 o x y M = .ok r M') : ∃ b, r = .v (.bl b) ∧ M' = M := by
  cases o with
  | isn => cases h; exact ⟨_, rfl, rfl⟩
  | notn => cases h; exact ⟨_, rfl, rfl⟩
  | _ => obtain ⟨b, _, e1, e2⟩ := bR_ok h; exact ⟨b, e1, e2⟩
/-- a reading that gives a bool, as a test -/
theorem tst_bl {K : PySem.W.Frag} {H : Hp} {F : Fz} {m : List Addr} {M M' : Store} {Q : Bool → Hp → Prop} {k b : Bool} (w : ∀ H' F' m', Gr H F m H' F' m' → Ab K H' F' m' M' → Q b H') (e : tR (truD (look M (.bl k))) M = .ok b M') :
    Wish K H F m (.v (.bl k)) M fun x H' => ∃ k, x = .bl k ∧ Q k H' := by
  intro H' F' m' v g ab r
  cases r with
  | v r =>
    cases r
    cases e
    exact ⟨_, rfl, w _ _ _ g ab⟩
theorem it_cmp (hu : X.A.units + 64 < cLine) {o : Cm} (h : plainCm o = true) (ha : PE X a (TEI X.K (ev C p))) (hb : PE X b (TEI X.K (ev C q))) (hm : isSetD b = false) : PT X (.Compare a [cmOf o] [b] pos) (TTI X.K (evT C (.cmp o p q))) := by
  refine (pt_cmpR (cm_all hu h) ha hb (nomark_of hm)).weak fun σ H Q ⟨F, m, ρ, M, t, M', en, ab, e, w⟩ => ?_
  unfold evT at e
  obtain ⟨x, M0, h1, h2⟩ := Rs.bdd_inv e
  rw [ev] at h1
  refine stepD en ab h1 fun d M1 H1 F1 m1 v g1 ab1 r1 e1 => ?_
  refine stepD (en.mono g1) ab1 e1 fun d2 M2 H2 F2 m2 v2 g2 ab2 r2 e2 => ?_
  obtain ⟨k, rfl, rfl⟩ := cm2_bl e2
  exact ⟨F2, m2, _, d, d2, _, _, ab2, Rep.mono g2 _ _ r1, r2, e2, tst_bl (fun H' F' m' g ab => w H' F' m' ((g1.trans g2).trans g) ab) h2⟩
theorem it_is {o : Cm} (h : isCm o = true) {k : Nat} {pos' : Pos} (ha : PE X a (TEI X.K (ev C p))) : PT X (.Compare a [cmOf o] [.Constant .none k pos'] pos) (TTI X.K (evT C (.cmp o p (.con .non)))) := by
  have hr : OpR X (compareOp (cmOf o)) (r2 X.K (isS o)) := by
    cases o <;> first | exact cm_isn | exact cm_notn | (simp [isCm] at h)
  refine (pt_cmpR hr ha pe_non rfl).weak fun σ H Q ⟨F, m, ρ, M, t, M', en, ab, e, w⟩ => ?_
  unfold evT at e
  obtain ⟨x, M0, h1, h2⟩ := Rs.bdd_inv e
  rw [ev] at h1
  refine stepD en ab h1 fun d M1 H1 F1 m1 v g1 ab1 r1 e1 => ?_
  have e2 : cm2 o (look M1 d) (look M1 .non) M1 = .ok x M0 := by
    simpa only [ev, Rs.bdd, FV.d] using e1
  obtain ⟨k, rfl, rfl⟩ := cm2_bl e2
  exact ⟨F1, m1, _, d, .non, _, _, ab1, r1, .non, e2, tst_bl (fun H' F' m' g ab => w H' F' m' (g1.trans g) ab) h2⟩
theorem it_not (ha : PT X a (TTI X.K (evT C p))) : PT X (.UnaryOp .Not a pos) (TTI X.K (evT C (.not p))) := by
  refine (pt_not ha).weak fun σ H Q ⟨F, m, ρ, M, t, M', en, ab, e, w⟩ => ?_
  unfold evT at e
  obtain ⟨x, M0, h1, h2⟩ := Rs.bdd_inv e
  rw [ev] at h1
  refine stepT en ab h1 fun b M1 H1 F1 m1 g1 ab1 e1 => ?_
  cases e1
  cases h2
  exact w _ _ _ g1 ab1
theorem tst_or {ρ : Env} {M : Store} : evT C (.or p q) ρ M = (evT C p ρ M).bd fun t M => match t with
    | true => .ok true M
    | false => evT C q ρ M := by
  unfold evT
  rw [ev]
  unfold tst
  cases h : ev C p ρ M with
  | no => rfl
  | ok x M1 =>
    simp only [Rs.bdd]
    cases h2 : tR (truD (look M1 x.d)) M1 with
    | no => rfl
    | ok t M2 =>
      obtain ⟨h3, h4⟩ := tR_ok h2
      subst h4
      simp only [Rs.bd]
      cases t with
      | true => exact h2
      | false =>
        show (match (match ev C q ρ M2 with | .ok a M => Rs.ok (FV.v a.d) M | .no => .no) with | .ok a M => tR (truD (look M a.d)) M | .no => .no) = _
        cases ev C q ρ M2 <;> rfl
theorem tst_and {ρ : Env} {M : Store} : evT C (.and p q) ρ M = (evT C p ρ M).bd fun t M => match t with
    | true => evT C q ρ M
    | false => .ok false M := by
  unfold evT
  rw [ev]
  unfold tst
  cases h : ev C p ρ M with
  | no => rfl
  | ok x M1 =>
    simp only [Rs.bdd]
    cases h2 : tR (truD (look M1 x.d)) M1 with
    | no => rfl
    | ok t M2 =>
      obtain ⟨h3, h4⟩ := tR_ok h2
      subst h4
      simp only [Rs.bd]
      cases t with
      | false => exact h2
      | true =>
        show (match (match ev C q ρ M2 with | .ok a M => Rs.ok (FV.v a.d) M | .no => .no) with | .ok a M => tR (truD (look M a.d)) M | .no => .no) = _
        cases ev C q ρ M2 <;> rfl
variable {rest : List Expr}
theorem it_and1 (ha : PT X a (TTI X.K (evT C p))) : PW X (.BoolOp .And [a] pos) (TTI X.K (evT C p)) := pw_and1 ha
theorem it_or1 (ha : PT X a (TTI X.K (evT C p))) : PW X (.BoolOp .Or [a] pos) (TTI X.K (evT C p)) := pw_or1 ha
theorem it_and (ha : PT X a (TTI X.K (evT C p))) (hb : PW X (.BoolOp .And (b :: rest) pos) (TTI X.K (evT C q))) : PW X (.BoolOp .And (a :: b :: rest) pos) (TTI X.K (evT C (.and p q))) := by
  refine (pw_and ha hb).weak fun σ H Q ⟨F, m, ρ, M, t, M', en, ab, e, w⟩ => ?_
  rw [tst_and] at e
  refine stepT en ab e fun b M1 H1 F1 m1 g1 ab1 e1 => ?_
  cases b with
  | true => exact ⟨F1, m1, ρ, M1, t, M', en.mono g1, ab1, e1, fun H' F' m' g ab => w _ _ _ (g1.trans g) ab⟩
  | false => cases e1; exact w _ _ _ g1 ab1
theorem it_or (ha : PT X a (TTI X.K (evT C p))) (hb : PW X (.BoolOp .Or (b :: rest) pos) (TTI X.K (evT C q))) : PW X (.BoolOp .Or (a :: b :: rest) pos) (TTI X.K (evT C (.or p q))) := by
  refine (pw_or ha hb).weak fun σ H Q ⟨F, m, ρ, M, t, M', en, ab, e, w⟩ => ?_
  rw [tst_or] at e
  refine stepT en ab e fun b M1 H1 F1 m1 g1 ab1 e1 => ?_
  cases b with
  | false => exact ⟨F1, m1, ρ, M1, t, M', en.mono g1, ab1, e1, fun H' F' m' g ab => w _ _ _ (g1.trans g) ab⟩
  | true => cases e1; exact w _ _ _ g1 ab1

/-! ### and, or, not, if as values -/
theorem ie_one {op : BoolOp} (h : PE X a (TEI X.K (ev C p))) : PE X (.BoolOp op [a] pos) (TEI X.K (ev C p)) := pe_one h
theorem ie_and (ha : PE X a (TEI X.K (ev C p))) (hb : PE X (.BoolOp .And (b :: rest) pos) (TEI X.K (ev C q))) : PE X (.BoolOp .And (a :: b :: rest) pos) (TEI X.K (ev C (.and p q))) := by
  refine (pe_andT ha hb).weak fun σ H Q ⟨F, m, ρ, M, x, M', en, ab, e, w⟩ => ?_
  rw [ev] at e
  refine stepD en ab e fun d M1 H1 F1 m1 v g1 ab1 r1 e1 => ?_
  obtain ⟨t, M2, h1, h2⟩ := Rs.bd_inv e1
  obtain ⟨h3, h4⟩ := tR_ok h1
  subst h4
  refine ⟨t, tru_rep ab1 r1 h3, ?_⟩
  cases t with
  | true =>
    rw [if_pos rfl]
    refine stepD (en.mono g1) ab1 h2 fun d2 M3 H2 F2 m2 v2 g2 ab2 r2 e2 => ?_
    cases e2
    exact (w.mono (g1.trans g2)).v ab2 r2
  | false =>
    rw [if_neg Bool.false_ne_true]
    cases h2
    exact (w.mono g1).v ab1 r1
theorem ie_or (ha : PE X a (TEI X.K (ev C p))) (hb : PE X (.BoolOp .Or (b :: rest) pos) (TEI X.K (ev C q))) : PE X (.BoolOp .Or (a :: b :: rest) pos) (TEI X.K (ev C (.or p q))) := by
  refine (pe_orT ha hb).weak fun σ H Q ⟨F, m, ρ, M, x, M', en, ab, e, w⟩ => ?_
  rw [ev] at e
  refine stepD en ab e fun d M1 H1 F1 m1 v g1 ab1 r1 e1 => ?_
  obtain ⟨t, M2, h1, h2⟩ := Rs.bd_inv e1
  obtain ⟨h3, h4⟩ := tR_ok h1
  subst h4
  refine ⟨t, tru_rep ab1 r1 h3, ?_⟩
  cases t with
  | false =>
    rw [if_neg Bool.false_ne_true]
    refine stepD (en.mono g1) ab1 h2 fun d2 M3 H2 F2 m2 v2 g2 ab2 r2 e2 => ?_
    cases e2
    exact (w.mono (g1.trans g2)).v ab2 r2
  | true =>
    rw [if_pos rfl]
    cases h2
    exact (w.mono g1).v ab1 r1
theorem ie_not (ha : PE X a (TEI X.K (ev C p))) : PE X (.UnaryOp .Not a pos) (TEI X.K (ev C (.not p))) := by
  refine (pe_notT ha).weak fun σ H Q ⟨F, m, ρ, M, x, M', en, ab, e, w⟩ => ?_
  rw [ev] at e
  refine stepV en ab e fun d M1 H1 F1 m1 v t g1 ab1 r1 ht e1 => ?_
  cases e1
  exact ⟨t, ht, (w.mono g1).v ab1 (.bl _)⟩
theorem ie_ife (hc : PT X c (TTI X.K (evT C r))) (ha : PE X a (TEI X.K (ev C p))) (hb : PE X b (TEI X.K (ev C q))) : PE X (.IfExp c a b pos) (TEI X.K (ev C (.ife r p q))) := by
  refine (pe_ifExp hc ha hb).weak fun σ H Q ⟨F, m, ρ, M, x, M', en, ab, e, w⟩ => ?_
  rw [ev] at e
  refine stepT (A := evT C r) en ab e fun b M1 H1 F1 m1 g1 ab1 e1 => ?_
  cases b with
  | true =>
    rw [if_pos rfl]
    exact ⟨F1, m1, ρ, M1, x, M', en.mono g1, ab1, e1, w.mono g1⟩
  | false =>
    rw [if_neg Bool.false_ne_true]
    exact ⟨F1, m1, ρ, M1, x, M', en.mono g1, ab1, e1, w.mono g1⟩
theorem ie_chain (hu : X.A.units + 64 < cLine) {o o' : Cm} (h : plainCm o = true) (h' : plainCm o' = true) (ha : PE X a (TEI X.K (ev C p))) (hb : PE X b (TEI X.K (ev C q))) (hc : PE X c (TEI X.K (ev C r))) (hm : isSetD c = false) :
    PE X (.Compare a [cmOf o, cmOf o'] [b, c] pos) (TEI X.K (ev C (.chain o o' p q r))) := by
  refine (pe_chain (cm_all hu h) (cm_all hu h') ha hb hc (lastMark_of hm)).weak fun σ H Q ⟨F, m, ρ, M, x, M', en, ab, e, w⟩ => ?_
  rw [ev] at e
  refine stepD en ab e fun d M1 H1 F1 m1 v g1 ab1 r1 e1 => ?_
  refine stepD (en.mono g1) ab1 e1 fun d2 M2 H2 F2 m2 v2 g2 ab2 r2 e2 => ?_
  obtain ⟨t, M3, h1, h2⟩ := Rs.bdd_inv e2
  obtain ⟨k, rfl, rfl⟩ := cm2_bl h1
  refine ⟨F2, m2, _, d, d2, _, _, ab2, Rep.mono g2 _ _ r1, r2, h1, fun H3 F3 m3 v3 g3 ab3 r3 => ?_⟩
  cases r3 with
  | v r3 =>
    cases r3
    refine ⟨k, rfl, ?_⟩
    cases k with
    | true =>
      rw [if_pos rfl]
      refine stepD (((en.mono g1).mono g2).mono g3) ab3 h2 fun d4 M4 H4 F4 m4 v4 g4 ab4 r4 e4 => ?_
      exact ⟨F4, m4, M4, d2, d4, x, M', ab4, Rep.mono (g3.trans g4) _ _ r2, r4, e4, w.mono (((g1.trans g2).trans g3).trans g4)⟩
    | false =>
      rw [if_neg Bool.false_ne_true]
      cases h2
      exact (w.mono ((g1.trans g2).trans g3)).v ab3 (.bl _)
theorem it_chain (hu : X.A.units + 64 < cLine) {o o' : Cm} (h : plainCm o = true) (h' : plainCm o' = true) (ha : PE X a (TEI X.K (ev C p))) (hb : PE X b (TEI X.K (ev C q))) (hc : PE X c (TEI X.K (ev C r))) (hm : isSetD c = false) :
    PT X (.Compare a [cmOf o, cmOf o'] [b, c] pos) (TTI X.K (evT C (.chain o o' p q r))) := by
  refine (pt_chain (cm_all hu h) (cm_all hu h') ha hb hc (lastMark_of hm)).weak fun σ H Q ⟨F, m, ρ, M, x, M', en, ab, e, w⟩ => ?_
  unfold evT at e
  obtain ⟨z, M0, e0, hz⟩ := Rs.bdd_inv e
  rw [ev] at e0
  refine stepD en ab e0 fun d M1 H1 F1 m1 v g1 ab1 r1 e1 => ?_
  refine stepD (en.mono g1) ab1 e1 fun d2 M2 H2 F2 m2 v2 g2 ab2 r2 e2 => ?_
  obtain ⟨t, M3, h1, h2⟩ := Rs.bdd_inv e2
  obtain ⟨k, rfl, rfl⟩ := cm2_bl h1
  refine ⟨F2, m2, _, d, d2, _, _, ab2, Rep.mono g2 _ _ r1, r2, h1, fun H3 F3 m3 v3 g3 ab3 r3 => ?_⟩
  cases r3 with
  | v r3 =>
    cases r3
    refine ⟨k, rfl, ?_⟩
    cases k with
    | true =>
      rw [if_pos rfl]
      refine stepD (((en.mono g1).mono g2).mono g3) ab3 h2 fun d4 M4 H4 F4 m4 v4 g4 ab4 r4 e4 => ?_
      obtain ⟨k2, rfl, rfl⟩ := cm2_bl e4
      exact ⟨F4, m4, _, d2, d4, _, _, ab4, Rep.mono (g3.trans g4) _ _ r2, r4, e4, tst_bl (fun H' F' m' g ab => w H' F' m' ((((g1.trans g2).trans g3).trans g4).trans g) ab) hz⟩
    | false =>
      rw [if_neg Bool.false_ne_true]
      cases h2
      cases hz
      exact ⟨_, rfl, w _ _ _ ((g1.trans g2).trans g3) ab3⟩

/-! ### places, slices -/
theorem ie_sub (hu : X.A.units + 1 < cLine) (ha : PE X a (TEI X.K (ev C p))) (hb : PE X b (TEI X.K (ev C q))) (hs : isSlice b = false) : PE X (.Subscript a b pos) (TEI X.K (ev C (.sub p q))) := by
  refine (pe_ix (ix_all hu) ha hb (plainIx_of hs)).weak fun σ H Q ⟨F, m, ρ, M, x, M', en, ab, e, w⟩ => ?_
  rw [ev] at e
  refine stepD en ab e fun d M1 H1 F1 m1 v g1 ab1 r1 e1 => ?_
  refine stepD (en.mono g1) ab1 e1 fun d2 M2 H2 F2 m2 v2 g2 ab2 r2 e2 => ?_
  exact ⟨F2, m2, M2, d, d2, x, M', ab2, Rep.mono g2 _ _ r1, r2, e2, w.mono (g1.trans g2)⟩
/-- a slice's part -/
def partOf : List D → Option (Option Int)
  | [] => some none
  | [.int i] => some (some i)
  | _ => none
def TOI (K : PySem.W.Frag) (as : Env → Store → Rs (List D)) : TO := fun σ H Q => ∃ F m ρ M ds o M', En K H F m ρ σ ∧ Ab K H F m M ∧ as ρ M = .ok ds M' ∧ partOf ds = some o ∧ ∀ H' F' m', Gr H F m H' F' m' → Ab K H' F' m' M' → Q o H'
theorem io_none : PO X none (TOI X.K (evs C .nil)) := by
  refine po_none.weak fun σ H Q ⟨F, m, ρ, M, ds, o, M', en, ab, e, ep, w⟩ => ?_
  simp only [evs] at e
  cases e
  cases ep
  exact w H F m .refl ab
theorem io_some (h : PE X a (TEI X.K (ev C p))) : PO X (some a) (TOI X.K (evs C (.cons p .nil))) := by
  refine (po_some h).weak fun σ H Q ⟨F, m, ρ, M, ds, o, M', en, ab, e, ep, w⟩ => ?_
  simp only [evs] at e
  refine stepD en ab e fun d M1 H1 F1 m1 v g1 ab1 r1 e1 => ?_
  simp only [Rs.bd] at e1
  cases e1
  unfold partOf at ep
  split at ep
  · rename_i h; cases h
  · rename_i i h
    cases h
    cases ep
    cases r1
    exact ⟨i, rfl, w _ _ _ g1 ab1⟩
  · cases ep
theorem ie_slc {lo hi : Option Expr} {l u : Es} {p2 : Pos} (ha : PE X a (TEI X.K (ev C p))) (hl : PO X lo (TOI X.K (evs C l))) (hh : PO X hi (TOI X.K (evs C u))) : PE X (.Subscript a (.Slice lo hi none p2) pos) (TEI X.K (ev C (.slc p l u))) := by
  refine (pe_slice sl_all ha hl hh).weak fun σ H Q ⟨F, m, ρ, M, x, M', en, ab, e, w⟩ => ?_
  rw [ev] at e
  refine stepD en ab e fun d M1 H1 F1 m1 v g1 ab1 r1 e1 => ?_
  obtain ⟨ls, M2, e2, e3⟩ := Rs.bd_inv e1
  obtain ⟨us, M3, e4, e5⟩ := Rs.bd_inv e3
  have key : ∃ o o', partOf ls = some o ∧ partOf us = some o' ∧ slS (look M3 d) o o' M3 = .ok x M' := by
    split at e5
    · exact ⟨_, _, rfl, rfl, e5⟩
    · exact ⟨_, _, rfl, rfl, e5⟩
    · exact ⟨_, _, rfl, rfl, e5⟩
    · exact ⟨_, _, rfl, rfl, e5⟩
    · cases e5
  obtain ⟨o, o', h1, h2, h3⟩ := key
  refine ⟨F1, m1, ρ, M1, ls, o, M2, en.mono g1, ab1, e2, h1, fun H2 F2 m2 g2 ab2 => ?_⟩
  refine ⟨F2, m2, ρ, M2, us, o', M3, (en.mono g1).mono g2, ab2, e4, h2, fun H3 F3 m3 g3 ab3 => ?_⟩
  exact ⟨F3, m3, M3, d, x, M', ab3, Rep.mono (g2.trans g3) _ _ r1, h3, w.mono ((g1.trans g2).trans g3)⟩
end
end PyI
/-! PyG: calls, methods, what is walked, comprehensions, targets, statements -/
namespace PyI
open PySem PySem.Spec L2
open PyProof.Rows hiding St

section
variable {X : Cx} {pos p2 : Pos} {C : Ctx}
/-! ### calls -/
/-- the def x of the text keeps what the interpreter says of the f-th -/
def CallOk (X : Cx) (C : Ctx) (f : Nat) (x : Str) : Prop := ∃ (k : Nat) (a : Addr) (fd : FuncData) (ps : List Str) (sp : Sp), FnOk X.prog X.w X.K X.mg X.base CX0 k a fd ps sp ∧ Room k X.A ∧ X.mg x = some (.ref a) ∧
  PySem.W.keepIn X.K (.ref a) = true ∧ Binds X.K fd ps [] ∧ ∀ vs H Q, rN X.K (C.call f) vs H Q → sp vs H Q E0
theorem ie_call {f : Nat} {x : Str} {e : Expr} {es : List Expr} {as : Es} (h : CallOk X C f x) (hg : Gl X x) (ha : PA X (e :: es) (TAI X.K (evs C as))) (st : (e :: es).all (fun e => !isStar e) = true) (hd : (x == ("__debug__" : Str)) = false) :
    PE X (.Call (.Name x p2) (e :: es) [] pos) (TEI X.K (ev C (.call f as))) := by
  obtain ⟨k, a, fd, ps, sp, F, hr, hm, hk, hb, hi⟩ := h
  rw [List.all_cons, Bool.and_eq_true] at st
  refine (pe_call F hr hg hm hk hb .nil pass0 ha hd (star1 (by simpa using st.1)) (starAny st.2)).weak fun σ H Q ⟨F, m, ρ, M, x, M', en, ab, e, w⟩ => ?_
  rw [ev] at e
  refine stepA en ab e fun ds M1 H1 F1 m1 vs g1 ab1 r1 e1 => ?_
  rw [List.append_nil]
  exact hi vs H1 Q ⟨F1, m1, M1, ds, x, M', ab1, r1, e1, w.mono g1⟩
theorem ie_call0 {f : Nat} {x : Str} (h : CallOk X C f x) (hg : Gl X x) (hd : (x == ("__debug__" : Str)) = false) : PE X (.Call (.Name x p2) [] [] pos) (TEI X.K (ev C (.call f .nil))) := by
  obtain ⟨k, a, fd, ps, sp, F, hr, hm, hk, hb, hi⟩ := h
  refine (pe_call0 F hr hg hm hk hb .nil pass0 hd).weak fun σ H Q ⟨F, m, ρ, M, x, M', en, ab, e, w⟩ => ?_
  rw [ev] at e
  simp only [evs, Rs.bd] at e
  exact hi [] H Q ⟨F, m, M, [], x, M', ab, .nil, e, w⟩
theorem prim_call (hc : X.calm = true) {x : Str} {n : Nat} {p : Prim} (h : primOf x n = some p) :
    ∃ v, bootBuiltins x = some v ∧ ((∃ id, v = .builtin id) ∨ ∃ T, v = .type T) ∧ CallR X v (rN X.K (lkN (primS p))) ∧ x ≠ "__name__" ∧ (x == ("__debug__" : Str)) = false := by
  have fin : ∀ {y : Str} {q : Prim} {v : Value}, bootBuiltins y = some v → ((∃ id, v = .builtin id) ∨ ∃ T, v = .type T) → CallR X v (rN X.K (lkN (primS q))) → y ≠ "__name__" → (y == ("__debug__" : Str)) = false → x = y → q = p →
      ∃ v, bootBuiltins x = some v ∧ ((∃ id, v = .builtin id) ∨ ∃ T, v = .type T) ∧ CallR X v (rN X.K (lkN (primS p))) ∧ x ≠ "__name__" ∧ (x == ("__debug__" : Str)) = false := by
    intro y q v h1 h2 h3 h4 h5 e1 e2
    subst e1 e2
    exact ⟨v, h1, h2, h3, h4, h5⟩
  have b1 : primOf1 x = some p → ∃ v, bootBuiltins x = some v ∧ ((∃ id, v = .builtin id) ∨ ∃ T, v = .type T) ∧ CallR X v (rN X.K (lkN (primS p))) ∧ x ≠ "__name__" ∧ (x == ("__debug__" : Str)) = false := by
    intro h
    unfold primOf1 at h
    by_cases e : x = "len"
    · rw [if_pos e] at h; exact fin boot_len (.inl ⟨_, rfl⟩) pr_len (by decide) (by decide) e (Option.some.inj h)
    rw [if_neg e] at h; clear e
    by_cases e : x = "abs"
    · rw [if_pos e] at h; exact fin boot_abs (.inl ⟨_, rfl⟩) pr_abs (by decide) (by decide) e (Option.some.inj h)
    rw [if_neg e] at h; clear e
    by_cases e : x = "max"
    · rw [if_pos e] at h; exact fin boot_max (.inl ⟨_, rfl⟩) (pr_maxl hc) (by decide) (by decide) e (Option.some.inj h)
    rw [if_neg e] at h; clear e
    by_cases e : x = "min"
    · rw [if_pos e] at h; exact fin boot_min (.inl ⟨_, rfl⟩) (pr_minl hc) (by decide) (by decide) e (Option.some.inj h)
    rw [if_neg e] at h; clear e
    by_cases e : x = "int"
    · rw [if_pos e] at h; exact fin PyProof.Rows.boot_int (.inr ⟨_, rfl⟩) pr_int1 (by decide) (by decide) e (Option.some.inj h)
    rw [if_neg e] at h; clear e
    by_cases e : x = "str"
    · rw [if_pos e] at h; exact fin PyProof.Rows.boot_str (.inr ⟨_, rfl⟩) pr_str1 (by decide) (by decide) e (Option.some.inj h)
    rw [if_neg e] at h; clear e
    by_cases e : x = "list"
    · rw [if_pos e] at h; exact fin PyProof.Rows.boot_list (.inr ⟨_, rfl⟩) pr_list1 (by decide) (by decide) e (Option.some.inj h)
    rw [if_neg e] at h; clear e
    by_cases e : x = "tuple"
    · rw [if_pos e] at h; exact fin PyProof.Rows.boot_tuple (.inr ⟨_, rfl⟩) pr_tuple1 (by decide) (by decide) e (Option.some.inj h)
    rw [if_neg e] at h; clear e
    by_cases e : x = "sum"
    · rw [if_pos e] at h; exact fin boot_sum (.inl ⟨_, rfl⟩) (pr_sum1 hc) (by decide) (by decide) e (Option.some.inj h)
    rw [if_neg e] at h; clear e
    by_cases e : x = "all"
    · rw [if_pos e] at h; exact fin boot_all (.inl ⟨_, rfl⟩) (pr_all1 hc) (by decide) (by decide) e (Option.some.inj h)
    rw [if_neg e] at h; clear e
    by_cases e : x = "any"
    · rw [if_pos e] at h; exact fin boot_any (.inl ⟨_, rfl⟩) (pr_any1 hc) (by decide) (by decide) e (Option.some.inj h)
    rw [if_neg e] at h; clear e
    by_cases e : x = "dict"
    · rw [if_pos e] at h; exact fin PyProof.Rows.boot_dict (.inr ⟨_, rfl⟩) (pr_dict1 hc) (by decide) (by decide) e (Option.some.inj h)
    rw [if_neg e] at h
    cases h
  have b2 : primOf2 x = some p → ∃ v, bootBuiltins x = some v ∧ ((∃ id, v = .builtin id) ∨ ∃ T, v = .type T) ∧ CallR X v (rN X.K (lkN (primS p))) ∧ x ≠ "__name__" ∧ (x == ("__debug__" : Str)) = false := by
    intro h
    unfold primOf2 at h
    by_cases e : x = "max"
    · rw [if_pos e] at h; exact fin boot_max (.inl ⟨_, rfl⟩) (pr_max2 hc) (by decide) (by decide) e (Option.some.inj h)
    rw [if_neg e] at h; clear e
    by_cases e : x = "min"
    · rw [if_pos e] at h; exact fin boot_min (.inl ⟨_, rfl⟩) (pr_min2 hc) (by decide) (by decide) e (Option.some.inj h)
    rw [if_neg e] at h
    cases h
  unfold primOf at h
  split at h
  · exact b1 h
  · exact b2 h
  · cases h
theorem ie_prim (hc : X.calm = true) {x : Str} {n : Nat} {p : Prim} {e : Expr} {es : List Expr} {as : Es} (h : primOf x n = some p) (hg : Gl X x) (hm : X.mg x = none) (ha : PA X (e :: es) (TAI X.K (evs C as))) (st : (e :: es).all (fun e => !isStar e) = true) :
    PE X (.Call (.Name x p2) (e :: es) [] pos) (TEI X.K (ev C (.prim p as))) := by
  obtain ⟨v, hb, hv, hr, hn, hd⟩ := prim_call hc h
  rw [List.all_cons, Bool.and_eq_true] at st
  have w : ∀ (σ : L2.St) (H : Hp) (Q : VK), TEI X.K (ev C (.prim p as)) σ H Q → tCB (rN X.K (lkN (primS p))) (TAI X.K (evs C as)) σ H Q := fun σ H Q ⟨F, m, ρ, M, x, M', en, ab, e, w⟩ => by
    rw [ev] at e
    refine stepA en ab e fun ds M1 H1 F1 m1 vs g1 ab1 r1 e1 => ?_
    exact ⟨F1, m1, M1, ds, x, M', ab1, r1, e1, w.mono g1⟩
  rcases hv with ⟨id, rfl⟩ | ⟨T, rfl⟩
  · exact (pe_callB hr hg hm hb ha hn hd (star1 (by simpa using st.1)) (starAny st.2)).weak w
  · exact (pe_callTy hr hg hm hb ha hn hd (star1 (by simpa using st.1)) (starAny st.2)).weak w
def tyOf (x : Str) : Option Ty := if x = "tuple" then some .tup else if x = "str" then some .str else if x = "bool" then some .bool else if x = "int" then some .int else none
theorem tyOf_boot {x : Str} {t : Ty} (h : tyOf x = some t) : bootBuiltins x = some (.type (tyName t)) ∧ x ≠ "__name__" ∧ (x == ("__debug__" : Str)) = false := by
  unfold tyOf at h
  repeat' split at h
  all_goals first
    | (cases h; done)
    | (rename_i q; subst q; cases h; exact ⟨by decide +kernel, by decide, by decide⟩)
theorem ie_isi {x : Str} {t : Ty} {a : Expr} {p : E} {p3 : Pos} (h : tyOf x = some t) (hg : Gl X "isinstance") (hm : X.mg "isinstance" = none) (hgx : Gl X x) (hmx : X.mg x = none) (ha : PE X a (TEI X.K (ev C p))) (st : isStar a = false) :
    PE X (.Call (.Name "isinstance" p2) [a, .Name x p3] [] pos) (TEI X.K (ev C (.prim (.isi t) (.cons p .nil)))) := by
  obtain ⟨hb, hn, hd⟩ := tyOf_boot h
  refine (pe_callB call_isi hg hm boot_isinstance (pa_cons ha (pa_cons (pe_bltn hgx hmx hb (v := .ty (tyName t)) rfl hn hd) pa_nil) (star1 st)) (by decide) (by decide) (star1 st) rfl).weak fun σ H Q ⟨F, m, ρ, M, x, M', en, ab, e, w⟩ => ?_
  rw [ev] at e
  obtain ⟨ds, M0, h1, h2⟩ := Rs.bd_inv e
  simp only [evs] at h1
  refine stepD en ab h1 fun d M1 H1 F1 m1 v g1 ab1 r1 e1 => ?_
  simp only [Rs.bd] at e1
  cases e1
  obtain ⟨b, h3, rfl, rfl⟩ := bR_ok h2
  obtain ⟨ty, k1, k2⟩ := isi_kit t ab1 r1 h3
  exact ⟨v, .ty (tyName t), ty, _, b, rfl, .ty _, k1, k2, (w.mono g1).v ab1 (.bl b)⟩

/-! ### ranges made into lists and tuples -/
theorem inR_ok {i : Int} (h : inR i = true) : -(2 ^ 62) ≤ i ∧ i < 2 ^ 62 := by
  unfold inR at h
  split at h
  · rename_i n
    have := Nat.le_of_ble_eq_true h
    have e : Int.ofNat n = (n : Int) := rfl
    omega
  · rename_i n
    have := Nat.le_of_ble_eq_true h
    have e := Int.negSucc_eq n
    omega
theorem rngD_rep {K : PySem.W.Frag} {H : Hp} {F : Fz} {m : List Addr} (a b : Int) : Reps K H F m (rngD a b) (rgV a b) := by
  unfold rngD rgV
  generalize List.range (b - a).toNat = l
  induction l with
  | nil => exact .nil
  | cons k l ih => exact .cons (.int _) ih
section
variable {e f : Expr} {p q : E} {p3 p4 : Pos}
theorem ie_lrng1 (hc : X.calm = true) (hg : Gl X "list") (hm : X.mg "list" = none) (hg2 : Gl X "range") (hm2 : X.mg "range" = none) (he : PE X e (TEI X.K (ev C p))) (st : isStar e = false) :
    PE X (.Call (.Name "list" p2) [.Call (.Name "range" p3) [e] [] p4] [] pos) (TEI X.K (ev C (.prim .lrng1 (.cons p .nil)))) := by
  refine (pe_listRg hc hg hm (prg_1 hg2 hm2 he (star1 st)) rfl).weak fun σ H Q ⟨F, m, ρ, M, x, M', en, ab, e, w⟩ => ?_
  rw [ev] at e
  obtain ⟨ds, M0, h1, h2⟩ := Rs.bd_inv e
  simp only [evs] at h1
  refine stepD en ab h1 fun d M1 H1 F1 m1 v g1 ab1 r1 e1 => ?_
  simp only [Rs.bd] at e1
  cases e1
  unfold primS at h2
  split at h2 <;> try (exfalso; simp_all; done)
  rename_i n _ hn
  obtain ⟨d', hd', hn⟩ := look1 hn
  cases hd'
  obtain ⟨h3, h4⟩ := guardR_ok h2
  cases h4
  simp only [Bool.and_eq_true, decide_eq_true_eq] at h3
  obtain rfl := look_int ab1 r1 hn
  obtain ⟨b1, b2⟩ := inR_ok h3.2
  have hl := leS_ok h3.1
  have hs : sl = 16777216 := rfl
  exact ⟨n, rfl, ⟨by decide, by decide, b1, b2, by omega⟩, fun a ha => (w.mono g1).lst ab1 (rngD_rep 0 n) a ha⟩
theorem ie_trng1 (hc : X.calm = true) (hg : Gl X "tuple") (hm : X.mg "tuple" = none) (hg2 : Gl X "range") (hm2 : X.mg "range" = none) (he : PE X e (TEI X.K (ev C p))) (st : isStar e = false) :
    PE X (.Call (.Name "tuple" p2) [.Call (.Name "range" p3) [e] [] p4] [] pos) (TEI X.K (ev C (.prim .trng1 (.cons p .nil)))) := by
  refine (pe_tupRg hc hg hm (prg_1 hg2 hm2 he (star1 st)) rfl).weak fun σ H Q ⟨F, m, ρ, M, x, M', en, ab, e, w⟩ => ?_
  rw [ev] at e
  obtain ⟨ds, M0, h1, h2⟩ := Rs.bd_inv e
  simp only [evs] at h1
  refine stepD en ab h1 fun d M1 H1 F1 m1 v g1 ab1 r1 e1 => ?_
  simp only [Rs.bd] at e1
  cases e1
  unfold primS at h2
  split at h2 <;> try (exfalso; simp_all; done)
  rename_i n _ hn
  obtain ⟨d', hd', hn⟩ := look1 hn
  cases hd'
  obtain ⟨h3, h4⟩ := guardR_ok h2
  cases h4
  simp only [Bool.and_eq_true, decide_eq_true_eq] at h3
  obtain rfl := look_int ab1 r1 hn
  obtain ⟨b1, b2⟩ := inR_ok h3.2
  have hl := leS_ok h3.1
  have hs : sl = 16777216 := rfl
  exact ⟨n, rfl, ⟨by decide, by decide, b1, b2, by omega⟩, fun a ha => (w.mono g1).tup ab1 (rngD_rep 0 n) a ha⟩
theorem ie_lrng2 (hc : X.calm = true) (hg : Gl X "list") (hm : X.mg "list" = none) (hg2 : Gl X "range") (hm2 : X.mg "range" = none) (he : PE X e (TEI X.K (ev C p))) (hf : PE X f (TEI X.K (ev C q))) (st : isStar e = false) (sf : isStar f = false) :
    PE X (.Call (.Name "list" p2) [.Call (.Name "range" p3) [e, f] [] p4] [] pos) (TEI X.K (ev C (.prim .lrng2 (.cons p (.cons q .nil))))) := by
  refine (pe_listRg hc hg hm (prg_2 hg2 hm2 he hf (star1 st) (star1 sf) (starAny (by simp [sf]))) rfl).weak fun σ H Q ⟨F, m, ρ, M, x, M', en, ab, e, w⟩ => ?_
  rw [ev] at e
  obtain ⟨ds, M0, h1, h2⟩ := Rs.bd_inv e
  simp only [evs] at h1
  refine stepD en ab h1 fun d M1 H1 F1 m1 v g1 ab1 r1 e1 => ?_
  obtain ⟨ds2, M2, h5, h6⟩ := Rs.bd_inv e1
  cases h6
  refine stepD (en.mono g1) ab1 h5 fun d2 M3 H2 F2 m2 v2 g2 ab2 r2 e2 => ?_
  simp only [Rs.bd] at e2
  cases e2
  unfold primS at h2
  split at h2 <;> try (exfalso; simp_all; done)
  rename_i i j _ hn
  obtain ⟨d', d'', hd', hi, hj⟩ := look2 hn
  cases hd'
  obtain ⟨h3, h4⟩ := guardR_ok h2
  cases h4
  simp only [Bool.and_eq_true, decide_eq_true_eq] at h3
  obtain rfl := look_int ab2 (Rep.mono g2 _ _ r1) hi
  obtain rfl := look_int ab2 r2 hj
  obtain ⟨b1, b2⟩ := inR_ok h3.1.2
  obtain ⟨b3, b4⟩ := inR_ok h3.2
  have hs : sl = 16777216 := rfl
  have hl := leS_ok h3.1.1
  exact ⟨i, j, rfl, rfl, ⟨b1, b2, b3, b4, by omega⟩, fun a ha => (w.mono (g1.trans g2)).lst ab2 (rngD_rep i j) a ha⟩
end

/-! ### methods -/
def mthOf (x : Str) (n : Nat) : Option Mth :=
  if x = "append" ∧ n = 1 then some .append
  else if x = "pop" ∧ n = 0 then some .pop
  else if x = "pop" ∧ n = 1 then some .popAt
  else if x = "get" ∧ n = 1 then some .get1
  else if x = "get" ∧ n = 2 then some .get2
  else none
/-- what a method call leans on -/
def MAlt (X : Cx) (x : Str) (mm : Mth) : Prop := ∃ (T id : String), PlainAttrs T ∧ Slot T x id ∧ typeOf (.builtin id) = pure (.type "method_descriptor") ∧ MtR X id (rM X.K mm) ∧
  ∀ (K : PySem.W.Frag) (H : Hp) (F : Fz) (m : List Addr) (M : Store) (d : D) (v : V), Ab K H F m M → Rep K H F m d v → mthK mm (look M d) = true → tyV K T v H
theorem alt_lst {K : PySem.W.Frag} {H : Hp} {F : Fz} {m : List Addr} {M : Store} {d : D} {v : V} (A : Ab K H F m M) (r : Rep K H F m d v) (h : ∃ xs, look M d = .lst xs) : tyV K "list" v H := by
  obtain ⟨xs, e⟩ := h
  obtain ⟨p, vs, rfl, hp, _⟩ := look_lst A r e
  exact .inl ⟨rfl, vs, SqL.of hp⟩
theorem alt_dct {K : PySem.W.Frag} {H : Hp} {F : Fz} {m : List Addr} {M : Store} {d : D} {v : V} (A : Ab K H F m M) (r : Rep K H F m d v) (h : ∃ ks xs, look M d = .dct ks xs) : tyV K "dict" v H := by
  obtain ⟨ks, xs, e⟩ := h
  obtain ⟨p, vs, rfl, hp, _⟩ := look_dct A r e
  exact .inr (.inr (.inl ⟨rfl, .inl ⟨_, hp⟩⟩))
theorem mth_alt (hu : X.A.units + 1 < cLine) {x : Str} {n : Nat} {mm : Mth} (h : mthOf x n = some mm) : MAlt X x mm := by
  unfold mthOf at h
  repeat' split at h
  all_goals first
    | (cases h; done)
    | (rename_i q; obtain ⟨rfl, _⟩ := q; cases h)
  · exact ⟨"list", "list.append", PySem.F.plainAttrs_list, PySem.F.slot_list_append, PySem.F.type_list_append, mm_append, fun K H F m M d v A r h => alt_lst A r (by unfold mthK at h; split at h <;> first | exact ⟨_, by assumption⟩ | (cases h; done) | simp_all)⟩
  · exact ⟨"list", "list.pop", PySem.F.plainAttrs_list, PySem.F.slot_list_pop, PySem.F.type_list_pop, MtR.weak mm_pop fun x xs H Q q => .inl q, fun K H F m M d v A r h => alt_lst A r (by unfold mthK at h; split at h <;> first | exact ⟨_, by assumption⟩ | (cases h; done) | simp_all)⟩
  · exact ⟨"list", "list.pop", PySem.F.plainAttrs_list, PySem.F.slot_list_pop, PySem.F.type_list_pop, MtR.weak mm_pop fun x xs H Q q => .inr q, fun K H F m M d v A r h => alt_lst A r (by unfold mthK at h; split at h <;> first | exact ⟨_, by assumption⟩ | (cases h; done) | simp_all)⟩
  · exact ⟨"dict", "dict.get", PySem.F.plainAttrs_dict, PySem.F.slot_dict_get, PySem.F.type_dict_get, MtR.weak (mm_get hu) fun x xs H Q q => .inl q, fun K H F m M d v A r h => alt_dct A r (by unfold mthK at h; split at h <;> first | exact ⟨_, _, by assumption⟩ | (cases h; done) | simp_all)⟩
  · exact ⟨"dict", "dict.get", PySem.F.plainAttrs_dict, PySem.F.slot_dict_get, PySem.F.type_dict_get, MtR.weak (mm_get hu) fun x xs H Q q => .inr q, fun K H F m M d v A r h => alt_dct A r (by unfold mthK at h; split at h <;> first | exact ⟨_, _, by assumption⟩ | (cases h; done) | simp_all)⟩
theorem ie_meth {x : Str} {mm : Mth} {o e : Expr} {es : List Expr} {po : E} {as : Es} {apos : Pos} (h : MAlt X x mm) (ho : PE X o (TEI X.K (ev C po))) (ha : PA X (e :: es) (TAI X.K (evs C as))) (st : (e :: es).all (fun e => !isStar e) = true) (h0 : isCall0 o = false)
    (hl : (apos.endLine == pos.line) = true) (hn : (e :: es).length < 30) : PE X (.Call (.Attribute o x apos) (e :: es) [] pos) (TEI X.K (ev C (.meth mm po as))) := by
  obtain ⟨T, id, pa, sl, ty, mt, ht⟩ := h
  have st2 := st
  rw [List.all_cons, Bool.and_eq_true] at st
  have hfew : ((backTo pos (starEach (e :: es) X.env)).all (fun x => !x.1) && (backToKw pos (keywordEach [] X.env)).all (fun x => x.1.isSome)
      && decide ((e :: es).length + ([] : List Keyword).length + (if ([] : List Keyword).isEmpty then 0 else 1) < 30)) = true := by
    rw [starAll st2]
    show (true && true && decide ((e :: es).length + 0 + 0 < 30)) = true
    rw [decide_eq_true (by omega)] <;> rfl
  refine (pe_bm pa sl ty mt ho ha (base_of h0) hfew hl (star1 (by simpa using st.1)) (starAny st.2)).weak fun σ H Q ⟨F, m, ρ, M, x, M', en, ab, e, w⟩ => ?_
  rw [ev] at e
  refine stepD en ab e fun d M1 H1 F1 m1 v g1 ab1 r1 e1 => ?_
  obtain ⟨k1, e2⟩ := guardR_ok e1
  refine ⟨ht _ _ _ _ _ _ _ ab1 r1 k1, ?_⟩
  refine stepA (en.mono g1) ab1 e2 fun ds M2 H2 F2 m2 vs g2 ab2 r2 e3 => ?_
  exact ⟨F2, m2, M2, d, ds, x, M', ab2, Rep.mono g2 _ _ r1, r2, e3, w.mono (g1.trans g2)⟩
theorem ie_meth0 {x : Str} {mm : Mth} {o : Expr} {po : E} {apos : Pos} (h : MAlt X x mm) (ho : PE X o (TEI X.K (ev C po))) (h0 : isCall0 o = false) (hl : (apos.endLine == pos.line) = true) : PE X (.Call (.Attribute o x apos) [] [] pos) (TEI X.K (ev C (.meth mm po .nil))) := by
  obtain ⟨T, id, pa, sl, ty, mt, ht⟩ := h
  refine (pe_bm0 pa sl ty mt ho (base_of h0) hl).weak fun σ H Q ⟨F, m, ρ, M, x, M', en, ab, e, w⟩ => ?_
  rw [ev] at e
  refine stepD en ab e fun d M1 H1 F1 m1 v g1 ab1 r1 e1 => ?_
  obtain ⟨k1, e2⟩ := guardR_ok e1
  refine ⟨ht _ _ _ _ _ _ _ ab1 r1 k1, ?_⟩
  simp only [evs, Rs.bd] at e2
  exact ⟨F1, m1, M1, d, [], x, M', ab1, r1, .nil, e2, w.mono g1⟩

/-! ### what is walked -/
/-- the iterator J goes through the items its as long as the guards hold -/
structure Wk (K : PySem.W.Frag) (J : It) (its : List D) (gs : Gd) (H0 : Hp) (F0 : Fz) (m0 : List Addr) : Prop where
  go : ∀ (i : Nat) (d : D) (H : Hp) (F : Fz) (m : List Addr) (M : Store), Gr H0 F0 m0 H F m → Ab K H F m M → okG gs M = true → its[i]? = some d → J.go i H ∧ ∀ x H', J.yld i H x H' → Gr H F m H' F m ∧ Ab K H' F m M ∧ Rep K H' F m d x
  stop : ∀ (H : Hp) (F : Fz) (m : List Addr) (M : Store), Gr H0 F0 m0 H F m → Ab K H F m M → okG gs M = true → J.stop its.length H
def TII (K : PySem.W.Frag) (sem : Env → Store → Rs (List D × Gd)) : TI := fun σ H R => ∃ F m ρ M p M', En K H F m ρ σ ∧ Ab K H F m M ∧ sem ρ M = .ok p M' ∧ ∀ H' F' m' J, Gr H F m H' F' m' → Ab K H' F' m' M' → Wk K J p.1 p.2 H' F' m' → R J H'
theorem wk_range {K : PySem.W.Frag} {H : Hp} {F : Fz} {m : List Addr} (a b : Int) : Wk K (Itr a (b - a).toNat) (rngD a b) [] H F m := by
  have hl : (rngD a b).length = (b - a).toNat := by unfold rngD; rw [List.length_map, List.length_range]
  refine ⟨fun i d H F m M g A _ e => ?_, fun H F m M g A _ => ?_⟩
  · have hi := (List.getElem?_eq_some_iff.mp e).1
    rw [hl] at hi
    refine ⟨hi, fun x H' y => ?_⟩
    obtain ⟨rfl, rfl⟩ := y
    refine ⟨.refl, A, ?_⟩
    unfold rngD at e
    rw [List.getElem?_map, List.getElem?_range hi] at e
    cases e
    exact .int _
  · show (b - a).toNat ≤ (rngD a b).length
    rw [hl]; exact Nat.le_refl _
theorem ii_rng1 {tg a : Expr} {p : E} {p3 : Pos} (hg : Gl X "range") (hm : X.mg "range" = none) (ha : PE X a (TEI X.K (ev C p))) (st : isStar a = false) :
    PI X tg (.Call (.Name "range" p3) [a] [] pos) (TII X.K fun ρ M => (evs C (.cons p .nil) ρ M).bd fun ds M => itS .rng1 (ds.map (look M)) ds M) := by
  refine PI.any fun σ H R ⟨F, m, ρ, M, it, M', en, ab, e, w⟩ => ⟨_, pi_range1 hg hm (pa_cons ha pa_nil (star1 st)) (star1 st), ?_⟩
  obtain ⟨ds, M0, h1, h2⟩ := Rs.bd_inv e
  simp only [evs] at h1
  refine stepD en ab h1 fun d M1 H1 F1 m1 v g1 ab1 r1 e1 => ?_
  simp only [Rs.bd] at e1
  cases e1
  unfold itS at h2
  split at h2 <;> try (exfalso; simp_all; done)
  rename_i n _ hn
  obtain ⟨d', hd', hn⟩ := look1 hn
  cases hd'
  obtain ⟨h3, h4⟩ := guardR_ok h2
  cases h4
  obtain rfl := look_int ab1 r1 hn
  obtain ⟨b1, b2⟩ := inR_ok h3
  refine ⟨n, rfl, b1, b2, ?_⟩
  have := wk_range (K := X.K) (H := H1) (F := F1) (m := m1) 0 n
  rw [Int.sub_zero] at this
  exact w _ _ _ _ g1 ab1 this
theorem ii_rng2 {tg a b : Expr} {p q : E} {p3 : Pos} (hg : Gl X "range") (hm : X.mg "range" = none) (ha : PE X a (TEI X.K (ev C p))) (hb : PE X b (TEI X.K (ev C q))) (st : isStar a = false) (sb : isStar b = false) :
    PI X tg (.Call (.Name "range" p3) [a, b] [] pos) (TII X.K fun ρ M => (evs C (.cons p (.cons q .nil)) ρ M).bd fun ds M => itS .rng2 (ds.map (look M)) ds M) := by
  refine PI.any fun σ H R ⟨F, m, ρ, M, it, M', en, ab, e, w⟩ => ⟨_, pi_range2 hg hm (pa_cons ha (pa_cons hb pa_nil (star1 sb)) (star1 st)) (by rw [star1 st, star1 sb] <;> rfl) (star1 sb), ?_⟩
  obtain ⟨ds, M0, h1, h2⟩ := Rs.bd_inv e
  simp only [evs] at h1
  refine stepD en ab h1 fun d M1 H1 F1 m1 v g1 ab1 r1 e1 => ?_
  obtain ⟨ds2, M2, h5, h6⟩ := Rs.bd_inv e1
  cases h6
  refine stepD (en.mono g1) ab1 h5 fun d2 M3 H2 F2 m2 v2 g2 ab2 r2 e2 => ?_
  simp only [Rs.bd] at e2
  cases e2
  unfold itS at h2
  split at h2 <;> try (exfalso; simp_all; done)
  rename_i i j _ hn
  obtain ⟨d', d'', hd', hi, hj⟩ := look2 hn
  cases hd'
  obtain ⟨h3, h4⟩ := guardR_ok h2
  cases h4
  simp only [Bool.and_eq_true] at h3
  obtain rfl := look_int ab2 (Rep.mono g2 _ _ r1) hi
  obtain rfl := look_int ab2 r2 hj
  obtain ⟨b1, b2⟩ := inR_ok h3.1
  obtain ⟨b3, b4⟩ := inR_ok h3.2
  exact ⟨i, j, rfl, ⟨b1, b2, b3, b4⟩, w _ _ _ _ (g1.trans g2) ab2 (wk_range i j)⟩
theorem wk_list {K : PySem.W.Frag} {p : Addr} {its : List D} {gs : Gd} {H0 : Hp} {F0 : Fz} {m0 : List Addr}
    (h : ∀ H F m M, Gr H0 F0 m0 H F m → Ab K H F m M → okG gs M = true → ∃ vs, SqL K H p vs ∧ Reps K H F m its vs) : Wk K (Itl K p) its gs H0 F0 m0 := by
  refine ⟨fun i d H F m M g A k e => ?_, fun H F m M g A k => ?_⟩
  · obtain ⟨vs, h1, h2⟩ := h H F m M g A k
    obtain ⟨v, h3, h4⟩ := h2.get e
    refine ⟨⟨vs, v, h1, h3⟩, fun x H' y => ?_⟩
    obtain ⟨rfl, y⟩ := y
    have h5 := y vs h1
    rw [h3] at h5
    cases h5
    exact ⟨.refl, A, h4⟩
  · obtain ⟨vs, h1, h2⟩ := h H F m M g A k
    exact ⟨vs, h1, by rw [h2.length]; exact Nat.le_refl _⟩
theorem wk_tup {K : PySem.W.Frag} {p : Addr} {its : List D} {H0 : Hp} {F0 : Fz} {m0 : List Addr} {vs : List V} (h : SqT K H0 p vs) (r : Reps K H0 F0 m0 its vs) : Wk K (Itt K p) its [] H0 F0 m0 := by
  refine ⟨fun i d H F m M g A k e => ?_, fun H F m M g A k => ?_⟩
  · obtain ⟨v, h3, h4⟩ := (Reps.mono g _ _ r).get e
    refine ⟨⟨vs, v, g.sqT h, h3⟩, fun x H' y => ?_⟩
    obtain ⟨rfl, y⟩ := y
    have h5 := y vs (g.sqT h)
    rw [h3] at h5
    cases h5
    exact ⟨.refl, A, h4⟩
  · exact ⟨vs, g.sqT h, by rw [r.length]; exact Nat.le_refl _⟩
theorem wk_str {K : PySem.W.Frag} {z : Str} {H0 : Hp} {F0 : Fz} {m0 : List Addr} : Wk K (Its z) (signsD z) [] H0 F0 m0 := by
  have hl : (signsD z).length = z.cps.size := by unfold signsD; rw [List.length_map, Array.length_toList]
  refine ⟨fun i d H F m M g A k e => ?_, fun H F m M g A k => ?_⟩
  · have hi := (List.getElem?_eq_some_iff.mp e).1
    rw [hl] at hi
    refine ⟨hi, fun x H' y => ?_⟩
    obtain ⟨rfl, c, hc, rfl⟩ := y
    refine ⟨.refl, A, ?_⟩
    unfold signsD at e
    rw [List.getElem?_map, Array.getElem?_toList, hc] at e
    cases e
    exact .str _
  · show z.cps.size ≤ (signsD z).length
    rw [hl]; exact Nat.le_refl _
/-- the list at p, by the store's own object, a list that never changes, or the script -/
theorem wk_look {K : PySem.W.Frag} {H : Hp} {F : Fz} {m : List Addr} {M : Store} {d : D} {v : V} {xs : List D} (A : Ab K H F m M) (r : Rep K H F m d v) (e : look M d = .lst xs) : ∃ p, v = .ref p ∧ (∃ vs, SqL K H p vs) ∧ Wk K (Itl K p) xs (gdOf d (.lst xs)) H F m := by
  cases r with
  | @lst p _ vs f h rr =>
    cases e
    exact ⟨p, rfl, ⟨vs, SqL.of h⟩, wk_list fun H' F' m' M' g A' _ => ⟨vs, SqL.of ((g.fro p _ f).trans h), Reps.mono g _ _ rr⟩⟩
  | @ref p n hn =>
    obtain ⟨u, h1, h2⟩ := A.at hn
    have e' : (M[n]?).getD .non = .lst xs := e
    rw [h1] at e'
    have e'' : u = .lst xs := e'
    subst e''
    obtain ⟨vs, h3, h4⟩ := h2
    refine ⟨p, rfl, ⟨vs, SqL.of h3⟩, wk_list fun H' F' m' M' g A' k => ?_⟩
    have k' : M'[n]? = some (.lst xs) := by simpa [okG, gdOf] using k
    obtain ⟨us, h5, h6⟩ := A'.obj n p _ (g.at hn) k'
    exact ⟨us, SqL.of h5, h6⟩
  | _ => cases e
end
end PyI
/-! PyH: sequences walked, targets, comprehensions, statements -/
namespace PyI
open PySem PySem.Spec L2
open PyProof.Rows hiding St

section
variable {X : Cx} {pos p2 : Pos} {C : Ctx}
theorem wk_scr {K : PySem.W.Frag} {p : Addr} {ns : List Int} {H : Hp} {F : Fz} {m : List Addr} (h : Scr K H p ns) : Wk K (Itl K p) (ns.map .int) [] H F m :=
  wk_list fun H' F' m' M' g A' _ => ⟨ns.map V.int, (g.scr h).seq, Reps.ints ns⟩
/-- for .. in a list, a tuple, a text, the script -/
theorem ii_seq {tg e : Expr} {p : E} (he : PE X e (TEI X.K (ev C p))) :
    PI X tg e (TII X.K fun ρ M => (evs C (.cons p .nil) ρ M).bd fun ds M => itS .seq (ds.map (look M)) ds M) := by
  refine PI.any fun σ H R ⟨F, m, ρ, M, it, M', en, ab, e, w⟩ => ?_
  obtain ⟨ds, M0, h1, h2⟩ := Rs.bd_inv e
  simp only [evs] at h1
  obtain ⟨x, M1, e1, e2⟩ := Rs.bdd_inv h1
  simp only [Rs.bd] at e2
  cases e2
  have core : ∀ Q : VK, (∀ H' F' m' v, Gr H F m H' F' m' → Ab X.K H' F' m' M0 → Rep X.K H' F' m' x.d v → Q v H') → TEI X.K (ev C p) σ H Q := by
    intro Q hq
    refine stepD (k := fun d M => (Rs.ok [d] M : Rs (List D))) (r := [x.d]) (M' := M0) en ab (by rw [e1]; rfl) fun d M1 H1 F1 m1 v g1 ab1 r1 e1 => ?_
    cases e1
    exact hq _ _ _ _ g1 ab1 r1
  have h2 : (match seqS (look M0 x.d) with
    | some l => Rs.ok (l, gdOf x.d (look M0 x.d)) M0
    | none => .no) = .ok it M' := h2
  generalize hx : look M0 x.d = lx at h2
  cases lx with
  | str z =>
    cases h2
    refine ⟨_, pi_str he, core _ fun H1 F1 m1 v g1 ab1 r1 => ?_⟩
    have hv := look_str ab1 r1 hx
    subst hv
    refine ⟨z, rfl, w _ _ _ _ g1 ab1 ?_⟩
    have : gdOf x.d (D.str z) = [] := by
      cases hd : x.d <;> first | rfl | skip
      rw [hd] at r1
      cases r1
    rw [this]
    exact wk_str
  | tup xs =>
    cases h2
    refine ⟨_, pi_tup he, core _ fun H1 F1 m1 v g1 ab1 r1 => ?_⟩
    rcases r1.look ab1 with h | ⟨n, q, i1, i2, i3, h⟩
    · rw [hx] at h
      have : gdOf x.d (D.tup xs) = [] := by
        cases hd : x.d <;> first | rfl | skip
        rename_i n
        rw [hd] at r1
        cases r1 with
        | ref hn =>
          obtain ⟨u, k1, k2⟩ := ab1.at hn
          rw [hd] at hx
          have hx : (M'[n]?).getD D.non = D.tup xs := hx
          rw [k1] at hx
          have hx : u = .tup xs := hx
          subst hx
          exact k2.elim
      cases h with
      | tup hq rr => exact ⟨_, rfl, ⟨_, hq⟩, w _ _ _ _ g1 ab1 (by rw [this]; exact wk_tup hq rr)⟩
    · rw [hx] at h; exact h.elim
  | lst xs =>
    cases h2
    refine ⟨_, pi_list he, core _ fun H1 F1 m1 v g1 ab1 r1 => ?_⟩
    obtain ⟨q, rfl, hq, wk⟩ := wk_look ab1 r1 hx
    exact ⟨q, rfl, hq, w _ _ _ _ g1 ab1 wk⟩
  | scr ns =>
    cases h2
    refine ⟨_, pi_list he, core _ fun H1 F1 m1 v g1 ab1 r1 => ?_⟩
    obtain ⟨q, rfl, hs⟩ := look_scr ab1 r1 hx
    have : gdOf x.d (D.scr ns) = [] := by
      cases hd : x.d <;> first | rfl | skip
      rename_i n
      rw [hd] at r1
      cases r1 with
      | ref hn =>
        obtain ⟨u, k1, k2⟩ := ab1.at hn
        rw [hd] at hx
        have hx : (M'[n]?).getD D.non = D.scr ns := hx
        rw [k1] at hx
        have hx : u = .scr ns := hx
        subst hx
        exact k2.elim
    exact ⟨q, rfl, ⟨_, hs.seq⟩, w _ _ _ _ g1 ab1 (by rw [this]; exact wk_scr hs)⟩
  | _ => cases h2

/-! ### targets -/
mutual
def T.nms : T → List Nat
  | .nm i => [i]
  | .tp ts => ts.nms
  | .sb _ _ => []
def Ts.nms : Ts → List Nat
  | .nil => []
  | .cons t r => t.nms ++ r.nms
end
def Ts.len : Ts → Nat
  | .nil => 0
  | .cons _ r => r.len + 1
def TGI (K : PySem.W.Frag) (ns : List Nat) (sem : D → Env → Store → Rs Env) : TG := fun v σ H Q => ∃ F m ρ M d ρ' M', En K H F m ρ σ ∧ Ab K H F m M ∧ Rep K H F m d v ∧ sem d ρ M = .ok ρ' M' ∧
  ∀ H' F' m' σ', Gr H F m H' F' m' → Ab K H' F' m' M' → En K H' F' m' ρ' σ' → (∀ vs : List Nat, (∀ i ∈ ns, i ∈ vs) → wipe σ' vs = wipe σ vs) → Q σ' H'
def TGIs (K : PySem.W.Frag) (ns : List Nat) (sem : List D → Env → Store → Rs Env) : TGs := fun v σ H Q => ∃ F m ρ M d ρ' M', En K H F m ρ σ ∧ Ab K H F m M ∧ Reps K H F m d v ∧ sem d ρ M = .ok ρ' M' ∧
  ∀ H' F' m' σ', Gr H F m H' F' m' → Ab K H' F' m' M' → En K H' F' m' ρ' σ' → (∀ vs : List Nat, (∀ i ∈ ns, i ∈ vs) → wipe σ' vs = wipe σ vs) → Q σ' H'
theorem _root_.L2.PG.weak {X : Cx} {e : Expr} {t t' : TG} (h : PG X e t) (w : ∀ v σ H Q, t' v σ H Q → t v σ H Q) : PG X e t' := ⟨fun pins s σ H v u Q I r q => h.run pins s σ H v u Q I r (w v σ H Q q)⟩
theorem _root_.L2.PGs.weak {X : Cx} {e : List Expr} {t t' : TGs} (h : PGs X e t) (w : ∀ v σ H Q, t' v σ H Q → t v σ H Q) : PGs X e t' := ⟨fun pins s σ H v u Q I r q => h.run pins s σ H v u Q I r (w v σ H Q q)⟩
theorem wipe_get {σ : L2.St} : ∀ {vs : List Nat} {j : Nat}, j ∈ vs → j < σ.length → (wipe σ vs)[j]? = some none
  | [], _, h, _ => by cases h
  | v :: vs, j, h, hl => by
    show ((wipe σ vs).set v none)[j]? = some none
    by_cases e : v = j
    · subst e
      rw [List.getElem?_set_self (by rw [wipe_length]; exact hl)]
    · rw [List.getElem?_set_ne e]
      rcases List.mem_cons.mp h with h | h
      · exact absurd h.symm e
      · exact wipe_get h hl
theorem wipe_other {σ : L2.St} : ∀ {vs : List Nat} {j : Nat}, j ∉ vs → (wipe σ vs)[j]? = σ[j]?
  | [], _, _ => rfl
  | v :: vs, j, h => by
    show ((wipe σ vs).set v none)[j]? = _
    rw [List.getElem?_set_ne (fun e : v = j => h (by rw [e]; exact List.mem_cons_self))]
    exact wipe_other (fun k => h (List.mem_cons_of_mem _ k))
theorem wipe_set {σ : L2.St} {i : Nat} {o : Option V} {vs : List Nat} (h : i ∈ vs) : wipe (σ.set i o) vs = wipe σ vs := by
  apply List.ext_getElem?
  intro j
  by_cases hj : j ∈ vs
  · by_cases hl : j < σ.length
    · rw [wipe_get hj (by rw [List.length_set]; exact hl), wipe_get hj hl]
    · rw [List.getElem?_eq_none (by rw [wipe_length, List.length_set]; omega), List.getElem?_eq_none (by rw [wipe_length]; omega)]
  · rw [wipe_other hj, wipe_other hj, List.getElem?_set_ne (fun e : i = j => hj (by rw [← e]; exact h))]
theorem ig_name {i : Nat} {x : Str} (hN : X.N.Nodup) (hi : X.N[i]? = some x) (hx : Loc X.env.scope x) (hf : X.fn x = true ∨ X.env.scope.names.lookup x = some .local) : PG X (.Name x pos) (TGI X.K [i] (asgT C (.nm i))) := by
  refine (pg_name hN hi hx hf).weak fun v σ H Q ⟨F, m, ρ, M, d, ρ', M', en, ab, r, e, w⟩ => ?_
  simp only [asgT] at e
  cases e
  exact w _ _ _ _ .refl ab (en.set r) fun vs h => wipe_set (h i (by simp))
theorem igs_nil : PGs X [] (TGIs X.K [] (asgTs C .nil)) := by
  refine pgs_nil.weak fun v σ H Q ⟨F, m, ρ, M, d, ρ', M', en, ab, r, e, w⟩ => ?_
  cases r with
  | nil =>
    simp only [asgTs] at e
    cases e
    exact ⟨rfl, w _ _ _ _ .refl ab en fun _ _ => rfl⟩
  | cons _ _ => simp only [asgTs] at e; cases e
theorem asgE1 {e : Expr} {es : List Expr} {env : PySem.Env} (h : isStar e = false) : (assignEach (e :: es) env).map (·.2) = assign e env :: (assignEach es env).map (·.2) := by
  cases e <;> first | rfl | (simp [isStar] at h)
theorem asgEl {env : PySem.Env} : ∀ {es : List Expr}, (assignEach es env).length = es.length
  | [] => rfl
  | e :: es => by
    have : (assignEach (e :: es) env).length = (assignEach es env).length + 1 := by cases e <;> rfl
    rw [this, asgEl, List.length_cons]
theorem asgEs {env : PySem.Env} : ∀ {es : List Expr}, es.all (fun e => !isStar e) = true → (assignEach es env).findIdx? (·.1) = none
  | [], _ => rfl
  | e :: es, h => by
    rw [List.all_cons, Bool.and_eq_true] at h
    have ih := asgEs (env := env) h.2
    have h1 : isStar e = false := by simpa using h.1
    have : assignEach (e :: es) env = (false, assign e env) :: assignEach es env := by cases e <;> first | rfl | (simp [isStar] at h1)
    rw [this, List.findIdx?_cons, ih] <;> rfl
theorem igs_cons {e : Expr} {es : List Expr} {t : T} {ts : Ts} (h : PG X e (TGI X.K t.nms (asgT C t))) (hs : PGs X es (TGIs X.K ts.nms (asgTs C ts))) (st : isStar e = false) : PGs X (e :: es) (TGIs X.K (Ts.cons t ts).nms (asgTs C (.cons t ts))) := by
  refine (pgs_cons h hs (asgE1 st)).weak fun v σ H Q ⟨F, m, ρ, M, d, ρ', M', en, ab, r, e, w⟩ => ?_
  cases r with
  | nil => simp only [asgTs] at e; cases e
  | @cons d v ds vs r rr =>
    simp only [asgTs] at e
    obtain ⟨ρ1, M1, e1, e2⟩ := Rs.bd_inv e
    refine ⟨v, vs, rfl, F, m, ρ, M, d, ρ1, M1, en, ab, r, e1, fun H1 F1 m1 σ1 g1 ab1 en1 w1 => ?_⟩
    refine ⟨F1, m1, ρ1, M1, ds, ρ', M', en1, ab1, Reps.mono g1 _ _ rr, e2, fun H2 F2 m2 σ2 g2 ab2 en2 w2 => ?_⟩
    refine w _ _ _ _ (g1.trans g2) ab2 en2 fun vs h => ?_
    rw [w2 vs fun i hi => h i (List.mem_append_right _ hi), w1 vs fun i hi => h i (List.mem_append_left _ hi)]
theorem asgTs_len {C : Ctx} : ∀ {ts : Ts} {ds : List D} {ρ ρ' : Env} {M M' : Store}, asgTs C ts ds ρ M = .ok ρ' M' → ds.length = ts.len
  | .nil, [], _, _, _, _, _ => rfl
  | .nil, _ :: _, _, _, _, _, e => by simp only [asgTs] at e; cases e
  | .cons _ _, [], _, _, _, _, e => by simp only [asgTs] at e; cases e
  | .cons t ts, d :: ds, ρ, ρ', M, M', e => by
    simp only [asgTs] at e
    obtain ⟨ρ1, M1, e1, e2⟩ := Rs.bd_inv e
    rw [List.length_cons, asgTs_len e2] <;> rfl
theorem ig_tup (hc : X.calm = true) {es : List Expr} {k : Nat} {ts : Ts} (h : PGs X es (TGIs X.K ts.nms (asgTs C ts))) (hl : ts.len = es.length) (st : es.all (fun e => !isStar e) = true) : PG X (.Tuple es k pos) (TGI X.K (T.tp ts).nms (asgT C (.tp ts))) := by
  refine (pg_tup hc h asgEl (asgEs st)).weak fun v σ H Q ⟨F, m, ρ, M, d, ρ', M', en, ab, r, e, w⟩ => ?_
  simp only [asgT] at e
  split at e
  · rename_i xs hx
    obtain ⟨p, vs, rfl, hp, rr⟩ := look_tup ab r hx
    refine ⟨p, vs, rfl, hp, ?_, F, m, ρ, M, xs, ρ', M', en, ab, rr, e, w⟩
    rw [← rr.length, asgTs_len e, hl]
  · cases e
theorem asg_sub {o i : Expr} {env : PySem.Env} {pos : Pos} (h : isSlice i = false) (v : Value) : assign (.Subscript o i pos) env v = (do
      let ov ← holding [v] (eval o env)
      let iv ← holding [v, ov] (eval i env)
      standAt pos
      holding [v, ov, iv] (setItem ov iv v)
      release [v, ov, iv] []) := by
  cases i <;> first | rfl | (simp [isSlice] at h)
theorem ig_sub (hu : X.A.units + 1 < cLine) {o i : Expr} {p q : E} (ho : PE X o (TEI X.K (ev C p))) (hi : PE X i (TEI X.K (ev C q))) (hs : isSlice i = false) : PG X (.Subscript o i pos) (TGI X.K [] (asgT C (.sb p q))) := by
  refine (pg_sub ho hi (set_all hu) (asg_sub hs)).weak fun v σ H Q ⟨F, m, ρ, M, d, ρ', M', en, ab, r, e, w⟩ => ?_
  simp only [asgT] at e
  refine stepD en ab e fun x M1 H1 F1 m1 v1 g1 ab1 r1 e1 => ?_
  refine stepD (en.mono g1) ab1 e1 fun y M2 H2 F2 m2 v2 g2 ab2 r2 e2 => ?_
  obtain ⟨_, M3, e3, e4⟩ := Rs.bd_inv e2
  cases e4
  exact ⟨F2, m2, M2, x, y, d, _, ab2, Rep.mono g2 _ _ r1, r2, Rep.mono (g1.trans g2) _ _ r, e3, fun H3 F3 m3 g3 ab3 => w _ _ _ _ ((g1.trans g2).trans g3) ab3 (((en.mono g1).mono g2).mono g3) fun _ _ => rfl⟩
end
end PyI
/-! PyJ: comprehensions, statements -/
namespace PyI
open PySem PySem.Spec L2
open PyProof.Rows hiding St

theorem upd_id {H : Hp} {p : Addr} {o : HO} (h : H p = some o) : upd H p o = H := by
  funext a
  by_cases e : a = p
  · subst e; rw [upd_same, h]
  · rw [upd_ne e]
theorem wipe_wipe {σ : L2.St} {vs : List Nat} : wipe (wipe σ vs) vs = wipe σ vs := by
  apply List.ext_getElem?
  intro j
  by_cases hj : j ∈ vs
  · by_cases hl : j < σ.length
    · rw [wipe_get hj (by rw [wipe_length]; exact hl), wipe_get hj hl]
    · rw [List.getElem?_eq_none (by rw [wipe_length, wipe_length]; omega), List.getElem?_eq_none (by rw [wipe_length]; omega)]
  · rw [wipe_other hj]
section
variable {X : Cx} {pos : Pos} {C : Ctx}
abbrev itSem (C : Ctx) (k : ItK) (its : Es) : Env → Store → Rs (List D × Gd) := fun ρ M => (evs C its ρ M).bd fun ds M => itS k (ds.map (look M)) ds M
theorem lc_of {K : PySem.W.Frag} {own : List Nat} {t : T} {k : ItK} {its cs : Es} {e : E} (ht : ∀ i ∈ t.nms, i ∈ own) {σ : L2.St} {H : Hp} {Q : VK} (h : TEI K (ev C (.comp own t k its cs e)) σ H Q) :
    tLc (TII K (itSem C k its)) (TGI K t.nms (asgT C t)) (TTI K (evTs C cs)) (TEI K (ev C e)) own σ H Q := by
  obtain ⟨F, m, ρ, M, x, M', en, ab, e0, w⟩ := h
  rw [ev] at e0
  obtain ⟨ds, M1, e1, e2⟩ := Rs.bd_inv e0
  obtain ⟨p, M2, e3, e4⟩ := Rs.bd_inv e2
  obtain ⟨ys, M3, e5, e6⟩ := Rs.bd_inv e4
  cases e6
  refine ⟨F, m, ρ, M, p, M2, en, ab, by rw [itSem, e1]; exact e3, fun H1 F1 m1 J g1 ab1 wk D hD => ?_⟩
  have hFD := ab1.notF hD
  have hmD := ab1.notm hD
  generalize hstp : (fun d M => (asgT C t d (wipeE ρ own) M).bd fun ρ M => (evTs C cs ρ M).bd fun b M => match b with
        | true => (ev C e ρ M).bdd fun y M => Rs.ok (some y) M
        | false => .ok none M) = stp at e5
  have hs : ∀ d M, stp d M = (asgT C t d (wipeE ρ own) M).bd fun ρ M => (evTs C cs ρ M).bd fun b M => match b with
        | true => (ev C e ρ M).bdd fun y M => Rs.ok (some y) M
        | false => .ok none M := fun d M => by rw [← hstp]
  refine ⟨fun i n H => ∃ F m M acc vs, n = p.1.length - i ∧ i ≤ p.1.length ∧ Gr H1 F1 m1 H F m ∧ Ab K H F m M ∧ F D = none ∧ D ∉ m ∧ H D = some (.lst vs) ∧ Reps K H F m acc vs ∧ cmpL stp p.2 (p.1.drop i) acc M = .ok ys M', ⟨p.1.length, ?_⟩, ?_⟩
  · obtain ⟨g, A⟩ := ab1.new (o := .lst []) hD
    exact ⟨F1, m1, M2, [], [], rfl, Nat.zero_le _, g, A, hFD, hmD, upd_same, .nil, by rw [List.drop_zero]; exact e5⟩
  · rintro i n H ⟨F2, m2, N, acc, vs, rfl, hi, g2, ab2, hF2, hm2, hH2, ra, e7⟩
    by_cases hlt : i < p.1.length
    · have hd : p.1[i]? = some p.1[i] := List.getElem?_eq_getElem hlt
      rw [List.drop_eq_getElem_cons hlt, cmpL] at e7
      obtain ⟨k1, e7⟩ := guardR_ok e7
      obtain ⟨r, N1, e8, e9⟩ := Rs.bd_inv e7
      obtain ⟨ga, aba⟩ := ab2.aside hF2 hm2 ⟨_, hH2⟩
      generalize hF3 : (fun a => if a = D then some false else F2 a) = F3 at ga aba
      have hF3D : F3 D = some false := by rw [← hF3]; exact if_pos rfl
      obtain ⟨go, yl⟩ := wk.go i _ H F3 m2 N (g2.trans ga) aba k1 hd
      refine .inr ⟨go, fun H' => ∃ F m M acc vs, p.1.length - (i + 1) = p.1.length - (i + 1) ∧ i + 1 ≤ p.1.length ∧ Gr H1 F1 m1 H' F m ∧ Ab K H' F m M ∧ F D = none ∧ D ∉ m ∧ H' D = some (.lst vs) ∧ Reps K H' F m acc vs ∧ cmpL stp p.2 (p.1.drop (i + 1)) acc M = .ok ys M', fun H' h => ⟨_, by omega, h⟩, fun x H' y => ?_⟩
      obtain ⟨g3, ab3, r3⟩ := yl x H' y
      rw [hs] at e8
      obtain ⟨ρ1, N2, e10, e11⟩ := Rs.bd_inv e8
      have en3 : En K H' F3 m2 (wipeE ρ own) (wipe σ own) := (en.mono (((g1.trans g2).trans ga).trans g3)).wipe own
      refine ⟨F3, m2, _, N, _, ρ1, N2, en3, ab3, r3, e10, fun H4 F4 m4 σ4 g4 ab4 en4 w4 => ⟨?_, ?_⟩⟩
      · rw [w4 own ht, wipe_wipe]
      · refine stepT en4 ab4 e11 fun b N3 H5 F5 m5 g5 ab5 e12 => ?_
        have gT : Gr H F3 m2 H5 F5 m5 := (g3.trans g4).trans g5
        cases b with
        | true =>
          rw [if_pos rfl]
          refine stepD (en4.mono g5) ab5 e12 fun y N4 H6 F6 m6 v6 g6 ab6 r6 e13 => ?_
          cases e13
          have gU := gT.trans g6
          have hF6 := gU.fs _ _ hF3D
          have hH6 : H6 D = some (.lst vs) := (gU.fro _ _ hF3D).trans hH2
          obtain ⟨k2, e9⟩ := guardR_ok e9
          have ra6 := Reps.mono (ga.trans gU) _ _ ra
          have mu : Mut (H6 D) := by rw [hH6]; trivial
          refine ⟨vs, hH6, by rw [← sl_eq, ← ra.length]; exact of_decide_eq_true k2, _, m6, _, acc ++ [y], vs ++ [v6], rfl, hlt, ?_, ab6.back hF6 mu, if_pos rfl, (fun h => by have := ab6.dj _ h; rw [hF6] at this; cases this), upd_same, ?_, e9⟩
          · exact Gr.back (((g2.trans ga).trans gT).trans g6) hFD hF6 mu
          · exact (Reps.back hF6 mu _ _ ra6).append (.cons (Rep.back hF6 mu _ _ r6) .nil)
        | false =>
          rw [if_neg Bool.false_ne_true]
          cases e12
          have hF5 := gT.fs _ _ hF3D
          have hH5 : H5 D = some (.lst vs) := (gT.fro _ _ hF3D).trans hH2
          have mu : Mut (H5 D) := by rw [hH5]; trivial
          have u := upd_id hH5
          refine ⟨fun a => if a = D then none else F5 a, m5, N1, acc, vs, rfl, hlt, ?_, ?_, if_pos rfl, (fun h => by have := ab5.dj _ h; rw [hF5] at this; cases this), hH5, ?_, e9⟩
          · have := Gr.back (o := .lst vs) ((g2.trans ga).trans gT) hFD hF5 mu
            rw [u] at this
            exact this
          · have := ab5.back (o := .lst vs) hF5 mu
            rw [u] at this
            exact this
          · have := Reps.back (o := .lst vs) hF5 mu _ _ (Reps.mono (ga.trans gT) _ _ ra)
            rw [u] at this
            exact this
    · have e' : i = p.1.length := by omega
      subst e'
      rw [List.drop_length, cmpL] at e7
      obtain ⟨k1, e7⟩ := guardR_ok e7
      cases e7
      exact .inl ⟨wk.stop H F2 m2 _ g2 ab2 k1, w _ _ _ _ (g1.trans g2) ab2 (.f hF2 hm2 ⟨vs, hH2, ra⟩)⟩
theorem its_nil : PTs X [] (TTI X.K (evTs C .nil)) := ⟨fun pins s σ H Q I ⟨F, m, ρ, M, b, M', en, ab, e, w⟩ => pts_nil.run pins s σ H Q I (by
  simp only [evTs] at e
  cases e
  exact w _ _ _ .refl ab)⟩
theorem its_one {c : Expr} {p : E} (h : PT X c (TTI X.K (evT C p))) : PTs X [c] (TTI X.K (evTs C (.cons p .nil))) := ⟨fun pins s σ H Q I ⟨F, m, ρ, M, b, M', en, ab, e, w⟩ => (pts_one h).run pins s σ H Q I (by
  simp only [evTs] at e
  exact ⟨F, m, ρ, M, b, M', en, ab, e, w⟩)⟩
section
variable {elt tg iter : Expr} {ifs : List Expr} {scope : Scope} {own : List (Str × Nat)} {t : T} {k : ItK} {its cs : Es} {e : E}
theorem ie_comp (hc : X.calm = true) (hN : X.N.Nodup) (hi : PI X tg iter (TII X.K (itSem C k its))) (ok : BlkOk X.N X.env.scope scope own)
    (hg : ∀ (s : Shared) (H : Hp) (C' : Addr) (cl : List (Str × Addr)) (fp : List Addr), PG (X.blk s H scope (compEnvC scope cl C' X.env) fp) tg (TGI X.K t.nms (asgT C t)))
    (ht : ∀ (s : Shared) (H : Hp) (C' : Addr) (cl : List (Str × Addr)) (fp : List Addr), PTs (X.blk s H scope (compEnvC scope cl C' X.env) fp) ifs (TTI X.K (evTs C cs)))
    (he : ∀ (s : Shared) (H : Hp) (C' : Addr) (cl : List (Str × Addr)) (fp : List Addr), PE (X.blk s H scope (compEnvC scope cl C' X.env) fp) elt (TEI X.K (ev C e)))
    (hs : isSetD iter = false) (ho : ∀ i ∈ t.nms, i ∈ own.map (·.2)) :
    PE X (.ListComp elt [⟨tg, iter, ifs, 0⟩] scope pos) (TEI X.K (ev C (.comp (own.map (·.2)) t k its cs e))) :=
  (pe_lc hc hN hi ok hg ht he (folded_of hs)).weak fun σ H Q h => lc_of ho h
end
end
end PyI
/-! PyK: statements -/
namespace PyI
open PySem PySem.Spec L2
open PyProof.Rows hiding St

/-- a wish about how a statement ends -/
def FW (K : PySem.W.Frag) (H : Hp) (F : Fz) (m : List Addr) (f : Fl) (M : Store) (W : Ends) : Prop := match f with
  | .nx ρ => ∀ H' F' m' σ, Gr H F m H' F' m' → Ab K H' F' m' M → En K H' F' m' ρ σ → W.nx σ H'
  | .bk ρ => ∀ H' F' m' σ, Gr H F m H' F' m' → Ab K H' F' m' M → En K H' F' m' ρ σ → W.bk σ H'
  | .ct ρ => ∀ H' F' m' σ, Gr H F m H' F' m' → Ab K H' F' m' M → En K H' F' m' ρ σ → W.ct σ H'
  | .rt d => Wish K H F m d M W.rt
def TSI (K : PySem.W.Frag) (sem : Env → Store → Rs Fl) : TS := fun W σ H => ∃ F m ρ M f M', En K H F m ρ σ ∧ Ab K H F m M ∧ sem ρ M = .ok f M' ∧ FW K H F m f M' W
theorem FW.mono {K : PySem.W.Frag} {H H' : Hp} {F F' : Fz} {m m' : List Addr} {f : Fl} {M : Store} {W : Ends} (g : Gr H F m H' F' m') (w : FW K H F m f M W) : FW K H' F' m' f M W := by
  cases f with
  | nx ρ => exact fun H2 F2 m2 σ g2 => w H2 F2 m2 σ (g.trans g2)
  | bk ρ => exact fun H2 F2 m2 σ g2 => w H2 F2 m2 σ (g.trans g2)
  | ct ρ => exact fun H2 F2 m2 σ g2 => w H2 F2 m2 σ (g.trans g2)
  | rt d => exact Wish.mono g w
theorem _root_.L2.PS.weak {X : Cx} {e : Stmt} {t t' : TS} (h : PS X e t) (w : ∀ D σ H, t' D σ H → t D σ H) : PS X e t' := ⟨fun pins s σ H D I q => h.run pins s σ H D I (w D σ H q)⟩
theorem _root_.L2.PSs.weak {X : Cx} {e : List Stmt} {t t' : TS} (h : PSs X e t) (w : ∀ D σ H, t' D σ H → t D σ H) : PSs X e t' := ⟨fun pins s σ H D I q => h.run pins s σ H D I (w D σ H q)⟩

section
variable {X : Cx} {pos : Pos} {C : Ctx}
theorem is_nil : PSs X [] (TSI X.K (exs C .nil)) := by
  refine pss_nil.weak fun W σ H ⟨F, m, ρ, M, f, M', en, ab, e, w⟩ => ?_
  simp only [exs] at e
  cases e
  exact w _ _ _ _ .refl ab en
theorem is_cons {st : Stmt} {r : List Stmt} {a : S} {b : Ss} (h1 : PS X st (TSI X.K (ex C a))) (h2 : PSs X r (TSI X.K (exs C b))) : PSs X (st :: r) (TSI X.K (exs C (.cons a b))) := by
  refine (pss_cons h1 h2).weak fun W σ H ⟨F, m, ρ, M, f, M', en, ab, e, w⟩ => ?_
  simp only [exs] at e
  obtain ⟨f1, M1, e1, e2⟩ := Rs.bd_inv e
  refine ⟨F, m, ρ, M, f1, M1, en, ab, e1, ?_⟩
  cases f1 with
  | nx ρ1 => exact fun H1 F1 m1 σ1 g1 ab1 en1 => ⟨F1, m1, ρ1, M1, f, M', en1, ab1, e2, w.mono g1⟩
  | bk ρ1 => cases e2; exact w
  | ct ρ1 => cases e2; exact w
  | rt d => cases e2; exact w
/-- the last statement that ends the def: nothing behind it counts -/
theorem is_pass : PS X (.Pass pos) (TSI X.K (ex C .pass)) := by
  refine ps_pass.weak fun W σ H ⟨F, m, ρ, M, f, M', en, ab, e, w⟩ => ?_
  simp only [ex] at e
  cases e
  exact w _ _ _ _ .refl ab en
theorem is_brk : PS X (.Break pos) (TSI X.K (ex C .brk)) := by
  refine ps_break.weak fun W σ H ⟨F, m, ρ, M, f, M', en, ab, e, w⟩ => ?_
  simp only [ex] at e
  cases e
  exact w _ _ _ _ .refl ab en
theorem is_cont : PS X (.Continue pos) (TSI X.K (ex C .cont)) := by
  refine ps_continue.weak fun W σ H ⟨F, m, ρ, M, f, M', en, ab, e, w⟩ => ?_
  simp only [ex] at e
  cases e
  exact w _ _ _ _ .refl ab en
theorem is_doc {x j pos'} : PS X (.Expr (.Constant (.str x) j pos) pos') (TSI X.K (ex C .pass)) := by
  refine ps_doc.weak fun W σ H ⟨F, m, ρ, M, f, M', en, ab, e, w⟩ => ?_
  simp only [ex] at e
  cases e
  exact w _ _ _ _ .refl ab en
theorem is_retN : PS X (.Return none pos) (TSI X.K (ex C .retN)) := by
  refine ps_retN.weak fun W σ H ⟨F, m, ρ, M, f, M', en, ab, e, w⟩ => ?_
  simp only [ex] at e
  cases e
  exact Wish.v w ab .non
theorem is_ret {e : Expr} {a : E} (h : PE X e (TEI X.K (ev C a))) : PS X (.Return (some e) pos) (TSI X.K (ex C (.ret a))) := by
  refine (ps_ret h).weak fun W σ H ⟨F, m, ρ, M, f, M', en, ab, e, w⟩ => ?_
  simp only [ex] at e
  refine stepF en ab e fun d M1 H1 F1 m1 v g1 ab1 r1 e1 => ?_
  cases e1
  exact w _ _ _ _ g1 ab1 r1
/-- not a comprehension -/
def isComp : Expr → Bool
  | .ListComp _ _ _ _ => true
  | .SetComp _ _ _ _ => true
  | .DictComp _ _ _ _ _ => true
  | _ => false
theorem sw_false {e : Expr} {t : Option Expr} {l : Nat} {env : PySem.Env} (h : isComp e = false) : swapsWith e t l env = pure false := by
  cases e <;> first | rfl | (simp [isComp] at h)
theorem is_exp {e : Expr} {a : E} (h : PE X e (TEI X.K (ev C a))) (hc : isComp e = false) : PS X (.Expr e pos) (TSI X.K (ex C (.exp a))) := by
  refine (ps_expr h (sw_false hc)).weak fun W σ H ⟨F, m, ρ, M, f, M', en, ab, e, w⟩ => ?_
  simp only [ex] at e
  refine stepD en ab e fun d M1 H1 F1 m1 v g1 ab1 r1 e1 => ?_
  cases e1
  exact w _ _ _ _ g1 ab1 (en.mono g1)
theorem is_if {c : Expr} {p q : List Stmt} {a : E} {b b' : Ss} (hc : PT X c (TTI X.K (evT C a))) (hp : PSs X p (TSI X.K (exs C b))) (hq : PSs X q (TSI X.K (exs C b'))) : PS X (.If c p q pos) (TSI X.K (ex C (.iff a b b'))) := by
  refine (ps_if hc hp hq).weak fun W σ H ⟨F, m, ρ, M, f, M', en, ab, e, w⟩ => ?_
  simp only [ex] at e
  refine stepT en ab e fun t M1 H1 F1 m1 g1 ab1 e1 => ?_
  cases t with
  | true => rw [if_pos rfl]; exact ⟨F1, m1, ρ, M1, f, M', en.mono g1, ab1, e1, w.mono g1⟩
  | false => rw [if_neg Bool.false_ne_true]; exact ⟨F1, m1, ρ, M1, f, M', en.mono g1, ab1, e1, w.mono g1⟩

/-! ### assignments -/
theorem tasg_of {K : PySem.W.Frag} {a : E} {t : T} {te : TE} {W : Ends} {σ : L2.St} {H : Hp} (hte : ∀ σ H Q, TEI K (ev C a) σ H Q → te σ H Q) (h : TSI K (ex C (.asg t a)) W σ H) : tAsg te (TGI K t.nms (asgT C t)) W σ H := by
  obtain ⟨F, m, ρ, M, f, M', en, ab, e, w⟩ := h
  simp only [ex] at e
  refine hte _ _ _ (stepD en ab e fun d M1 H1 F1 m1 v g1 ab1 r1 e1 => ?_)
  obtain ⟨ρ1, M2, e2, e3⟩ := Rs.bd_inv e1
  cases e3
  exact ⟨F1, m1, ρ, M1, d, ρ1, _, en.mono g1, ab1, r1, e2, fun H2 F2 m2 σ2 g2 ab2 en2 _ => w _ _ _ _ (g1.trans g2) ab2 en2⟩
/-- not a row of targets taken from a row of values -/
def isTupT : Expr → Bool
  | .Tuple _ _ _ => true
  | .List _ _ => true
  | _ => false
theorem st_none1 {tg e : Expr} {env : PySem.Env} (h : isTupT tg = false) : swappedStores [tg] e env = pure none := by
  cases tg <;> first | rfl | (simp [isTupT] at h)
theorem st_none2 {tg e : Expr} {env : PySem.Env} (h : isTupT e = false) : swappedStores [tg] e env = pure none := by
  cases tg <;> first | rfl | (cases e <;> first | rfl | (simp [isTupT] at h))
/-- rows of four or more, of unlike lengths, of constants, with a target that is no name -/
def isNm : Expr → Bool
  | .Name _ _ => true
  | _ => false
def parNone (ts vs : List Expr) : Bool := !(ts.length == 2 || ts.length == 3) || vs.length != ts.length || !(ts.all isNm) || vs.all (foldedForSure 8)
theorem fm_lt {α β : Type} {f : α → Option β} {p : α → Bool} (hp : ∀ a b, f a = some b → p a = true) : ∀ {l : List α}, l.all p = false → (l.filterMap f).length < l.length
  | [], h => by simp at h
  | a :: l, h => by
    rw [List.all_cons, Bool.and_eq_false_iff] at h
    have hle : (l.filterMap f).length ≤ l.length := List.length_filterMap_le f l
    rw [List.filterMap_cons]
    cases hf : f a with
    | none => simp only [List.length_cons]; omega
    | some b =>
      have h1 : p a = true := hp a b hf
      rcases h with h | h
      · rw [h1] at h; cases h
      · simp only [List.length_cons]
        have := fm_lt hp h
        omega
theorem st_none3 {ts vs : List Expr} {k k2 : Nat} {p1 p2 : Pos} {env : PySem.Env} (h : parNone ts vs = true) : swappedStores [.Tuple ts k p1] (.Tuple vs k2 p2) env = pure none := by
  unfold swappedStores
  simp only []
  by_cases h1 : (!(ts.length == 2 || ts.length == 3) || vs.length != ts.length || env.blockKind != .function) = true
  · rw [if_pos h1] <;> rfl
  rw [if_neg h1]
  split
  · rfl
  unfold parNone at h
  simp only [Bool.or_eq_true] at h h1
  have h3 : (!(ts.all isNm)) = true ∨ vs.all (foldedForSure 8) = true := by
    rcases h with (((h | h) | h) | h)
    · exact absurd (.inl (.inl h)) h1
    · exact absurd (.inl (.inr h)) h1
    · exact .inl h
    · exact .inr h
  split
  · rfl
  split
  · rfl
  · rename_i h4 h5
    rcases h3 with h3 | h3
    · exfalso
      simp only [Bool.or_eq_true, not_or, bne_iff_ne, ne_eq, Decidable.not_not] at h4
      refine absurd h4.1 (Nat.ne_of_lt (fm_lt (p := isNm) (fun a b e => ?_) (by simpa using h3)))
      cases a <;> first | rfl | cases e
    · exact absurd h3 h5

theorem sole {tg e : Expr} {l : Nat} {env : PySem.Env} {b : Bool} (h : swapsWith e (some tg) l env = pure b) : swapsWithSole [tg] e l env = pure b := h
theorem is_asg {tg e : Expr} {t : T} {a : E} (he : PE X e (TEI X.K (ev C a))) (hg : PG X tg (TGI X.K t.nms (asgT C t))) (hs : swapsWith e (some tg) pos.line X.env = pure false) (hw : swappedStores [tg] e X.env = pure none) (st : isStar tg = false) :
    PS X (.Assign [tg] e pos) (TSI X.K (ex C (.asg t a))) :=
  (ps_asg he hg (sole hs) hw (asgE1 st)).weak fun W σ H h => tasg_of (fun _ _ _ h => h) h
/-- a new list by a comprehension into a local name -/
def swB (sc scope : Scope) (y : Str) (py pos : Pos) : Bool := (sc.names.lookup y == some .local) && py.line == pos.line && !(scope.names.any fun (n, k) => n == y && (k == .local || k == .cell))
theorem sw_comp {elt : Expr} {gs : List Comprehension} {scope : Scope} {pos py : Pos} {y : Str} {l : Nat} {env : PySem.Env} (hk : env.scope.kind = .function) : swapsWith (.ListComp elt gs scope pos) (some (.Name y py)) l env = pure (swB env.scope scope y py pos) := by
  have hb : env.blockKind = .function := by unfold Env.blockKind; rw [hk]; rfl
  unfold swapsWith swB
  simp only [hb, Expr.pos, Env.kindOf]
  rfl
theorem is_asgLc {y : Str} {i : Nat} {py spos : Pos} {elt tg iter : Expr} {ifs : List Expr} {scope : Scope} {own : List (Str × Nat)} {t : T} {k : ItK} {its cs : Es} {e : E} {a : E}
    (hc : X.calm = true) (hN : X.N.Nodup) (hy : X.N[i]? = some y) (hyl : X.env.scope.names.lookup y = some .local) (hsw : swapsWith (.ListComp elt [⟨tg, iter, ifs, 0⟩] scope pos) (some (.Name y py)) spos.line X.env = pure true) (hi : PI X tg iter (TII X.K (itSem C k its))) (ok : BlkOk X.N X.env.scope scope own)
    (hg : ∀ (s : Shared) (H : Hp) (C' : Addr) (cl : List (Str × Addr)) (fp : List Addr), PG (X.blk s H scope (compEnvC scope cl C' X.env) fp) tg (TGI X.K t.nms (asgT C t)))
    (ht : ∀ (s : Shared) (H : Hp) (C' : Addr) (cl : List (Str × Addr)) (fp : List Addr), PTs (X.blk s H scope (compEnvC scope cl C' X.env) fp) ifs (TTI X.K (evTs C cs)))
    (he : ∀ (s : Shared) (H : Hp) (C' : Addr) (cl : List (Str × Addr)) (fp : List Addr), PE (X.blk s H scope (compEnvC scope cl C' X.env) fp) elt (TEI X.K (ev C e)))
    (hs : isSetD iter = false) (ho : ∀ i ∈ t.nms, i ∈ own.map (·.2)) (ha : a = .comp (own.map (·.2)) t k its cs e ∨ a = .new (.comp (own.map (·.2)) t k its cs e)) :
    PS X (.Assign [.Name y py] (.ListComp elt [⟨tg, iter, ifs, 0⟩] scope pos) spos) (TSI X.K (ex C (.asg (.nm i) a))) := by
  refine (ps_setLc hc hN hy hyl hsw hi ok hg ht he (folded_of hs)).weak fun W σ H h => ?_
  have w : ∀ σ H Q, TEI X.K (ev C a) σ H Q → tLc (TII X.K (itSem C k its)) (TGI X.K t.nms (asgT C t)) (TTI X.K (evTs C cs)) (TEI X.K (ev C e)) (own.map (·.2)) σ H Q := by
    rcases ha with rfl | rfl
    · exact fun σ H Q h => lc_of ho h
    · exact fun σ H Q ⟨F, m, ρ, M, x, M', en, ab, e, w⟩ => by
        simp only [ev] at e
        refine lc_of ho (stepF (A := ev C (.comp (own.map (·.2)) t k its cs _)) en ab (by rw [ev]; exact e) fun d M1 H1 F1 m1 v g1 ab1 r1 e1 => ?_)
        cases d with
        | v d => cases e1
        | f d =>
          cases e1
          obtain ⟨m2, g2, ab2, r2⟩ := r1.thaw ab1
          exact w H1 F1 m2 v (g1.trans g2) ab2 (.v r2)
  have h2 := tasg_of w h
  show tLc _ _ _ _ _ σ H fun x H1 => gName i x σ H1 W.nx
  obtain ⟨F, m, ρ, M, f, M', en, ab, e, w2⟩ := h
  simp only [ex] at e
  refine w _ _ _ (stepD en ab e fun d M1 H1 F1 m1 v g1 ab1 r1 e1 => ?_)
  simp only [asgT, Rs.bd] at e1
  cases e1
  exact w2 _ _ _ _ g1 ab1 ((en.mono g1).set r1)

/-! ### rows of names, stored from the right -/
def parTwo (sc : Scope) (x y : Str) (px py : Pos) (vs : List Expr) : Bool := decide (sc.names.lookup x = some .local) && decide (sc.names.lookup y = some .local) && py.line == px.line && decide (x ≠ y) && vs.all (fun e => !isStar e) && !(vs.all (foldedForSure 8)) && !(vs.all (constantsAlone 8))
theorem anyF {f : Expr → Bool} (hf : ∀ e, isStar e = false → f e = false) : ∀ {vs : List Expr}, vs.all (fun e => !isStar e) = true → vs.any f = false
  | [], _ => rfl
  | e :: es, h => by
    rw [List.all_cons, Bool.and_eq_true] at h
    rw [List.any_cons, anyF hf h.2, hf e (by simpa using h.1)] <;> rfl
theorem st_some2 {x y : Str} {a b : Expr} {px py pt pt2 : Pos} {kt k2 : Nat} {env : PySem.Env} (hk : env.scope.kind = .function) (h : parTwo env.scope x y px py [a, b] = true) :
    swappedStores [.Tuple [.Name x px, .Name y py] kt pt] (.Tuple [a, b] k2 pt2) env = pure (some [x, y]) := by
  unfold parTwo at h
  simp only [Bool.and_eq_true, decide_eq_true_eq, Bool.not_eq_true', beq_iff_eq] at h
  obtain ⟨⟨⟨⟨⟨⟨h1, h2⟩, h3⟩, h4⟩, h5⟩, h6⟩, h7⟩ := h
  have hb : env.blockKind = .function := by unfold Env.blockKind; rw [hk]; rfl
  have k1 : env.kindOf x = some .local := h1
  have k2 : env.kindOf y = some .local := h2
  unfold swappedStores
  simp only []
  rw [if_neg (by rw [hb]; simp)]
  split
  · rename_i q
    exact absurd q (by rw [anyF (fun e he => by cases e <;> first | rfl | (simp [isStar] at he)) h5]; exact Bool.false_ne_true)
  simp only [List.filterMap_cons, List.filterMap_nil, k1, k2, h3, Expr.pos, h6, h7, List.head?_cons, Option.map_some, Option.getD_some, beq_self_eq_true, Bool.and_self, if_true]
  have ed : ([x, y] : List Str).eraseDups = [x, y] := by simp [List.eraseDups_cons, Ne.symm h4]
  simp [ed]

theorem is_par2 (hc : X.calm = true) (hk : X.env.scope.kind = .function) (hN : X.N.Nodup) {i j : Nat} {x y : Str} {a b : Expr} {px py pt pt2 : Pos} {kt k2 : Nat} {as : Es} (hi : X.N[i]? = some x) (hj : X.N[j]? = some y) (hp : parTwo X.env.scope x y px py [a, b] = true)
    (ha : PA X [a, b] (TAI X.K (evs C as))) : PS X (.Assign [.Tuple [.Name x px, .Name y py] kt pt] (.Tuple [a, b] k2 pt2) pos) (TSI X.K (ex C (.par [i, j] as))) := by
  have h := hp
  unfold parTwo at h
  simp only [Bool.and_eq_true, decide_eq_true_eq, Bool.not_eq_true', beq_iff_eq] at h
  obtain ⟨⟨⟨⟨⟨⟨h1, h2⟩, h3⟩, h4⟩, h5⟩, h6⟩, h7⟩ := h
  refine (ps_par hc hN hi hj (fun e => h4 (by subst e; rw [hi] at hj; exact Option.some.inj hj)) h1 h2 ha (st_some2 hk hp)).weak fun W σ H ⟨F, m, ρ, M, f, M', en, ab, e, w⟩ => ?_
  simp only [ex] at e
  refine stepA en ab e fun ds M1 H1 F1 m1 vs g1 ab1 r1 e1 => ?_
  obtain ⟨hl, e2⟩ := guardR_ok e1
  have hl := of_decide_eq_true hl
  cases e2
  cases r1 with
  | nil => cases hl
  | cons ra r1 =>
    cases r1 with
    | nil => cases hl
    | cons rb r1 =>
      cases r1 with
      | nil => exact ⟨_, _, rfl, w _ _ _ _ g1 ab1 (((en.mono g1).set ra).set rb)⟩
      | cons _ _ => simp at hl

/-! ### loops -/
theorem is_for (hp : PassesOwn (model X.prog X.w) X.A X.env X.xe) (hc : X.calm = true) {tg iter : Expr} {body : List Stmt} {t : T} {k : ItK} {its : Es} {b : Ss} (hi : PI X tg iter (TII X.K (itSem C k its))) (hg : PG X tg (TGI X.K t.nms (asgT C t))) (hb : PSs X body (TSI X.K (exs C b)))
    (hs : isSetD iter = false) : PS X (.For tg iter body [] pos) (TSI X.K (ex C (.forr t k its b))) := by
  refine (ps_for hp hc hi hg hb (folded_of hs)).weak fun W σ H ⟨F, m, ρ, M, f, M', en, ab, e, w⟩ => ?_
  simp only [ex] at e
  obtain ⟨ds, M1, e1, e2⟩ := Rs.bd_inv e
  obtain ⟨p, M2, e3, e4⟩ := Rs.bd_inv e2
  refine ⟨F, m, ρ, M, p, M2, en, ab, by rw [itSem, e1]; exact e3, fun H1 F1 m1 J g1 ab1 wk => ?_⟩
  generalize hstp : (fun d ρ M => (asgT C t d ρ M).bd fun ρ M => exs C b ρ M) = stp at e4
  have hs : ∀ d ρ M, stp d ρ M = (asgT C t d ρ M).bd fun ρ M => exs C b ρ M := fun d ρ M => by rw [← hstp]
  refine ⟨fun i n σ H => ∃ F m ρ M, n = p.1.length - i ∧ i ≤ p.1.length ∧ Gr H1 F1 m1 H F m ∧ En X.K H F m ρ σ ∧ Ab X.K H F m M ∧ forL stp p.2 (p.1.drop i) ρ M = .ok f M', ⟨p.1.length, F1, m1, ρ, M2, rfl, Nat.zero_le _, .refl, en.mono g1, ab1, by rw [List.drop_zero]; exact e4⟩, ?_⟩
  rintro i n σ2 H2 ⟨F2, m2, ρ2, N, rfl, hi2, g2, en2, ab2, e5⟩
  by_cases hlt : i < p.1.length
  · have hd : p.1[i]? = some p.1[i] := List.getElem?_eq_getElem hlt
    rw [List.drop_eq_getElem_cons hlt, forL] at e5
    obtain ⟨k1, e5⟩ := guardR_ok e5
    obtain ⟨r, N1, e6, e7⟩ := Rs.bd_inv e5
    rw [hs] at e6
    obtain ⟨ρ3, N2, e8, e9⟩ := Rs.bd_inv e6
    obtain ⟨go, yl⟩ := wk.go i _ H2 F2 m2 N g2 ab2 k1 hd
    refine .inr ⟨go, fun σ' H' => ∃ F m ρ M, i + 1 ≤ p.1.length ∧ Gr H1 F1 m1 H' F m ∧ En X.K H' F m ρ σ' ∧ Ab X.K H' F m M ∧ forL stp p.2 (p.1.drop (i + 1)) ρ M = .ok f M', ?_, fun x H' y => ?_⟩
    · rintro σ' H' ⟨F', m', ρ', M'', q1, q2, q3, q4, q5⟩
      exact ⟨p.1.length - (i + 1), by omega, F', m', ρ', M'', rfl, q1, q2, q3, q4, q5⟩
    · obtain ⟨g3, ab3, r3⟩ := yl x H' y
      refine ⟨F2, m2, ρ2, N, _, ρ3, N2, en2.mono g3, ab3, r3, e8, fun H4 F4 m4 σ4 g4 ab4 en4 _ => ?_⟩
      refine ⟨F4, m4, ρ3, N2, r, N1, en4, ab4, e9, ?_⟩
      have g0 := (g2.trans g3).trans g4
      cases r with
      | nx ρ5 => exact fun H5 F5 m5 σ5 g5 ab5 en5 => ⟨F5, m5, ρ5, N1, hlt, g0.trans g5, en5, ab5, e7⟩
      | ct ρ5 => exact fun H5 F5 m5 σ5 g5 ab5 en5 => ⟨F5, m5, ρ5, N1, hlt, g0.trans g5, en5, ab5, e7⟩
      | bk ρ5 => cases e7; exact fun H5 F5 m5 σ5 g5 ab5 en5 => w _ _ _ _ ((g1.trans g0).trans g5) ab5 en5
      | rt d => cases e7; exact Wish.mono (g1.trans g0) w
  · have e' : i = p.1.length := by omega
    subst e'
    rw [List.drop_length, forL] at e5
    obtain ⟨k1, e5⟩ := guardR_ok e5
    cases e5
    exact .inl ⟨wk.stop H2 F2 m2 _ g2 ab2 k1, w _ _ _ _ (g1.trans g2) ab2 en2⟩
theorem is_while (hp : PassesOwn (model X.prog X.w) X.A X.env X.xe) {c : Expr} {body : List Stmt} {a : E} {b : Ss} (hc : PT X c (TTI X.K (evT C a))) (hb : PSs X body (TSI X.K (exs C b))) : PS X (.While c body [] pos) (TSI X.K (ex C (.whil a b))) := by
  refine (ps_while hp hc hb).weak fun W σ H ⟨F, m, ρ, M, f, M', en, ab, e, w⟩ => ?_
  simp only [ex] at e
  refine ⟨fun n σ' H' => ∃ F' m' ρ M, Gr H F m H' F' m' ∧ En X.K H' F' m' ρ σ' ∧ Ab X.K H' F' m' M ∧ whileL (evT C a) (exs C b) n ρ M = .ok f M', ⟨wfuel, F, m, ρ, M, .refl, en, ab, e⟩, ?_⟩
  rintro n σ1 H1 ⟨F1, m1, ρ1, M1, g1, en1, ab1, e1⟩
  cases n with
  | zero => rw [whileL] at e1; cases e1
  | succ n =>
    rw [whileL] at e1
    refine stepT en1 ab1 e1 fun t M2 H2 F2 m2 g2 ab2 e2 => ?_
    cases t with
    | false =>
      rw [if_neg Bool.false_ne_true]
      cases e2
      exact w _ _ _ _ (g1.trans g2) ab2 (en1.mono g2)
    | true =>
      rw [if_pos rfl]
      obtain ⟨r, M3, e3, e4⟩ := Rs.bd_inv e2
      refine ⟨fun σ' H' => ∃ F' m' ρ M, Gr H F m H' F' m' ∧ En X.K H' F' m' ρ σ' ∧ Ab X.K H' F' m' M ∧ whileL (evT C a) (exs C b) n ρ M = .ok f M', fun σ' H' h => ⟨n, Nat.lt_succ_self n, h⟩, F2, m2, ρ1, M2, r, M3, en1.mono g2, ab2, e3, ?_⟩
      have g0 := g1.trans g2
      cases r with
      | nx ρ5 => exact fun H5 F5 m5 σ5 g5 ab5 en5 => ⟨F5, m5, ρ5, M3, g0.trans g5, en5, ab5, e4⟩
      | ct ρ5 => exact fun H5 F5 m5 σ5 g5 ab5 en5 => ⟨F5, m5, ρ5, M3, g0.trans g5, en5, ab5, e4⟩
      | bk ρ5 => cases e4; exact fun H5 F5 m5 σ5 g5 ab5 en5 => w _ _ _ _ (g0.trans g5) ab5 en5
      | rt d => cases e4; exact Wish.mono g0 w
end
end PyI
/-! PyL: the check that an interpreter's term stands for a text; it is sound -/
namespace PyI
open PySem PySem.Spec L2
open PyProof.Rows hiding St

structure CX where
  N : List Str
  sc : Scope
  cel : Str → Bool
  fns : List (Str × Nat)
  gls : List (Str × Nat)
  bl : List Str
def visB (sc : Scope) (x : Str) : Bool := match sc.names.lookup x with
  | some .local => true
  | some .cell => true
  | some .free => true
  | _ => false
def gB (sc : Scope) (x : Str) : Bool := decide (sc.names.lookup x = some .globalImplicit)
def nmB (x : Str) : Bool := (x == ("__debug__" : Str)) == false && (x == ("__classdict__" : Str)) == false
def bB (cx : CX) (x : Str) : Bool := gB cx.sc x && decide (x ∈ cx.bl)
def ownN (cx : CX) (own : List Nat) : List (Str × Nat) := own.map fun i => ((cx.N[i]?).getD "", i)
theorem ownN_snd {cx : CX} {own : List Nat} : (ownN cx own).map (·.2) = own := by
  unfold ownN
  rw [List.map_map]
  exact List.map_id _
def CX.inner (cx : CX) (scope : Scope) : CX := { cx with sc := relS scope cx.sc, cel := fun x => scope.names.lookup x == some .cell }
def isBO : Expr → Bool
  | .BoolOp _ _ _ => true
  | _ => false
mutual
/-- t: as a test -/
def okX (cx : CX) (t : Bool) : E → Expr → Bool
  | .var i, e => (match e with
    | .Name x _ => decide (cx.N[i]? = some x) && visB cx.sc x && nmB x
    | _ => false)
  | .con d, e => (match d, e with
    | .int i, .Constant (.int j) _ _ => decide (i = j)
    | .str i, .Constant (.str j) _ _ => decide (i = j)
    | .bl i, .Constant (.bool j) _ _ => decide (i = j)
    | .non, .Constant .none _ _ => true
    | _, _ => false)
  | .glo g, e => (match e with
    | .Name x _ => gB cx.sc x && nmB x && decide (cx.gls.lookup x = some g)
    | _ => false)
  | .tup as, e => (match e with
    | .Tuple es _ _ => okXs cx as es && decide (as.len ≤ 1000)
    | _ => false)
  | .lst as, e => (match e with
    | .List es _ => okXs cx as es && decide (as.len ≤ 1000)
    | _ => false)
  | .dct _ _, _ => false
  | .bin o a b, e => (match e with
    | .BinOp x op y _ => decide (op = opOf o) && okX cx false a x && okX cx false b y
    | _ => false)
  | .neg a, e => (match e with
    | .UnaryOp .USub x _ => okX cx false a x
    | _ => false)
  | .cmp o a b, e => (match e with
    | .Compare x [op] [y] _ => decide (op = cmOf o) && ((isCm o && okX cx false a x && (match b, y with
        | .con .non, .Constant .none _ _ => true
        | _, _ => false)) || (plainCm o && okX cx false a x && okX cx false b y && !isSetD y))
    | _ => false)
  | .chain o o' a b c, e => (match e with
    | .Compare x [op, op'] [y, z] _ => decide (op = cmOf o) && decide (op' = cmOf o') && plainCm o && plainCm o' && okX cx false a x && okX cx false b y && okX cx false c z && !isSetD z
    | _ => false)
  | .and a b, e => (match e with
    | .BoolOp .And (x :: y :: r) p => okX cx t a x && (match r with
      | [] => okX cx t b y
      | z :: r => okX cx t b (.BoolOp .And (y :: z :: r) p))
    | _ => false)
  | .or a b, e => (match e with
    | .BoolOp .Or (x :: y :: r) p => okX cx t a x && (match r with
      | [] => okX cx t b y
      | z :: r => okX cx t b (.BoolOp .Or (y :: z :: r) p))
    | _ => false)
  | .not a, e => (match e with
    | .UnaryOp .Not x _ => okX cx t a x
    | _ => false)
  | .ife c a b, e => !t && (match e with
    | .IfExp x y z _ => okX cx true c x && okX cx false a y && okX cx false b z
    | _ => false)
  | .sub a b, e => (match e with
    | .Subscript x y _ => okX cx false a x && okX cx false b y && !isSlice y
    | _ => false)
  | .slc a l u, e => (match e with
    | .Subscript x (.Slice lo hi none _) _ => okX cx false a x && okO cx l lo && okO cx u hi
    | _ => false)
  | .call f as, e => (match e with
    | .Call (.Name x _) es [] _ => gB cx.sc x && nmB x && decide (cx.fns.lookup x = some f) && okXs cx as es
    | _ => false)
  | .prim p as, e => (match e with
    | .Call (.Name x _) es [] _ => bB cx x && ((match p, as, es with
      | .isi ty, .cons q .nil, [a, .Name y _] => decide (x = "isinstance") && bB cx y && decide (tyOf y = some ty) && okX cx false q a && !isStar a
      | .lrng1, .cons q .nil, [.Call (.Name y _) [a] [] _] => decide (x = "list") && decide (y = "range") && bB cx y && okX cx false q a && !isStar a
      | .trng1, .cons q .nil, [.Call (.Name y _) [a] [] _] => decide (x = "tuple") && decide (y = "range") && bB cx y && okX cx false q a && !isStar a
      | .lrng2, .cons q (.cons r .nil), [.Call (.Name y _) [a, b] [] _] => decide (x = "list") && decide (y = "range") && bB cx y && okX cx false q a && !isStar a && okX cx false r b && !isStar b
      | _, _, _ => false) || (decide (primOf x es.length = some p) && okXs cx as es))
    | _ => false)
  | .meth m o as, e => (match e with
    | .Call (.Attribute y x ap) es [] p => decide (mthOf x es.length = some m) && okX cx false o y && okXs cx as es && !isCall0 y && ap.endLine == p.line && decide (es.length < 30)
    | _ => false)
  | .comp own tg k its cs el, e => (match e with
    | .ListComp y [g] scope _ => decide (g.is_async = 0) && blkC cx.N cx.sc scope (ownN cx own) && okI cx k its g.iter && !isSetD g.iter && okTg (cx.inner scope) tg g.target && okIf (cx.inner scope) cs g.ifs && okX (cx.inner scope) false el y && tg.nms.all fun i => decide (i ∈ own)
    | _ => false)
  | .new a, e => !t && okX cx false a e
termination_by structural x => x
def okXs (cx : CX) : Es → List Expr → Bool
  | .nil, es => (match es with
    | [] => true
    | _ => false)
  | .cons a as, es => (match es with
    | e :: es => okX cx false a e && okXs cx as es && !isStar e
    | _ => false)
termination_by structural x => x
def okO (cx : CX) : Es → Option Expr → Bool
  | .nil, o => (match o with
    | none => true
    | _ => false)
  | .cons a as, o => (match as, o with
    | .nil, some e => okX cx false a e
    | _, _ => false)
termination_by structural x => x
def okIf (cx : CX) : Es → List Expr → Bool
  | .nil, es => (match es with
    | [] => true
    | _ => false)
  | .cons a as, es => (match as, es with
    | .nil, [e] => okX cx true a e
    | _, _ => false)
termination_by structural x => x
def okI (cx : CX) (k : ItK) : Es → Expr → Bool
  | .nil, _ => false
  | .cons a as, e => (match k, as, e with
    | .seq, .nil, e => okX cx false a e
    | .rng1, .nil, .Call (.Name x _) [y] [] _ => decide (x = "range") && bB cx x && okX cx false a y && !isStar y
    | .rng2, .cons b .nil, .Call (.Name x _) [y, z] [] _ => decide (x = "range") && bB cx x && okX cx false a y && !isStar y && okX cx false b z && !isStar z
    | _, _, _ => false)
termination_by structural x => x
def okTg (cx : CX) : T → Expr → Bool
  | .nm i, e => (match e with
    | .Name x _ => decide (cx.N[i]? = some x) && (decide (cx.sc.names.lookup x = some .local) || (decide (cx.sc.names.lookup x = some .cell) && cx.cel x))
    | _ => false)
  | .tp ts, e => (match e with
    | .Tuple es _ _ => okGs cx ts es && decide (ts.len = es.length)
    | _ => false)
  | .sb o i, e => (match e with
    | .Subscript a b _ => okX cx false o a && okX cx false i b && !isSlice b
    | _ => false)
termination_by structural x => x
def okGs (cx : CX) : Ts → List Expr → Bool
  | .nil, es => (match es with
    | [] => true
    | _ => false)
  | .cons a as, es => (match es with
    | e :: es => okTg cx a e && okGs cx as es && !isStar e
    | _ => false)
termination_by structural x => x
end
/-- a row of targets and its value: no names stored from the right -/
def stB (tg e : Expr) : Bool := match tg, e with
  | .Tuple ts _ _, .Tuple vs _ _ => parNone ts vs
  | tg, e => !isTupT tg || !isTupT e
def swNB (cx : CX) (tg e : Expr) : Bool := match tg, e with
  | .Name y py, .ListComp _ _ scope pos => !swB cx.sc scope y py pos
  | .Name _ _, _ => false
  | _, .ListComp _ _ _ _ => true
  | _, _ => false
def swLB (cx : CX) (tg e : Expr) : Bool := match tg, e with
  | .Name y py, .ListComp _ _ scope pos => swB cx.sc scope y py pos
  | _, _ => false
mutual
def okS (cx : CX) : S → Stmt → Bool
  | .exp a, st => (match st with
    | .Expr e _ => !isComp e && okX cx false a e
    | _ => false)
  | .pass, st => (match st with
    | .Pass _ => true
    | .Expr (.Constant (.str _) _ _) _ => true
    | _ => false)
  | .brk, st => (match st with
    | .Break _ => true
    | _ => false)
  | .cont, st => (match st with
    | .Continue _ => true
    | _ => false)
  | .retN, st => (match st with
    | .Return none _ => true
    | _ => false)
  | .ret a, st => (match st with
    | .Return (some e) _ => okX cx false a e
    | _ => false)
  | .iff a b c, st => (match st with
    | .If e p q _ => okX cx true a e && okSs cx b p && okSs cx c q
    | _ => false)
  | .forr t k its b, st => (match st with
    | .For tg it p [] _ => okTg cx t tg && okI cx k its it && !isSetD it && okSs cx b p
    | _ => false)
  | .whil a b, st => (match st with
    | .While e p [] _ => okX cx true a e && okSs cx b p
    | _ => false)
  | .asg t a, st => (match st with
    | .Assign [tg] e _ => okX cx false a e && okTg cx t tg && !isStar tg && stB tg e && (!isComp e || swNB cx tg e || (match a with
        | .comp _ _ _ _ _ _ => true
        | .new (.comp _ _ _ _ _ _) => true
        | _ => false) && swLB cx tg e)
    | _ => false)
  | .par is as, st => (match st with
    | .Assign [.Tuple [.Name x px, .Name y py] _ _] (.Tuple [a, b] _ _) _ => (match is with
      | [i, j] => decide (cx.N[i]? = some x) && decide (cx.N[j]? = some y) && parTwo cx.sc x y px py [a, b] && okXs cx as [a, b]
      | _ => false)
    | _ => false)
termination_by structural x => x
def okSs (cx : CX) : Ss → List Stmt → Bool
  | .nil, es => (match es with
    | [] => true
    | _ => false)
  | .cons a as, es => (match es with
    | e :: es => okS cx a e && okSs cx as es
    | _ => false)
termination_by structural x => x
end
end PyI
/-! PyM: the check is sound -/
namespace PyI
open PySem PySem.Spec L2
open PyProof.Rows hiding St

structure Fit (cx : CX) (C : Ctx) (X : Cx) : Prop where
  n : X.N = cx.N
  nd : X.N.Nodup
  sc : X.env.scope = cx.sc
  cel : ∀ x, cx.cel x = true → X.fn x = true
  calm : X.calm = true
  kind : X.env.scope.kind = .function
  pas : PassesOwn (model X.prog X.w) X.A X.env X.xe
  un : X.A.units + 64 < cLine
  bl : ∀ x ∈ cx.bl, X.mg x = none
  fns : ∀ x f, cx.fns.lookup x = some f → CallOk X C f x
  gls : ∀ x g, cx.gls.lookup x = some g → ∃ u v, X.mg x = some u ∧ RelV v u ∧ ∀ H F m, Rep X.K H F m (C.glob g) v
section
variable {cx : CX} {C : Ctx} {X : Cx}
theorem Fit.vis (F : Fit cx C X) {x : Str} (h : visB cx.sc x = true) : Vis X.env.scope x := by
  unfold visB at h
  rw [F.sc]
  split at h <;> first | exact .inl (by assumption) | exact .inr (.inl (by assumption)) | exact .inr (.inr (by assumption)) | cases h
theorem Fit.gl (F : Fit cx C X) {x : Str} (h : gB cx.sc x = true) : Gl X x := by
  unfold gB at h
  show X.env.scope.names.lookup x = _
  rw [F.sc]
  exact of_decide_eq_true h
theorem nmB_1 {x : Str} (h : nmB x = true) : (x == ("__debug__" : Str)) = false ∧ (x == ("__classdict__" : Str)) = false := by
  unfold nmB at h
  simpa using h
theorem Fit.blt (F : Fit cx C X) {x : Str} (h : bB cx x = true) : Gl X x ∧ X.mg x = none := by
  unfold bB at h
  rw [Bool.and_eq_true] at h
  exact ⟨F.gl h.1, F.bl x (of_decide_eq_true h.2)⟩
theorem Fit.blk (F : Fit cx C X) {scope : Scope} {own : List (Str × Nat)} (ok : BlkOk X.N X.env.scope scope own) (s : Shared) (H : Hp) (C' : Addr) (cl : List (Str × Addr)) (fp : List Addr) : Fit (cx.inner scope) C (X.blk s H scope (compEnvC scope cl C' X.env) fp) where
  n := F.n
  nd := F.nd
  sc := by
    show relabel scope X.env = relS scope cx.sc
    rw [← F.sc]
    rfl
  cel := fun x h => h
  calm := F.calm
  kind := ok.kind
  pas := PassesOwn.never
  un := F.un
  bl := F.bl
  fns := F.fns
  gls := F.gls
theorem xs_star {cx : CX} : ∀ {as : Es} {es : List Expr}, okXs cx as es = true → es.all (fun e => !isStar e) = true
  | .nil, es, h => by cases es <;> first | rfl | (simp [okXs] at h)
  | .cons a as, es, h => by
    cases es with
    | nil => rfl
    | cons e es =>
      simp only [okXs, Bool.and_eq_true] at h
      rw [List.all_cons, h.2, xs_star h.1.2] <;> rfl
theorem gs_star {cx : CX} : ∀ {as : Ts} {es : List Expr}, okGs cx as es = true → es.all (fun e => !isStar e) = true
  | .nil, es, h => by cases es <;> first | rfl | (simp [okGs] at h)
  | .cons a as, es, h => by
    cases es with
    | nil => rfl
    | cons e es =>
      simp only [okGs, Bool.and_eq_true] at h
      rw [List.all_cons, h.2, gs_star h.1.2] <;> rfl
/-- what the check of an expression gives -/
def Okx (C : Ctx) (X : Cx) (t : Bool) (p : E) (e : Expr) : Prop := match t with
  | false => PE X e (TEI X.K (ev C p))
  | true => PT X e (TTI X.K (evT C p)) ∧ (isBO e = true → PW X e (TTI X.K (evT C p)))
theorem Okx.both {t : Bool} {p : E} {e : Expr} (h : PE X e (TEI X.K (ev C p))) (hp : isPlainTest e = true) : Okx C X t p e := by
  cases t with
  | false => exact h
  | true => exact ⟨it_truth h hp, fun k => by cases e <;> first | (simp [isBO] at k; done) | (simp [isPlainTest] at hp)⟩
end
def Es.every (P : E → Prop) : Es → Prop
  | .nil => True
  | .cons a r => P a ∧ r.every P
mutual
theorem okX_snd {C : Ctx} : ∀ (p : E) {t : Bool} {cx : CX} {X : Cx} {e : Expr}, Fit cx C X → okX cx t p e = true → Okx C X t p e
  | .var i, t, cx, X, e, F, h => by
    unfold okX at h
    split at h
    · simp only [Bool.and_eq_true, decide_eq_true_eq] at h
      exact .both (ie_var (by rw [F.n]; exact h.1.1) (F.vis h.1.2) (nmB_1 h.2).1 (nmB_1 h.2).2) rfl
    · cases h
  | .con d, t, cx, X, e, F, h => by
    unfold okX at h
    split at h
    · have := of_decide_eq_true h; subst this; exact .both ie_int rfl
    · have := of_decide_eq_true h; subst this; exact .both ie_str rfl
    · have := of_decide_eq_true h; subst this; exact .both ie_bl rfl
    · exact .both ie_non rfl
    · cases h
  | .glo g, t, cx, X, e, F, h => by
    unfold okX at h
    split at h
    · simp only [Bool.and_eq_true, decide_eq_true_eq] at h
      obtain ⟨u, v, h1, h2, h3⟩ := F.gls _ _ h.2
      exact .both (ie_glo (F.gl h.1.1) h1 h2 h3 (nmB_1 h.1.2).1) rfl
    · cases h
  | .tup as, t, cx, X, e, F, h => by
    unfold okX at h
    split at h
    · simp only [Bool.and_eq_true, decide_eq_true_eq] at h
      exact .both (ie_tup (okXs_snd as F h.1) h.2) rfl
    · cases h
  | .lst as, t, cx, X, e, F, h => by
    unfold okX at h
    split at h
    · simp only [Bool.and_eq_true, decide_eq_true_eq] at h
      exact .both (ie_lst (okXs_snd as F h.1) h.2) rfl
    · cases h
  | .dct _ _, t, cx, X, e, F, h => by
    unfold okX at h
    cases h
  | .bin o a b, t, cx, X, e, F, h => by
    unfold okX at h
    split at h
    · simp only [Bool.and_eq_true, decide_eq_true_eq] at h
      obtain ⟨⟨h1, h2⟩, h3⟩ := h
      subst h1
      exact .both (ie_bin (okX_snd a (t := false) F h2) (okX_snd b (t := false) F h3)) rfl
    · cases h
  | .neg a, t, cx, X, e, F, h => by
    unfold okX at h
    split at h
    · exact .both (ie_neg (okX_snd a (t := false) F h)) rfl
    · cases h
  | .cmp o a b, t, cx, X, e, F, h => by
    unfold okX at h
    split at h
    · rw [Bool.and_eq_true, Bool.or_eq_true, decide_eq_true_eq] at h
      obtain ⟨h1, h⟩ := h
      subst h1
      rcases h with h | h
      · simp only [Bool.and_eq_true] at h
        obtain ⟨⟨h2, h3⟩, h4⟩ := h
        split at h4
        · cases t with
          | false => exact ie_is h2 (okX_snd a (t := false) F h3)
          | true => exact ⟨it_is h2 (okX_snd a (t := false) F h3), fun k => by simp [isBO] at k⟩
        · cases h4
      · simp only [Bool.and_eq_true, Bool.not_eq_true'] at h
        obtain ⟨⟨⟨h2, h3⟩, h4⟩, h5⟩ := h
        cases t with
        | false => exact ie_cmp F.un h2 (okX_snd a (t := false) F h3) (okX_snd b (t := false) F h4) h5
        | true => exact ⟨it_cmp F.un h2 (okX_snd a (t := false) F h3) (okX_snd b (t := false) F h4) h5, fun k => by simp [isBO] at k⟩
    · cases h
  | .chain o o' a b c, t, cx, X, e, F, h => by
    unfold okX at h
    split at h
    · simp only [Bool.and_eq_true, decide_eq_true_eq, Bool.not_eq_true'] at h
      obtain ⟨⟨⟨⟨⟨⟨⟨h1, h2⟩, h3⟩, h4⟩, h5⟩, h6⟩, h7⟩, h8⟩ := h
      subst h1 h2
      cases t with
      | false => exact ie_chain F.un h3 h4 (okX_snd a (t := false) F h5) (okX_snd b (t := false) F h6) (okX_snd c (t := false) F h7) h8
      | true => exact ⟨it_chain F.un h3 h4 (okX_snd a (t := false) F h5) (okX_snd b (t := false) F h6) (okX_snd c (t := false) F h7) h8, fun k => by simp [isBO] at k⟩
    · cases h
  | .and a b, t, cx, X, e, F, h => by
    unfold okX at h
    split at h
    · rename_i x y r pp
      rw [Bool.and_eq_true] at h
      obtain ⟨h1, h2⟩ := h
      have ha := okX_snd a F h1
      split at h2
      · have hb := okX_snd b F h2
        cases t with
        | false => exact ie_and ha (ie_one hb)
        | true =>
          have := it_and (pos := pp) ha.1 (it_and1 (pos := pp) hb.1)
          exact ⟨this.pt, fun _ => this⟩
      · have hb := okX_snd b F h2
        cases t with
        | false => exact ie_and ha hb
        | true =>
          have := it_and (pos := pp) ha.1 (hb.2 rfl)
          exact ⟨this.pt, fun _ => this⟩
    · cases h
  | .or a b, t, cx, X, e, F, h => by
    unfold okX at h
    split at h
    · rename_i x y r pp
      rw [Bool.and_eq_true] at h
      obtain ⟨h1, h2⟩ := h
      have ha := okX_snd a F h1
      split at h2
      · have hb := okX_snd b F h2
        cases t with
        | false => exact ie_or ha (ie_one hb)
        | true =>
          have := it_or (pos := pp) ha.1 (it_or1 (pos := pp) hb.1)
          exact ⟨this.pt, fun _ => this⟩
      · have hb := okX_snd b F h2
        cases t with
        | false => exact ie_or ha hb
        | true =>
          have := it_or (pos := pp) ha.1 (hb.2 rfl)
          exact ⟨this.pt, fun _ => this⟩
    · cases h
  | .not a, t, cx, X, e, F, h => by
    unfold okX at h
    split at h
    · have ha := okX_snd a F h
      cases t with
      | false => exact ie_not ha
      | true => exact ⟨it_not ha.1, fun k => by simp [isBO] at k⟩
    · cases h
  | .ife c a b, t, cx, X, e, F, h => by
    unfold okX at h
    rw [Bool.and_eq_true] at h
    obtain ⟨ht, h⟩ := h
    cases t with
    | true => cases ht
    | false =>
      split at h
      · simp only [Bool.and_eq_true] at h
        exact ie_ife (okX_snd c (t := true) F h.1.1).1 (okX_snd a (t := false) F h.1.2) (okX_snd b (t := false) F h.2)
      · cases h
  | .sub a b, t, cx, X, e, F, h => by
    unfold okX at h
    split at h
    · simp only [Bool.and_eq_true, Bool.not_eq_true'] at h
      exact .both (ie_sub (by have := F.un; omega) (okX_snd a (t := false) F h.1.1) (okX_snd b (t := false) F h.1.2) h.2) rfl
    · cases h
  | .slc a l u, t, cx, X, e, F, h => by
    unfold okX at h
    split at h
    · simp only [Bool.and_eq_true] at h
      exact .both (ie_slc (okX_snd a (t := false) F h.1.1) (okO_snd l F h.1.2) (okO_snd u F h.2)) rfl
    · cases h
  | .call f as, t, cx, X, e, F, h => by
    unfold okX at h
    split at h
    · rename_i x p2 es pos
      simp only [Bool.and_eq_true, decide_eq_true_eq] at h
      obtain ⟨⟨⟨h1, h2⟩, h3⟩, h4⟩ := h
      cases es with
      | nil =>
        cases as with
        | nil => exact .both (ie_call0 (F.fns _ _ h3) (F.gl h1) (nmB_1 h2).1) rfl
        | cons _ _ => simp [okXs] at h4
      | cons e es => exact .both (ie_call (F.fns _ _ h3) (F.gl h1) (okXs_snd as F h4) (xs_star h4) (nmB_1 h2).1) rfl
    · cases h
  | .prim p as, t, cx, X, e, F, h => by
    unfold okX at h
    split at h
    · rename_i x p2 es pos
      rw [Bool.and_eq_true, Bool.or_eq_true] at h
      obtain ⟨h0, h⟩ := h
      obtain ⟨g0, m0⟩ := F.blt h0
      have all := okAll_snd (C := C) as
      have pas := fun h => okXs_snd (C := C) as (e := es) F h
      clear okX_snd okXs_snd okO_snd okI_snd okIf_snd okTg_snd okGs_snd okAll_snd
      rcases h with h | h
      · split at h
        · rename_i ty q a y p3
          simp only [Bool.and_eq_true, decide_eq_true_eq, Bool.not_eq_true'] at h
          obtain ⟨⟨⟨⟨h1, h2⟩, h3⟩, h4⟩, h5⟩ := h
          subst h1
          obtain ⟨g1, m1⟩ := F.blt h2
          exact .both (ie_isi h3 g0 m0 g1 m1 (all.1 F h4) h5) rfl
        · rename_i q y p3 a p4
          simp only [Bool.and_eq_true, decide_eq_true_eq, Bool.not_eq_true'] at h
          obtain ⟨⟨⟨⟨h1, h2⟩, h3⟩, h4⟩, h5⟩ := h
          subst h1 h2
          obtain ⟨g1, m1⟩ := F.blt h3
          exact .both (ie_lrng1 F.calm g0 m0 g1 m1 (all.1 F h4) h5) rfl
        · rename_i q y p3 a p4
          simp only [Bool.and_eq_true, decide_eq_true_eq, Bool.not_eq_true'] at h
          obtain ⟨⟨⟨⟨h1, h2⟩, h3⟩, h4⟩, h5⟩ := h
          subst h1 h2
          obtain ⟨g1, m1⟩ := F.blt h3
          exact .both (ie_trng1 F.calm g0 m0 g1 m1 (all.1 F h4) h5) rfl
        · rename_i q r y p3 a b p4
          simp only [Bool.and_eq_true, decide_eq_true_eq, Bool.not_eq_true'] at h
          obtain ⟨⟨⟨⟨⟨⟨h1, h2⟩, h3⟩, h4⟩, h5⟩, h6⟩, h7⟩ := h
          subst h1 h2
          obtain ⟨g1, m1⟩ := F.blt h3
          exact .both (ie_lrng2 F.calm g0 m0 g1 m1 (all.1 F h4) (all.2.1 F h6) h5 h7) rfl
        · cases h
      · rw [Bool.and_eq_true, decide_eq_true_eq] at h
        cases es with
        | nil => exact absurd h.1 (by simp [primOf])
        | cons e es => exact .both (ie_prim F.calm h.1 g0 m0 (pas h.2) (xs_star h.2)) rfl
    · cases h
  | .meth m o as, t, cx, X, e, F, h => by
    unfold okX at h
    split at h
    · rename_i y x ap es pos
      simp only [Bool.and_eq_true, decide_eq_true_eq, Bool.not_eq_true'] at h
      obtain ⟨⟨⟨⟨⟨h1, h2⟩, h3⟩, h4⟩, h5⟩, h6⟩ := h
      have ma := mth_alt (X := X) (by have := F.un; omega) h1
      cases es with
      | nil =>
        cases as with
        | nil => exact .both (ie_meth0 ma (okX_snd o (t := false) F h2) h4 h5) rfl
        | cons _ _ => simp [okXs] at h3
      | cons e es => exact .both (ie_meth ma (okX_snd o (t := false) F h2) (okXs_snd as F h3) (xs_star h3) h4 h5 h6) rfl
    · cases h
  | .comp own tg k its cs el, t, cx, X, e, F, h => by
    unfold okX at h
    split at h
    · rename_i y g scope pos
      simp only [Bool.and_eq_true, decide_eq_true_eq, Bool.not_eq_true', List.all_eq_true] at h
      obtain ⟨⟨⟨⟨⟨⟨⟨h1, h2⟩, h3⟩, h4⟩, h5⟩, h6⟩, h7⟩, h8⟩ := h
      obtain ⟨gt, gi, gf, ga⟩ := g
      cases h1
      have ok : BlkOk X.N X.env.scope scope (ownN cx own) := by rw [F.n, F.sc]; exact blkOk_by h2
      have := ie_comp (pos := pos) (own := ownN cx own) F.calm F.nd (okI_snd its F h3) ok (fun s H C' cl fp => okTg_snd tg (F.blk ok s H C' cl fp) h5) (fun s H C' cl fp => okIf_snd cs (F.blk ok s H C' cl fp) h6)
        (fun s H C' cl fp => okX_snd el (t := false) (F.blk ok s H C' cl fp) h7) h4 (by rw [ownN_snd]; exact h8)
      rw [ownN_snd] at this
      exact .both this rfl
    · cases h
  | .new a, t, cx, X, e, F, h => by
    unfold okX at h
    rw [Bool.and_eq_true] at h
    cases t with
    | true => cases h.1
    | false => exact ie_new (okX_snd a (t := false) F h.2)
termination_by structural x => x
theorem okXs_snd {C : Ctx} : ∀ (p : Es) {cx : CX} {X : Cx} {e : List Expr}, Fit cx C X → okXs cx p e = true → PA X e (TAI X.K (evs C p))
  | .nil, cx, X, e, F, h => by
    unfold okXs at h
    split at h
    · exact ia_nil
    · cases h
  | .cons a as, cx, X, e, F, h => by
    unfold okXs at h
    split at h
    · simp only [Bool.and_eq_true, Bool.not_eq_true'] at h
      exact ia_cons (okX_snd a (t := false) F h.1.1) (okXs_snd as F h.1.2) h.2
    · cases h
termination_by structural x => x
theorem okO_snd {C : Ctx} : ∀ (p : Es) {cx : CX} {X : Cx} {e : Option Expr}, Fit cx C X → okO cx p e = true → PO X e (TOI X.K (evs C p))
  | .nil, cx, X, e, F, h => by
    unfold okO at h
    split at h
    · exact io_none
    · cases h
  | .cons a as, cx, X, e, F, h => by
    unfold okO at h
    split at h
    · exact io_some (okX_snd a (t := false) F h)
    · cases h
termination_by structural x => x
theorem okIf_snd {C : Ctx} : ∀ (p : Es) {cx : CX} {X : Cx} {e : List Expr}, Fit cx C X → okIf cx p e = true → PTs X e (TTI X.K (evTs C p))
  | .nil, cx, X, e, F, h => by
    unfold okIf at h
    split at h
    · exact its_nil
    · cases h
  | .cons a as, cx, X, e, F, h => by
    unfold okIf at h
    split at h
    · exact its_one (okX_snd a (t := true) F h).1
    · cases h
termination_by structural x => x
theorem okAll_snd {C : Ctx} : ∀ (p : Es), p.every fun q => ∀ {cx : CX} {X : Cx} {e : Expr}, Fit cx C X → okX cx false q e = true → PE X e (TEI X.K (ev C q))
  | .nil => trivial
  | .cons a as => ⟨fun F h => okX_snd a (t := false) F h, okAll_snd as⟩
termination_by structural x => x
theorem okI_snd {C : Ctx} : ∀ (p : Es) {k : ItK} {cx : CX} {X : Cx} {tg e : Expr}, Fit cx C X → okI cx k p e = true → PI X tg e (TII X.K (itSem C k p))
  | .nil, k, cx, X, tg, e, F, h => by
    unfold okI at h
    cases h
  | .cons a as, k, cx, X, tg, e, F, h => by
    unfold okI at h
    have all := okAll_snd (C := C) as
    have one : ∀ {cx : CX} {X : Cx} {e : Expr}, Fit cx C X → okX cx false a e = true → PE X e (TEI X.K (ev C a)) := fun F h => okX_snd a (t := false) F h
    clear okX_snd okXs_snd okO_snd okI_snd okIf_snd okTg_snd okGs_snd okAll_snd
    split at h
    · exact ii_seq (one F h)
    · simp only [Bool.and_eq_true, decide_eq_true_eq, Bool.not_eq_true'] at h
      obtain ⟨⟨⟨h1, h2⟩, h3⟩, h4⟩ := h
      subst h1
      obtain ⟨g1, m1⟩ := F.blt h2
      exact ii_rng1 g1 m1 (one F h3) h4
    · rename_i b x p3 y z p4
      simp only [Bool.and_eq_true, decide_eq_true_eq, Bool.not_eq_true'] at h
      obtain ⟨⟨⟨⟨⟨h1, h2⟩, h3⟩, h4⟩, h5⟩, h6⟩ := h
      subst h1
      obtain ⟨g1, m1⟩ := F.blt h2
      exact ii_rng2 g1 m1 (one F h3) (all.1 F h5) h4 h6
    · cases h
termination_by structural x => x
theorem okTg_snd {C : Ctx} : ∀ (p : T) {cx : CX} {X : Cx} {e : Expr}, Fit cx C X → okTg cx p e = true → PG X e (TGI X.K p.nms (asgT C p))
  | .nm i, cx, X, e, F, h => by
    unfold okTg at h
    split at h
    · simp only [Bool.and_eq_true, Bool.or_eq_true, decide_eq_true_eq] at h
      have hi := h.1
      rw [← F.n] at hi
      rcases h.2 with k | k
      · rw [← F.sc] at k
        exact ig_name F.nd hi (.inl k) (.inr k)
      · rw [← F.sc] at k
        exact ig_name F.nd hi (.inr k.1) (.inl (F.cel _ k.2))
    · cases h
  | .tp ts, cx, X, e, F, h => by
    unfold okTg at h
    split at h
    · simp only [Bool.and_eq_true, decide_eq_true_eq] at h
      exact ig_tup F.calm (okGs_snd ts F h.1) h.2 (gs_star h.1)
    · cases h
  | .sb o i, cx, X, e, F, h => by
    unfold okTg at h
    split at h
    · simp only [Bool.and_eq_true, Bool.not_eq_true'] at h
      exact ig_sub (by have := F.un; omega) (okX_snd o (t := false) F h.1.1) (okX_snd i (t := false) F h.1.2) h.2
    · cases h
termination_by structural x => x
theorem okGs_snd {C : Ctx} : ∀ (p : Ts) {cx : CX} {X : Cx} {e : List Expr}, Fit cx C X → okGs cx p e = true → PGs X e (TGIs X.K p.nms (asgTs C p))
  | .nil, cx, X, e, F, h => by
    unfold okGs at h
    split at h
    · exact igs_nil
    · cases h
  | .cons a as, cx, X, e, F, h => by
    unfold okGs at h
    split at h
    · simp only [Bool.and_eq_true, Bool.not_eq_true'] at h
      exact igs_cons (okTg_snd a F h.1.1) (okGs_snd as F h.1.2) h.2
    · cases h
termination_by structural x => x
end
end PyI
/-! PyN: the check of statements is sound; defs -/
namespace PyI
open PySem PySem.Spec L2
open PyProof.Rows hiding St

theorem stB_snd {tg e : Expr} {env : PySem.Env} (h : stB tg e = true) : swappedStores [tg] e env = pure none := by
  unfold stB at h
  split at h
  · exact st_none3 h
  · simp only [Bool.or_eq_true, Bool.not_eq_true'] at h
    rcases h with h | h
    · exact st_none1 h
    · exact st_none2 h
theorem comp_snd {C : Ctx} {own : List Nat} {tg : T} {k : ItK} {its cs : Es} {el : E} {a : E} {cx : CX} {X : Cx} {y : Expr} {i : Nat} {py spos pos : Pos} {g : Comprehension} {scope : Scope} {nm : Str} (F : Fit cx C X) (h : okX cx false (.comp own tg k its cs el) (.ListComp y [g] scope pos) = true)
    (hg : okTg cx (.nm i) (.Name nm py) = true) (hs : swB cx.sc scope nm py pos = true) (ha : a = .comp own tg k its cs el ∨ a = .new (.comp own tg k its cs el)) : PS X (.Assign [.Name nm py] (.ListComp y [g] scope pos) spos) (TSI X.K (ex C (.asg (.nm i) a))) := by
  unfold okX at h
  simp only [Bool.and_eq_true, decide_eq_true_eq, Bool.not_eq_true', List.all_eq_true] at h
  obtain ⟨⟨⟨⟨⟨⟨⟨h1, h2⟩, h3⟩, h4⟩, h5⟩, h6⟩, h7⟩, h8⟩ := h
  obtain ⟨gt, gi, gf, ga⟩ := g
  cases h1
  have ok : BlkOk X.N X.env.scope scope (ownN cx own) := by rw [F.n, F.sc]; exact blkOk_by h2
  unfold okTg at hg
  simp only [Bool.and_eq_true, decide_eq_true_eq] at hg
  have hi := hg.1
  rw [← F.n] at hi
  have hsw := hs
  unfold swB at hs
  simp only [Bool.and_eq_true, beq_iff_eq] at hs
  have hl : X.env.scope.names.lookup nm = some .local := by rw [F.sc]; exact hs.1.1
  refine is_asgLc (pos := pos) (own := ownN cx own) F.calm F.nd hi hl (by rw [sw_comp F.kind, F.sc, hsw]) (okI_snd its F h3) ok (fun s H C' cl fp => okTg_snd tg (F.blk ok s H C' cl fp) h5) (fun s H C' cl fp => okIf_snd cs (F.blk ok s H C' cl fp) h6)
        (fun s H C' cl fp => okX_snd el (t := false) (F.blk ok s H C' cl fp) h7) h4 (by rw [ownN_snd]; exact h8) (by rw [ownN_snd]; exact ha)
theorem asg_snd {C : Ctx} {t : T} {a : E} {cx : CX} {X : Cx} {tg e : Expr} {pos : Pos} (F : Fit cx C X) (h : (okX cx false a e && okTg cx t tg && !isStar tg && stB tg e && (!isComp e || swNB cx tg e || (match a with
        | .comp _ _ _ _ _ _ => true
        | .new (.comp _ _ _ _ _ _) => true
        | _ => false) && swLB cx tg e)) = true) : PS X (.Assign [tg] e pos) (TSI X.K (ex C (.asg t a))) := by
  simp only [Bool.and_eq_true, Bool.or_eq_true, Bool.not_eq_true'] at h
  obtain ⟨⟨⟨⟨h1, h2⟩, h3⟩, h4⟩, h5⟩ := h
  rcases h5 with (h5 | h5) | ⟨h5, h6⟩
  rotate_left
  · refine is_asg (okX_snd a (t := false) F h1) (okTg_snd t F h2) ?_ (stB_snd h4) h3
    unfold swNB at h5
    split at h5
    · rw [sw_comp F.kind, F.sc]
      simp only [Bool.not_eq_true'] at h5
      rw [h5]
    · cases h5
    · rename_i hn
      cases tg <;> first | rfl | exact absurd rfl (hn _ _)
    · cases h5
  rotate_left
  · exact is_asg (okX_snd a (t := false) F h1) (okTg_snd t F h2) (sw_false h5) (stB_snd h4) h3
  · unfold swLB at h6
    split at h6
    · rename_i y py elt gs scope p2
      cases t with
      | nm i =>
        split at h5
        · rename_i own tg k its cs el
          cases gs with
          | nil => simp [okX] at h1
          | cons g gs =>
            cases gs with
            | nil => exact comp_snd F h1 h2 h6 (.inl rfl)
            | cons _ _ => simp [okX] at h1
        · rename_i own tg k its cs el
          have h1' : okX cx false (.comp own tg k its cs el) (.ListComp elt gs scope p2) = true := by
            unfold okX at h1
            rw [Bool.and_eq_true] at h1
            exact h1.2
          cases gs with
          | nil => simp [okX] at h1'
          | cons g gs =>
            cases gs with
            | nil => exact comp_snd F h1' h2 h6 (.inr rfl)
            | cons _ _ => simp [okX] at h1'
        · cases h5
      | tp _ => simp [okTg] at h2
      | sb _ _ => simp [okTg] at h2
    · cases h6
mutual
theorem okS_snd {C : Ctx} : ∀ (p : S) {cx : CX} {X : Cx} {st : Stmt}, Fit cx C X → okS cx p st = true → PS X st (TSI X.K (ex C p))
  | .exp a, cx, X, st, F, h => by
    unfold okS at h
    split at h
    · simp only [Bool.and_eq_true, Bool.not_eq_true'] at h
      exact is_exp (okX_snd a (t := false) F h.2) h.1
    · cases h
  | .pass, cx, X, st, F, h => by
    unfold okS at h
    split at h
    · exact is_pass
    · exact is_doc
    · cases h
  | .brk, cx, X, st, F, h => by
    unfold okS at h
    split at h
    · exact is_brk
    · cases h
  | .cont, cx, X, st, F, h => by
    unfold okS at h
    split at h
    · exact is_cont
    · cases h
  | .retN, cx, X, st, F, h => by
    unfold okS at h
    split at h
    · exact is_retN
    · cases h
  | .ret a, cx, X, st, F, h => by
    unfold okS at h
    split at h
    · exact is_ret (okX_snd a (t := false) F h)
    · cases h
  | .iff a b c, cx, X, st, F, h => by
    unfold okS at h
    split at h
    · simp only [Bool.and_eq_true] at h
      exact is_if (okX_snd a (t := true) F h.1.1).1 (okSs_snd b F h.1.2) (okSs_snd c F h.2)
    · cases h
  | .forr t k its b, cx, X, st, F, h => by
    unfold okS at h
    split at h
    · simp only [Bool.and_eq_true, Bool.not_eq_true'] at h
      exact is_for F.pas F.calm (okI_snd its F h.1.1.2) (okTg_snd t F h.1.1.1) (okSs_snd b F h.2) h.1.2
    · cases h
  | .whil a b, cx, X, st, F, h => by
    unfold okS at h
    split at h
    · simp only [Bool.and_eq_true] at h
      exact is_while F.pas (okX_snd a (t := true) F h.1).1 (okSs_snd b F h.2)
    · cases h
  | .asg t a, cx, X, st, F, h => by
    unfold okS at h
    split at h
    · exact asg_snd F h
    · cases h
  | .par is as, cx, X, st, F, h => by
    unfold okS at h
    split at h
    · split at h
      · simp only [Bool.and_eq_true, decide_eq_true_eq] at h
        obtain ⟨⟨⟨h1, h2⟩, h3⟩, h4⟩ := h
        exact is_par2 F.calm F.kind F.nd (by rw [F.n]; exact h1) (by rw [F.n]; exact h2) (by rw [F.sc]; exact h3) (okXs_snd as F h4)
      · cases h
    · cases h
termination_by structural x => x
theorem okSs_snd {C : Ctx} : ∀ (p : Ss) {cx : CX} {X : Cx} {st : List Stmt}, Fit cx C X → okSs cx p st = true → PSs X st (TSI X.K (exs C p))
  | .nil, cx, X, st, F, h => by
    unfold okSs at h
    split at h
    · exact is_nil
    · cases h
  | .cons a as, cx, X, st, F, h => by
    unfold okSs at h
    split at h
    · rw [Bool.and_eq_true] at h
      exact is_cons (okS_snd a F h.1) (okSs_snd as F h.2)
    · cases h
termination_by structural x => x
end
end PyI
/-! PyO: defs keep what the interpreter says of them -/
namespace PyI
open PySem PySem.Spec L2
open PyProof.Rows hiding St

section
variable {K : PySem.W.Frag} {H H' : Hp} {F F' : Fz} {m m' : List Addr} {M M' M2 : Store}
mutual
theorem Rep.scp {L : Nat} (hL : m.length ≤ L) : ∀ (d : D) (v : V), Rep K H F m d v → d.scp L = true
  | .non, _, .non => rfl
  | .bl _, _, .bl _ => rfl
  | .int _, _, .int _ => rfl
  | .str _, _, .str _ => rfl
  | .tup xs, _, .tup h r => Reps.scp hL xs _ r
  | .lst xs, _, .lst f h r => Reps.scp hL xs _ r
  | .dct _ xs, _, .dct f h l r => Reps.scp hL xs _ r
  | .ref n, _, .ref h => decide_eq_true (Nat.lt_of_lt_of_le (List.getElem?_eq_some_iff.mp h).1 hL)
  | .scr _, _, .scr h => rfl
theorem Reps.scp {L : Nat} (hL : m.length ≤ L) : ∀ (ds : List D) (vs : List V), Reps K H F m ds vs → D.scps L ds = true
  | [], _, .nil => rfl
  | x :: xs, _, .cons h r => by
    simp only [D.scps, Bool.and_eq_true]
    exact ⟨Rep.scp hL x _ h, Reps.scp hL xs _ r⟩
end
theorem Own.scp {a : Addr} {d : D} {L : Nat} (hL : m.length ≤ L) (h : Own K H F m a d) : d.scp L = true := by
  cases d with
  | lst xs => obtain ⟨vs, h1, h2⟩ := h; exact Reps.scp hL _ _ h2
  | dct ks xs => obtain ⟨vs, h1, h2, h3⟩ := h; exact Reps.scp hL _ _ h3
  | _ => exact h.elim
theorem sameB_len {L : Nat} : ∀ {as bs : Store}, sameB L as bs = true → as.length ≤ bs.length
  | [], _, _ => Nat.zero_le _
  | _ :: _, [], h => by simp [sameB] at h
  | a :: as, b :: bs, h => by
    simp only [sameB, Bool.and_eq_true] at h
    exact Nat.succ_le_succ (sameB_len h.2)
theorem sameB_at {L : Nat} : ∀ {as bs : Store} {n : Nat} {b : D}, sameB L as bs = true → bs[n]? = some b → n < as.length → as[n]? = some b ∨ b.scp L = true
  | [], _, _, _, _, _, hn => by simp at hn
  | _ :: _, [], _, _, h, _, _ => by simp [sameB] at h
  | a :: as, c :: bs, 0, b, h, e, _ => by
    simp only [sameB, Bool.and_eq_true, Bool.or_eq_true, decide_eq_true_eq] at h
    simp only [List.getElem?_cons_zero, Option.some.injEq] at e
    subst e
    rcases h.1 with h | h
    · left; rw [h]; rfl
    · exact .inr h
  | a :: as, c :: bs, n + 1, b, h, e, hn => by
    simp only [sameB, Bool.and_eq_true] at h
    simp only [List.getElem?_cons_succ] at e ⊢
    exact sameB_at h.2 e (by simpa using hn)
theorem exit_ok {d r : FV} {v : V} (A : Ab K H F m M) (g : Gr H F m H' F' m') (A' : Ab K H' F' m' M2) (rf : RepF K H' F' m' d v) (e : exitC M d M2 = .ok r M') : ∃ m2, Gr H F m H' F' m2 ∧ Ab K H' F' m2 M' ∧ RepF K H' F' m2 r v := by
  unfold exitC at e
  simp only [] at e
  split at e
  · rename_i hb
    cases e
    rw [Bool.and_eq_true] at hb
    obtain ⟨h1, h2⟩ := hb
    obtain ⟨q, hq⟩ := g.pre
    have ht : m'.take M.length = m := by rw [hq, ← A.len, List.take_left]
    have hle := sameB_len h2
    have g2 : Gr H F m H' F' m := ⟨⟨[], by simp⟩, g.fs, g.tup, g.frz, g.fro⟩
    have A2 : Ab K H' F' m (M2.take M.length) := by
      refine ⟨by rw [List.length_take, A.len]; omega, A.nd, fun a ha => A'.dj a (by rw [hq]; exact List.mem_append_left _ ha), A'.live, fun n a u e1 e2 => ?_⟩
      have hn : n < M.length := by rw [← A.len]; exact (List.getElem?_eq_some_iff.mp e1).1
      rw [List.getElem?_take_of_lt hn] at e2
      have o := A'.obj n a u (g.at e1) e2
      have hs : u.scp M.length = true := by
        rcases sameB_at h2 e2 hn with h | h
        · exact (A.obj n a u e1 h).scp (by rw [A.len]; exact Nat.le_refl _)
        · exact h
      have := Own.take hs o
      rw [ht] at this
      exact this
    refine ⟨m, g2, A2, ?_⟩
    unfold FV.thaw at h1 ⊢
    split at h1
    · rename_i n
      split at h1
      · rename_i hl
        have hl := of_decide_eq_true hl
        cases rf with
        | v rf =>
          cases rf with
          | ref hn =>
            obtain ⟨u, k1, k2⟩ := A'.at hn
            rw [k1] at h1 ⊢
            simp only [] at h1 ⊢
            have o := Own.take h1 k2
            rw [ht] at o
            refine .f (A'.dj _ (List.mem_of_getElem? hn)) (fun hm => ?_) o
            obtain ⟨i, hi⟩ := List.mem_iff_getElem?.mp hm
            have := getElem?_inj A'.nd hn (g.at hi)
            have hi' := (List.getElem?_eq_some_iff.mp hi).1
            rw [A.len] at hi'
            omega
      · rename_i hl
        cases rf with
        | v rf =>
          have := Rep.take _ _ h1 rf
          rw [ht] at this
          exact .v this
    · rename_i x hx
      cases rf with
      | v rf =>
        rename_i d0
        have h1' : d0.scp M.length = true := h1
        have := Rep.take _ _ h1' rf
        rw [ht] at this
        cases d0 <;> first | exact .v this | exact (hx _ rfl).elim
      | f k1 k2 k3 =>
        have o := Own.take h1 k3
        rw [ht] at o
        exact .f k1 (fun hm => k2 (by rw [hq]; exact List.mem_append_left _ hm)) o
  · cases e
    exact ⟨m', g, A', rf⟩
end

theorem En.start {K : PySem.W.Frag} {H : Hp} {F : Fz} {m : List Addr} {ds : List D} {vs : List V} {N : List Str} {ns : Nat} (h : Reps K H F m ds vs) (hn : ns = N.length - vs.length) : En K H F m (ds.map some ++ List.replicate ns none) (L2.start N vs) := by
  unfold L2.start
  refine ⟨by simp [h.length, hn], fun i d e => ?_⟩
  by_cases hi : i < ds.length
  · rw [List.getElem?_append_left (by simpa using hi), List.getElem?_map] at e
    cases q : ds[i]? with
    | none => rw [q] at e; cases e
    | some d' =>
      rw [q] at e; cases e
      obtain ⟨v, h1, h2⟩ := h.get q
      refine ⟨v, ?_, h2⟩
      rw [List.getElem?_append_left (by simpa [← h.length] using hi), List.getElem?_map, h1] <;> rfl
  · rw [List.getElem?_append_right (by simpa using hi), List.getElem?_replicate] at e
    split at e <;> cases e

/-- a def's promise by the interpreter -/
def spF (K : PySem.W.Frag) (fs : List Fn) (gl : Nat → D) (k f : Nat) : Sp := fun vs H Q _ => rN K (callF fs gl k f) vs H Q
/-- a module: its defs, its data, the built-in names that it leaves alone -/
structure Md (P : Program) (w : World) (K : PySem.W.Frag) (mg : Str → Option Value) (base : Heap) (fns gls : List (Str × Nat)) (bl : List Str) (fs : List Fn) (gl : Nat → D) : Prop where
  df : ∀ x f, fns.lookup x = some f → ∃ (a : Addr) (fd : FuncData) (params : Arguments) (body : List Stmt) (scope : Scope) (N ps : List Str) (fn : Fn), FunD K x x params body scope [] [] a fd ∧ FnScope N ps scope ∧ fs[f]? = some fn ∧ fn.np = ps.length ∧ fn.ns = N.length ∧
    okSs ⟨N, scope, fun _ => true, fns, gls, bl⟩ fn.body body = true ∧ mg x = some (.ref a) ∧ Binds K fd ps []
  bl : ∀ x ∈ bl, mg x = none
  gls : ∀ x g, gls.lookup x = some g → ∃ u v, mg x = some u ∧ RelV v u ∧ ∀ H F m, Rep K H F m (gl g) v
section
variable {P : Program} {w : World} {K : PySem.W.Frag} {mg : Str → Option Value} {base : Heap} {fns gls : List (Str × Nat)} {bl : List Str} {fs : List Fn} {gl : Nat → D}
theorem fn_body (Mo : Md P w K mg base fns gls bl fs gl) {k : Nat} (ih : ∀ x f, fns.lookup x = some f → ∃ (a : Addr) (fd : FuncData) (ps : List Str), FnOk P w K mg base CX0 k a fd ps (spF K fs gl k f) ∧ mg x = some (.ref a) ∧ PySem.W.keepIn K (.ref a) = true ∧ Binds K fd ps [])
    {x : Str} {f : Nat} {a : Addr} {fd : FuncData} {params : Arguments} {body : List Stmt} {scope : Scope} {N ps : List Str} {fn : Fn} (h1 : FunD K x x params body scope [] [] a fd) (h2 : FnScope N ps scope) (h3 : fs[f]? = some fn) (h4 : fn.np = ps.length) (h5 : fn.ns = N.length)
    (h6 : okSs ⟨N, scope, fun _ => true, fns, gls, bl⟩ fn.body body = true) : FnOk P w K mg base CX0 (k + 1) a fd ps (spF K fs gl (k + 1) f) := by
  have len : ∀ vs H Q E, spF K fs gl (k + 1) f vs H Q E → vs.length = ps.length := by
    rintro vs H Q E ⟨F, m, M, ds, r, M', A, rr, e, w⟩
    rw [callF, h3] at e
    obtain ⟨hl, _⟩ := guardR_ok e
    have hl := of_decide_eq_true hl
    rw [← rr.length, hl, h4]
  refine FunD.ok h1 h2 len fun cdv A outer s H vs Q E hr hsp => ?_
  have hlen := len _ _ _ _ hsp
  obtain ⟨F, m, M, ds, r, M', ab, rr, e, wq⟩ := hsp
  rw [callF, h3] at e
  obtain ⟨_, e⟩ := guardR_ok e
  let X : Cx := (cxOf CX0 P w K mg base N x scope a cdv A outer s H E).nox
  have fit : Fit ⟨N, scope, fun _ => true, fns, gls, bl⟩ ⟨callF fs gl k, gl⟩ X :=
    { n := rfl, nd := h2.nd, sc := rfl, cel := fun _ _ => rfl, calm := rfl, kind := h2.kind, pas := PassesOwn.never, un := hr.units, bl := Mo.bl,
      fns := fun y g hy => by
        obtain ⟨a', fd', ps', k1, k2, k3, k4⟩ := ih y g hy
        exact ⟨k, a', fd', ps', _, k1, hr, k2, k3, k4, fun vs H Q h => h⟩
      gls := Mo.gls }
  have body_ok := okSs_snd fn.body fit h6
  refine ⟨_, PSs.nox body_ok, ?_⟩
  have en := En.start (N := N) (ns := fn.ns - fn.np) rr (by rw [h5, h4, hlen])
  split at e
  · rename_i d M2 he
    refine ⟨F, m, _, M, _, M2, en, ab, he, fun H' F' m' v g ab' rf => ?_⟩
    obtain ⟨m2, g2, ab2, rf2⟩ := exit_ok ab g ab' rf e
    exact wq _ _ _ _ g2 ab2 rf2
  · rename_i ρ M2 he
    refine ⟨F, m, _, M, _, M2, en, ab, he, fun H' F' m' σ g ab' _ => ?_⟩
    obtain ⟨m2, g2, ab2, rf2⟩ := exit_ok ab g ab' (.v .non) e
    exact wq _ _ _ _ g2 ab2 rf2
  · cases e
theorem all_ok (Mo : Md P w K mg base fns gls bl fs gl) : ∀ (k : Nat) (x : Str) (f : Nat), fns.lookup x = some f → ∃ (a : Addr) (fd : FuncData) (ps : List Str), FnOk P w K mg base CX0 k a fd ps (spF K fs gl k f) ∧ mg x = some (.ref a) ∧ PySem.W.keepIn K (.ref a) = true ∧ Binds K fd ps []
  | 0, x, f, h => by
    obtain ⟨a, fd, params, body, scope, N, ps, fn, h1, h2, h3, h4, h5, h6, h7, h8⟩ := Mo.df x f h
    refine ⟨a, fd, ps, ⟨?_, ?_⟩, h7, h1.kp, h8⟩
    · rintro vs H Q E ⟨F, m, M, ds, r, M', A, rr, e, w⟩
      simp only [callF] at e; cases e
    · rintro A outer s H args us vs Q E _ _ _ _ ⟨F, m, M, ds, r, M', ab, rr, e, w⟩
      simp only [callF] at e; cases e
  | k + 1, x, f, h => by
    obtain ⟨a, fd, params, body, scope, N, ps, fn, h1, h2, h3, h4, h5, h6, h7, h8⟩ := Mo.df x f h
    exact ⟨a, fd, ps, fn_body Mo (all_ok Mo k) h1 h2 h3 h4 h5 h6, h7, h1.kp, h8⟩
/-- the def that is called first: its body's reading -/
theorem law_ok (Mo : Md P w K mg base fns gls bl fs gl) {k : Nat} {x : Str} {a : Addr} {fd : FuncData} {params : Arguments} {body : List Stmt} {scope : Scope} {N ps : List Str} {fn : Fn} {f : Nat} (h1 : FunD K x x params body scope [] [] a fd) (h2 : FnScope N ps scope) (h3 : fs[f]? = some fn) (h4 : fn.np = ps.length) (h5 : fn.ns = N.length)
    (h6 : okSs ⟨N, scope, fun _ => true, fns, gls, bl⟩ fn.body body = true) : FnOk P w K mg base CX0 (k + 1) a fd ps (spF K fs gl (k + 1) f) := fn_body Mo (all_ok Mo k) h1 h2 h3 h4 h5 h6
end
end PyI
/-! PyP: a module by its records -/
namespace PyI
open PySem PySem.Spec L2
open PyProof.Rows hiding St
theorem look_zip : ∀ {ps : List Str} {us : List Value}, us.length = ps.length → ps.Nodup → (ps.filterMap fun n => ((ps.zip us).lookup n).map (n, ·)) = ps.zip us := by
  have key : ∀ {ps : List Str} {us : List Value} (f : Str → Option Value), us.length = ps.length → (∀ p ∈ ps.zip us, f p.1 = some p.2) → (ps.filterMap fun n => (f n).map (n, ·)) = ps.zip us := by
    intro ps
    induction ps with
    | nil => intro us f h _; rfl
    | cons p ps ih =>
      intro us f h hf
      cases us with
      | nil => simp at h
      | cons u us =>
        have h0 := hf (p, u) List.mem_cons_self
        rw [List.filterMap_cons, h0]
        show (p, u) :: _ = _
        rw [ih f (by simpa using h) fun q hq => hf q (List.mem_cons_of_mem _ hq)]
        rfl
  have look : ∀ {ps : List Str} {us : List Value}, ps.Nodup → ∀ p ∈ ps.zip us, (ps.zip us).lookup p.1 = some p.2 := by
    intro ps
    induction ps with
    | nil => intro us _ p hp; cases hp
    | cons q ps ih =>
      intro us nd p hp
      cases us with
      | nil => cases hp
      | cons u us =>
        rw [List.zip_cons_cons] at hp ⊢
        rw [List.lookup_cons]
        rcases List.mem_cons.mp hp with e | hp
        · subst e; simp
        · have h2 := (List.of_mem_zip hp).1
          have : (p.1 == q) = false := by
            rw [beq_eq_false_iff_ne]
            intro e
            exact (List.nodup_cons.mp nd).1 (e ▸ h2)
          rw [this]
          exact ih (List.nodup_cons.mp nd).2 p hp
  intro ps us hl nd
  exact key _ hl (look nd)
theorem look_some : ∀ {ps : List Str} {us : List Value}, us.length = ps.length → ∀ n ∈ ps, ((ps.zip us).lookup n).isNone = false
  | [], _, _, _, h => by cases h
  | p :: ps, [], h, _, _ => by simp at h
  | p :: ps, u :: us, h, n, hn => by
    rw [List.zip_cons_cons, List.lookup_cons]
    cases e : n == p with
    | true => rfl
    | false =>
      rcases List.mem_cons.mp hn with q | q
      · rw [q] at e; simp at e
      · exact look_some (by simpa using h) n q
theorem bind_plain {fd : FuncData} (h1 : fd.params.posonlyargs = []) (h2 : fd.params.kwonlyargs = []) (h3 : fd.params.vararg = none) (h4 : fd.params.kwarg = none) (h5 : fd.defaults = .none) {us : List Value} (hl : us.length = (fd.params.args.map (·.arg)).length) (nd : (fd.params.args.map (·.arg)).Nodup) :
    bindArgs fd ⟨us, []⟩ = pure ((fd.params.args.map (·.arg)).zip us) := by
  generalize hps : fd.params.args.map (·.arg) = ps at *
  have e1 : List.filter (fun n => (List.lookup n (ps.zip us)).isNone) ps = [] := by
    rw [List.filter_eq_nil_iff]
    intro a ha
    rw [look_some hl a ha]
    exact Bool.false_ne_true
  have e3 := look_zip hl nd
  have hn : notAStandIn Value.none = pure () := rfl
  unfold bindArgs
  simp only [h1, h2, h3, h4, h5, hps, List.map_nil, List.nil_append, List.append_nil, List.forIn_nil, pure_bind, seqItems?, Option.getD_none, hl, gt_iff_lt, Nat.lt_irrefl, decide_false, Bool.false_and, List.length_nil, Nat.zero_sub, List.drop_nil, Nat.sub_zero, List.take_length, List.zip_nil_right, e1, e3, hn]
  simp [e1, e3]

/-- a look at the names of a def -/
def scB (N P : List Str) (sc : Scope) : Bool := (match sc.kind with
  | .function => true
  | _ => false) && !sc.isCoroutine && !sc.isGenerator && decide N.Nodup && decide (N.take P.length = P) && (P.all fun x => decide (sc.names.lookup x = some .local) || decide (sc.names.lookup x = some .cell)) && sc.names.all fun y => !decide (y.2 = .free)
theorem scB_snd {N P : List Str} {sc : Scope} (h : scB N P sc = true) : FnScope N P sc := by
  unfold scB at h
  simp only [Bool.and_eq_true, Bool.not_eq_true', decide_eq_true_eq, List.all_eq_true, Bool.or_eq_true, decide_eq_false_iff_not] at h
  obtain ⟨⟨⟨⟨⟨⟨h1, h2⟩, h3⟩, h4⟩, h5⟩, h6⟩, h7⟩ := h
  refine ⟨?_, h2, h3, h4, h5, h6, h7⟩
  split at h1
  · assumption
  · cases h1
/-- a def's record: its text, its names (the parameters first), the interpreter's term -/
structure DR where
  nm : Str
  params : Arguments
  body : List Stmt
  scope : Scope
  N : List Str
  ss : Ss
def DR.ps (r : DR) : List Str := r.params.args.map (·.arg)
def DR.d (r : DR) : He.DefD := ⟨(r.nm, none), r.nm, r.nm, r.params, r.body, r.scope, [], []⟩
def DR.fn (r : DR) : Fn := ⟨r.ps.length, r.N.length, r.ss⟩
def plainPar (p : Arguments) : Bool := p.posonlyargs.isEmpty && p.kwonlyargs.isEmpty && p.vararg.isNone && p.kwarg.isNone && decide (p.args.map (·.arg)).Nodup
def DR.ok (fns gls : List (Str × Nat)) (bl : List Str) (r : DR) : Bool := plainPar r.params && scB r.N r.ps r.scope && okSs ⟨r.N, r.scope, fun _ => true, fns, gls, bl⟩ r.ss r.body
def fnsOf (drs : List DR) : List (Str × Nat) := (drs.map (·.nm)).zipIdx
theorem fnsOf_get {drs : List DR} {x : Str} {f : Nat} (h : (fnsOf drs).lookup x = some f) : ∃ r, drs[f]? = some r ∧ r.nm = x := by
  have h1 := PySem.mem_of_lookup h
  unfold fnsOf at h1
  rw [List.mem_zipIdx_iff_getElem?] at h1
  simp only [List.getElem?_map, Option.map_eq_some_iff] at h1
  exact h1
theorem DR.binds {r : DR} {K : PySem.W.Frag} {a : Addr} {fd : FuncData} {qual : Str} (h : plainPar r.params = true) (F : FunD K r.nm qual r.params r.body r.scope [] [] a fd) : L2.Binds K fd r.ps [] := by
  unfold plainPar at h
  simp only [Bool.and_eq_true, List.isEmpty_iff, Option.isNone_iff_eq_none, decide_eq_true_eq] at h
  obtain ⟨⟨⟨⟨h1, h2⟩, h3⟩, h4⟩, h5⟩ := h
  exact F.bindsN fun kV doc pm an cdv ct us hl => bind_plain (fd := PySem.W.fnOf r.nm qual r.params r.body r.scope .none kV doc pm an cdv ct) h1 h2 h3 h4 rfl hl h5
theorem DR.bindsA {r : DR} {K : PySem.W.Frag} {a : Addr} {fd : FuncData} {qual : Str} (h : plainPar r.params = true) (F : FunD K r.nm qual r.params r.body r.scope [] [] a fd) (s : Shared) (us : List Value) (hl : us.length = r.ps.length) : BindsTo s fd ⟨us, []⟩ (r.ps.zip us) := by
  unfold plainPar at h
  simp only [Bool.and_eq_true, List.isEmpty_iff, Option.isNone_iff_eq_none, decide_eq_true_eq] at h
  obtain ⟨⟨⟨⟨h1, h2⟩, h3⟩, h4⟩, h5⟩ := h
  exact F.bindsA (fun kV doc pm an cdv ct us hl => bind_plain (fd := PySem.W.fnOf r.nm qual r.params r.body r.scope .none kV doc pm an cdv ct) h1 h2 h3 h4 rfl hl h5) s us hl
section
variable {P : Program} {w : World} {K : PySem.W.Frag} {mg : Str → Option Value} {base h : Heap} {fa : List He.Fa} {drs : List DR} {gls : List (Str × Nat)} {bl : List Str} {gl : Nat → D}
theorem md_of (c : He.SaysD fa (drs.map DR.d) K) (X : K.In h) (G : h.Ns mainGlobals mg) (hok : (drs.all (DR.ok (fnsOf drs) gls bl)) = true) (hg : ∀ r ∈ drs, He.Fa.glo r.nm ∈ fa) (hbl : ∀ x ∈ bl, He.Fa.free x ∈ fa)
    (hgl : ∀ x g, gls.lookup x = some g → ∃ u v, mg x = some u ∧ RelV v u ∧ ∀ H F m, Rep K H F m (gl g) v) : Md P w K mg base (fnsOf drs) gls bl (drs.map DR.fn) gl := by
  refine ⟨fun x f hx => ?_, fun x hx => He.free_ok X G (c.facts (hbl x hx)), hgl⟩
  obtain ⟨r, hr, rfl⟩ := fnsOf_get hx
  have hm := List.mem_of_getElem? hr
  have ok := List.all_eq_true.mp hok r hm
  unfold DR.ok at ok
  simp only [Bool.and_eq_true] at ok
  obtain ⟨⟨o1, o2⟩, o3⟩ := ok
  obtain ⟨fd, F⟩ := c.defs (d := r.d) (List.mem_map_of_mem hm)
  have F : FunD K r.nm r.nm r.params r.body r.scope [] [] (He.ga K r.nm) fd := F
  exact ⟨He.ga K r.nm, fd, r.params, r.body, r.scope, r.N, r.ps, r.fn, F, scB_snd o2, by rw [List.getElem?_map, hr] <;> rfl, rfl, rfl, o3, He.glo_ok X G (c.facts (hg r hm)), DR.binds o1 F⟩
/-- the law's own def keeps the interpreter's word -/
theorem law_fn (c : He.SaysD fa (drs.map DR.d) K) (X : K.In h) (G : h.Ns mainGlobals mg) (hok : (drs.all (DR.ok (fnsOf drs) gls bl)) = true) (hg : ∀ r ∈ drs, He.Fa.glo r.nm ∈ fa) (hbl : ∀ x ∈ bl, He.Fa.free x ∈ fa)
    (hgl : ∀ x g, gls.lookup x = some g → ∃ u v, mg x = some u ∧ RelV v u ∧ ∀ H F m, Rep K H F m (gl g) v) {r : DR} {f : Nat} {k : Nat} {x : Str} (hr : drs[f]? = some r) (hps : r.ps = [x]) (fa' : Addr) (hmg : mg r.nm = some (.ref fa')) :
    ∃ fd : FuncData, (∀ (s : Shared) (u : Value), BindsTo s fd ⟨[u], []⟩ [(x, u)]) ∧ ∀ base : Heap, FnOk P w K mg base CX0 (k + 1) fa' fd [x] (spF K (drs.map DR.fn) gl (k + 1) f) := by
  have hm := List.mem_of_getElem? hr
  have ok := List.all_eq_true.mp hok r hm
  unfold DR.ok at ok
  simp only [Bool.and_eq_true] at ok
  obtain ⟨⟨o1, o2⟩, o3⟩ := ok
  obtain ⟨fd, F⟩ := c.defs (d := r.d) (List.mem_map_of_mem hm)
  have F : FunD K r.nm r.nm r.params r.body r.scope [] [] (He.ga K r.nm) fd := F
  have e := hmg.symm.trans (He.glo_ok X G (c.facts (hg r hm)))
  cases e
  refine ⟨fd, fun s u => ?_, fun base => ?_⟩
  · have := DR.bindsA o1 F s [u] (by rw [hps] <;> rfl)
    rw [hps] at this
    exact this
  · rw [← hps]
    exact law_ok (md_of c X G hok hg hbl hgl) F (scB_snd o2) (by rw [List.getElem?_map, hr] <;> rfl) rfl rfl o3
end
/-- what is to be shown of a law by the interpreter -/
def LawSays (fs : List Fn) (gl : Nat → D) (k f n : Nat) : Prop := ∀ ns : List Int, ns.length ≤ n → ∃ M', callF fs gl k f [.scr ns] [] = .ok (.v (.bl true)) M'
theorem law_true {K : PySem.W.Frag} {fs : List Fn} {gl : Nat → D} {k f n : Nat} (h : LawSays fs gl k f n) {H : Hp} {a : Addr} {ns : List Int} (hl : ns.length ≤ n) (hO : Only H) (hS : SqL K H a (ns.map V.int)) :
    spF K fs gl k f [.ref a] H (fun v _ => v = .bl true) fun _ _ _ => False := by
  obtain ⟨M', e⟩ := h ns hl
  refine ⟨fun _ => none, [], [], [.scr ns], _, M', ⟨rfl, List.nodup_nil, (fun a ha => nomatch ha), (fun a b hb => nomatch hb), (fun n a d h1 _ => nomatch h1)⟩, .cons (.scr (Scr.of hO hS)) .nil, e, fun H' F' m' v g ab rf => ?_⟩
  cases rf with
  | v r => cases r; rfl
theorem join {P : Program} {w : World} {mg : Str → Option Value} {h : Heap} {fa : List He.Fa} {drs : List DR} {gls : List (Str × Nat)} {bl : List Str} {gl : Nat → D} {n k : Nat} (Y : ∃ K : PySem.W.Frag, K.In h ∧ He.SaysD fa (drs.map DR.d) K) (G : h.Ns mainGlobals mg)
    (hok : (drs.all (DR.ok (fnsOf drs) gls bl)) = true) (hg : ∀ r ∈ drs, He.Fa.glo r.nm ∈ fa) (hbl : ∀ x ∈ bl, He.Fa.free x ∈ fa)
    (hgl : ∀ K : PySem.W.Frag, K.In h → He.SaysD fa (drs.map DR.d) K → ∀ x g, gls.lookup x = some g → ∃ u v, mg x = some u ∧ RelV v u ∧ ∀ H F m, Rep K H F m (gl g) v) {r : DR} {f : Nat} {x : Str} (hr : drs[f]? = some r) (hps : r.ps = [x]) {fa' : Addr} (hmg : mg r.nm = some (.ref fa'))
    (says : LawSays (drs.map DR.fn) gl (k + 1) f n) :
    ∃ (K : PySem.W.Frag) (fd : FuncData) (sp : Sp), K.In h ∧ (∀ (s : Shared) (u : Value), BindsTo s fd ⟨[u], []⟩ [(x, u)]) ∧
      (∀ (H : Hp) (a : Addr) (ns : List Int), ns.length ≤ n → Only H → SqL K H a (ns.map V.int) → sp [.ref a] H (fun v _ => v = .bl true) fun _ _ _ => False) ∧
      ∀ base : Heap, K.In base → base.Ns mainGlobals mg → FnOk P w K mg base CX0 (k + 1) fa' fd [x] sp := by
  obtain ⟨K, KX, c⟩ := Y
  obtain ⟨fd, h1, h2⟩ := law_fn (P := P) (w := w) (k := k) c KX G hok hg hbl (hgl K KX c) hr hps fa' hmg
  exact ⟨K, fd, _, KX, h1, fun H a ns hl hO hS => law_true says hl hO hS, fun base _ _ => h2 base⟩
end PyI
/-! PyQ: to reckon with the interpreter -/
namespace PyI
open PySem

/-- it ends, and as Q says -/
def Rs.sat {α : Type} (r : Rs α) (Q : α → Store → Prop) : Prop := match r with
  | .ok a M => Q a M
  | .no => False
section
variable {α β : Type} {M M' : Store} {C : Ctx} {ρ : Env}
theorem sat_ok {a : α} {Q : α → Store → Prop} : (Rs.ok a M).sat Q = Q a M := rfl
theorem sat_bd {r : Rs α} {k : α → Store → Rs β} {P : α → Store → Prop} {Q : β → Store → Prop} (h : r.sat P) (hk : ∀ a M, P a M → (k a M).sat Q) : (r.bd k).sat Q := by
  cases r with
  | ok a M => exact hk a M h
  | no => exact h.elim
theorem sat_bdd {r : Rs FV} {k : D → Store → Rs β} {P : FV → Store → Prop} {Q : β → Store → Prop} (h : r.sat P) (hk : ∀ a M, P a M → (k a.d M).sat Q) : (r.bdd k).sat Q := by
  cases r with
  | ok a M => exact hk a M h
  | no => exact h.elim
theorem sat_bdq {r : Rs α} {k : α → Store → Rs β} {Q : β → Store → Prop} (h : r.sat fun a M => (k a M).sat Q) : (r.bd k).sat Q := by
  cases r with
  | ok a M => exact h
  | no => exact h.elim
theorem sat_bddq {r : Rs FV} {k : D → Store → Rs β} {Q : β → Store → Prop} (h : r.sat fun a M => (k a.d M).sat Q) : (r.bdd k).sat Q := by
  cases r with
  | ok a M => exact h
  | no => exact h.elim
theorem sat_mono {r : Rs α} {P Q : α → Store → Prop} (h : r.sat P) (hk : ∀ a M, P a M → Q a M) : r.sat Q := by
  cases r with
  | ok a M => exact hk a M h
  | no => exact h.elim
theorem sat_eq {r : Rs α} {a : α} (h : r = .ok a M') {Q : α → Store → Prop} (q : Q a M') : r.sat Q := by subst h; exact q
theorem eq_sat {r : Rs α} {a : α} (h : r.sat fun x N => x = a ∧ N = M') : r = .ok a M' := by
  cases r with
  | ok b N => obtain ⟨rfl, rfl⟩ := h; rfl
  | no => exact h.elim
theorem sat_ex {r : Rs α} {Q : α → Store → Prop} (h : r.sat Q) : ∃ a N, r = .ok a N ∧ Q a N := by
  cases r with
  | ok b N => exact ⟨b, N, rfl, h⟩
  | no => exact h.elim
theorem sat_gd {c : Bool} {r : Rs α} {Q : α → Store → Prop} (h : c = true) (k : r.sat Q) : (guardR c r).sat Q := by subst h; exact k

/-! ### the equations that simp uses -/
def contF (C : Ctx) (r : Ss) (f : Fl) (M : Store) : Rs Fl := match f with
  | .nx ρ => exs C r ρ M
  | f => .ok f M
theorem exs_n : exs C .nil ρ M = .ok (.nx ρ) M := rfl
theorem exs_c {s : S} {r : Ss} : exs C (.cons s r) ρ M = (ex C s ρ M).bd (contF C r) := by
  rw [exs]
  congr
  try (funext f M; cases f <;> rfl)
theorem cf_nx {r : Ss} : contF C r (.nx ρ) M = exs C r ρ M := rfl
theorem cf_rt {r : Ss} {d : FV} : contF C r (.rt d) M = .ok (.rt d) M := rfl
theorem cf_bk {r : Ss} : contF C r (.bk ρ) M = .ok (.bk ρ) M := rfl
theorem cf_ct {r : Ss} : contF C r (.ct ρ) M = .ok (.ct ρ) M := rfl
def setC (i : Nat) (ρ : Env) (d : D) (M : Store) : Rs Fl := .ok (.nx (ρ.set i (some d))) M
theorem ex_nm {i : Nat} {e : E} : ex C (.asg (.nm i) e) ρ M = (ev C e ρ M).bdd (setC i ρ) := rfl
theorem setC_eq {i : Nat} {d : D} : setC i ρ d M = .ok (.nx (ρ.set i (some d))) M := rfl
def asgC (C : Ctx) (t : T) (ρ : Env) (d : D) (M : Store) : Rs Fl := (asgT C t d ρ M).bd fun ρ M => .ok (.nx ρ) M
theorem ex_tp {ts : Ts} {e : E} : ex C (.asg (.tp ts) e) ρ M = (ev C e ρ M).bdd (asgC C (.tp ts) ρ) := rfl
theorem ex_sb {o i e : E} : ex C (.asg (.sb o i) e) ρ M = (ev C e ρ M).bdd (asgC C (.sb o i) ρ) := rfl
theorem asgC_eq {t : T} {d : D} : asgC C t ρ d M = (asgT C t d ρ M).bd fun ρ M => .ok (.nx ρ) M := rfl
theorem at_nm {i : Nat} {d : D} : asgT C (.nm i) d ρ M = .ok (ρ.set i (some d)) M := rfl
theorem at_tp {ts : Ts} {xs : List D} : asgT C (.tp ts) (.tup xs) ρ M = asgTs C ts xs ρ M := rfl
theorem at_sb {o i : E} {d : D} : asgT C (.sb o i) d ρ M = (ev C o ρ M).bdd fun x M => (ev C i ρ M).bdd fun y M => (setS x (look M x) y d M).bd fun _ M => .ok ρ M := rfl
theorem ats_n : asgTs C .nil [] ρ M = .ok ρ M := rfl
theorem ats_c {t : T} {r : Ts} {d : D} {ds : List D} : asgTs C (.cons t r) (d :: ds) ρ M = (asgT C t d ρ M).bd fun ρ M => asgTs C r ds ρ M := rfl
theorem ex_exp {e : E} : ex C (.exp e) ρ M = (ev C e ρ M).bdd fun _ M => .ok (.nx ρ) M := rfl
theorem ex_ret {e : E} : ex C (.ret e) ρ M = (ev C e ρ M).bd fun d M => .ok (.rt d) M := rfl
theorem ex_retN : ex C .retN ρ M = .ok (.rt (.v .non)) M := rfl
theorem ex_pass : ex C .pass ρ M = .ok (.nx ρ) M := rfl
theorem ex_brk : ex C .brk ρ M = .ok (.bk ρ) M := rfl
theorem ex_cont : ex C .cont ρ M = .ok (.ct ρ) M := rfl
theorem ex_par {is : List Nat} {es : Es} : ex C (.par is es) ρ M = (evs C es ρ M).bd fun ds M => guardR (decide (ds.length = is.length)) (.ok (.nx (parS is ds ρ)) M) := rfl
/-- the two ways of an if -/
def iffC (C : Ctx) (a b : Ss) (ρ : Env) (t : Bool) (M : Store) : Rs Fl := match t with
  | true => exs C a ρ M
  | false => exs C b ρ M
theorem ex_iff {c : E} {a b : Ss} : ex C (.iff c a b) ρ M = (evT C c ρ M).bd (iffC C a b ρ) := rfl
theorem iffC_d {a b : Ss} {p : Prop} [Decidable p] : iffC C a b ρ (decide p) M = if p then exs C a ρ M else exs C b ρ M := by
  by_cases h : p
  · rw [decide_eq_true h, if_pos h]; rfl
  · rw [decide_eq_false h, if_neg h]; rfl
theorem iffC_t {a b : Ss} : iffC C a b ρ true M = exs C a ρ M := rfl
theorem iffC_f {a b : Ss} : iffC C a b ρ false M = exs C b ρ M := rfl
theorem iffC_n {a b : Ss} {t : Bool} : iffC C a b ρ (!t) M = iffC C b a ρ t M := by cases t <;> rfl
theorem iffC_b {a b : Ss} {t : Bool} : iffC C a b ρ t M = if t = true then exs C a ρ M else exs C b ρ M := by cases t <;> rfl
/-- a for's turn -/
def turnC (C : Ctx) (t : T) (b : Ss) (d : D) (ρ : Env) (M : Store) : Rs Fl := (asgT C t d ρ M).bd fun ρ M => exs C b ρ M
def forC (C : Ctx) (t : T) (b : Ss) (ρ : Env) (p : List D × Gd) (M : Store) : Rs Fl := forL (turnC C t b) p.2 p.1 ρ M
theorem ex_for {t : T} {k : ItK} {its : Es} {b : Ss} : ex C (.forr t k its b) ρ M = ((evs C its ρ M).bd fun ds M => itS k (ds.map (look M)) ds M).bd (forC C t b ρ) := by
  rw [ex]
  cases evs C its ρ M with
  | ok ds M => rfl
  | no => rfl
theorem forC_eq {t : T} {b : Ss} {p : List D × Gd} : forC C t b ρ p M = forL (turnC C t b) p.2 p.1 ρ M := rfl
theorem turnC_eq {t : T} {b : Ss} {d : D} : turnC C t b d ρ M = (asgT C t d ρ M).bd fun ρ M => exs C b ρ M := rfl
theorem ex_whil {c : E} {b : Ss} : ex C (.whil c b) ρ M = whileL (evT C c) (exs C b) wfuel ρ M := rfl
theorem ev_con {d : D} : ev C (.con d) ρ M = .ok (.v d) M := rfl
theorem ev_glo {g : Nat} : ev C (.glo g) ρ M = .ok (.v (C.glob g)) M := rfl
theorem ev_var {i : Nat} : ev C (.var i) ρ M = (match ρ[i]? with
    | some (some d) => .ok (.v d) M
    | _ => .no) := rfl
theorem ev_tup {es : Es} : ev C (.tup es) ρ M = (evs C es ρ M).bd fun ds M => .ok (.v (.tup ds)) M := rfl
theorem ev_lst {es : Es} : ev C (.lst es) ρ M = (evs C es ρ M).bd fun ds M => .ok (.f (.lst ds)) M := rfl
theorem ev_bin {o : Op} {a b : E} : ev C (.bin o a b) ρ M = (ev C a ρ M).bdd fun x M => (ev C b ρ M).bdd fun y M => op2 o (look M x) (look M y) M := rfl
theorem ev_neg {a : E} : ev C (.neg a) ρ M = (ev C a ρ M).bdd fun x M => neg1 x M := rfl
theorem ev_cmp {o : Cm} {a b : E} : ev C (.cmp o a b) ρ M = (ev C a ρ M).bdd fun x M => (ev C b ρ M).bdd fun y M => cm2 o (look M x) (look M y) M := rfl
theorem ev_sub {a b : E} : ev C (.sub a b) ρ M = (ev C a ρ M).bdd fun x M => (ev C b ρ M).bdd fun y M => ixS (look M x) y M := rfl
theorem ev_call {f : Nat} {as : Es} : ev C (.call f as) ρ M = (evs C as ρ M).bd (C.call f) := rfl
def primC (p : Prim) (ds : List D) (M : Store) : Rs FV := primS p (ds.map (look M)) ds M
theorem ev_prim {p : Prim} {as : Es} : ev C (.prim p as) ρ M = (evs C as ρ M).bd (primC p) := rfl
theorem primC_eq {p : Prim} {ds : List D} : primC p ds M = primS p (ds.map (look M)) ds M := rfl
theorem ev_meth {m : Mth} {o : E} {as : Es} : ev C (.meth m o as) ρ M = (ev C o ρ M).bdd fun x M => guardR (mthK m (look M x)) ((evs C as ρ M).bd fun ds M => methS m x (look M x) ds M) := rfl
/-- the second part of and, or -/
def andC (C : Ctx) (b : E) (ρ : Env) (x : D) (t : Bool) (M : Store) : Rs FV := match t with
  | true => (ev C b ρ M).bdd fun y M => .ok (.v y) M
  | false => .ok (.v x) M
def orC (C : Ctx) (b : E) (ρ : Env) (x : D) (t : Bool) (M : Store) : Rs FV := match t with
  | false => (ev C b ρ M).bdd fun y M => .ok (.v y) M
  | true => .ok (.v x) M
theorem andC_t {b : E} {x : D} : andC C b ρ x true M = (ev C b ρ M).bdd fun y M => .ok (.v y) M := rfl
theorem andC_f {b : E} {x : D} : andC C b ρ x false M = .ok (.v x) M := rfl
theorem orC_t {b : E} {x : D} : orC C b ρ x true M = .ok (.v x) M := rfl
theorem orC_f {b : E} {x : D} : orC C b ρ x false M = (ev C b ρ M).bdd fun y M => .ok (.v y) M := rfl
theorem ev_and {a b : E} : ev C (.and a b) ρ M = (ev C a ρ M).bdd fun x M => (tR (truD (look M x)) M).bd (andC C b ρ x) := by
  rw [ev]
  congr
  try (funext x M; congr; try (funext t M; cases t <;> rfl))
theorem ev_or {a b : E} : ev C (.or a b) ρ M = (ev C a ρ M).bdd fun x M => (tR (truD (look M x)) M).bd (orC C b ρ x) := by
  rw [ev]
  congr
  try (funext x M; congr; try (funext t M; cases t <;> rfl))
theorem ev_not {a : E} : ev C (.not a) ρ M = (evT C a ρ M).bd fun t M => .ok (.v (.bl (!t))) M := rfl
def ifeC (C : Ctx) (a b : E) (ρ : Env) (t : Bool) (M : Store) : Rs FV := match t with
  | true => ev C a ρ M
  | false => ev C b ρ M
theorem ev_ife {c a b : E} : ev C (.ife c a b) ρ M = (evT C c ρ M).bd (ifeC C a b ρ) := rfl
theorem ifeC_d {a b : E} {p : Prop} [Decidable p] : ifeC C a b ρ (decide p) M = if p then ev C a ρ M else ev C b ρ M := by
  by_cases h : p
  · rw [decide_eq_true h, if_pos h]; rfl
  · rw [decide_eq_false h, if_neg h]; rfl
theorem ifeC_t {a b : E} : ifeC C a b ρ true M = ev C a ρ M := rfl
theorem ifeC_f {a b : E} : ifeC C a b ρ false M = ev C b ρ M := rfl
theorem ifeC_b {a b : E} {t : Bool} : ifeC C a b ρ t M = if t = true then ev C a ρ M else ev C b ρ M := by cases t <;> rfl
theorem ev_slc {a : E} {lo hi : Es} : ev C (.slc a lo hi) ρ M = (ev C a ρ M).bdd fun x M => (evs C lo ρ M).bd fun l M => (evs C hi ρ M).bd fun h M => (match l, h with
    | [], [] => slS (look M x) none none M
    | [.int i], [] => slS (look M x) (some i) none M
    | [], [.int j] => slS (look M x) none (some j) M
    | [.int i], [.int j] => slS (look M x) (some i) (some j) M
    | _, _ => .no) := rfl
def newC (x : FV) (M : Store) : Rs FV := match x with
  | .f d => .ok (.v (.ref M.length)) (M ++ [d])
  | .v _ => .no
theorem ev_new {e : E} : ev C (.new e) ρ M = (ev C e ρ M).bd newC := by
  rw [ev]
  congr
  try (funext x M; cases x <;> rfl)
theorem newC_f {d : D} : newC (.f d) M = .ok (.v (.ref M.length)) (M ++ [d]) := rfl
/-- a comprehension's turn -/
def compC (C : Ctx) (own : List Nat) (t : T) (cs : Es) (e : E) (ρ : Env) (d : D) (M : Store) : Rs (Option D) := (asgT C t d (wipeE ρ own) M).bd fun ρ M => (evTs C cs ρ M).bd fun b M => match b with
        | true => (ev C e ρ M).bdd fun y M => .ok (some y) M
        | false => .ok none M
theorem ev_comp {own : List Nat} {t : T} {k : ItK} {its cs : Es} {e : E} : ev C (.comp own t k its cs e) ρ M = ((evs C its ρ M).bd fun ds M => itS k (ds.map (look M)) ds M).bd fun p M =>
      (cmpL (compC C own t cs e ρ) p.2 p.1 [] M).bd fun ys M => .ok (.f (.lst ys)) M := by
  rw [ev]
  cases evs C its ρ M with
  | ok ds M => rfl
  | no => rfl
def compE (C : Ctx) (e : E) (ρ : Env) (b : Bool) (M : Store) : Rs (Option D) := match b with
  | true => (ev C e ρ M).bdd fun y M => .ok (some y) M
  | false => .ok none M
def compT (C : Ctx) (cs : Es) (e : E) (ρ : Env) (M : Store) : Rs (Option D) := (evTs C cs ρ M).bd (compE C e ρ)
theorem compC_eq {own : List Nat} {t : T} {cs : Es} {e : E} {d : D} : compC C own t cs e ρ d M = (asgT C t d (wipeE ρ own) M).bd (compT C cs e) := by
  unfold compC
  congr
theorem compT_eq {cs : Es} {e : E} : compT C cs e ρ M = (evTs C cs ρ M).bd (compE C e ρ) := rfl
theorem compE_t {e : E} : compE C e ρ true M = (ev C e ρ M).bdd fun y M => .ok (some y) M := rfl
theorem compE_f {e : E} : compE C e ρ false M = .ok none M := rfl
theorem wp_n : wipeE ρ [] = ρ := rfl
theorem wp_c {v : Nat} {vs : List Nat} : wipeE ρ (v :: vs) = (wipeE ρ vs).set v none := rfl
theorem evs_n : evs C .nil ρ M = .ok [] M := rfl
theorem evs_c {e : E} {r : Es} : evs C (.cons e r) ρ M = (ev C e ρ M).bdd fun d M => (evs C r ρ M).bd fun ds M => .ok (d :: ds) M := rfl
theorem evT_eq {e : E} : evT C e ρ M = (ev C e ρ M).bdd fun x M => tR (truD (look M x)) M := rfl
theorem evTs_n : evTs C .nil ρ M = .ok true M := rfl
theorem evTs_1 {e : E} : evTs C (.cons e .nil) ρ M = evT C e ρ M := rfl
/-- a def's call -/
theorem call_eq {fs : List Fn} {gl : Nat → D} {k f : Nat} {ds : List D} {fn : Fn} (h : fs[f]? = some fn) : callF fs gl (k + 1) f ds M = runF ⟨callF fs gl k, gl⟩ fn ds M := by
  rw [callF, h]
def endC (M : Store) (f : Fl) (M' : Store) : Rs FV := match f with
  | .rt d => exitC M d M'
  | .nx _ => exitC M (.v .non) M'
  | _ => .no
theorem run_eq {fn : Fn} {ds : List D} (h : ds.length = fn.np) : runF C fn ds M = (exs C fn.body (ds.map some ++ List.replicate (fn.ns - fn.np) none) M).bd (endC M) := by
  unfold runF
  rw [decide_eq_true h]
  show (match exs C fn.body (ds.map some ++ List.replicate (fn.ns - fn.np) none) M with
    | .ok (.rt d) M' => exitC M d M'
    | .ok (.nx _) M' => exitC M (.v .non) M'
    | _ => .no) = _
  cases exs C fn.body (ds.map some ++ List.replicate (fn.ns - fn.np) none) M with
  | ok f M' => cases f <;> rfl
  | no => rfl
theorem endC_rt {d : FV} : endC M (.rt d) M' = exitC M d M' := rfl
theorem endC_nx : endC M (.nx ρ) M' = exitC M (.v .non) M' := rfl

/-! ### values -/
theorem lk_int {i : Int} : look M (.int i) = .int i := rfl
theorem lk_bl {i : Bool} : look M (.bl i) = .bl i := rfl
theorem lk_str {i : Str} : look M (.str i) = .str i := rfl
theorem lk_non : look M .non = .non := rfl
theorem lk_tup {i : List D} : look M (.tup i) = .tup i := rfl
theorem lk_lst {i : List D} : look M (.lst i) = .lst i := rfl
theorem lk_dct {k : List Key} {i : List D} : look M (.dct k i) = .dct k i := rfl
theorem lk_scr {i : List Int} : look M (.scr i) = .scr i := rfl
theorem lk_ref {n : Nat} : look M (.ref n) = (M[n]?).getD .non := rfl
theorem fd_v {d : D} : (FV.v d).d = d := rfl
theorem fd_f {d : D} : (FV.f d).d = d := rfl
theorem tr_bl {b : Bool} : truD (.bl b) = some b := rfl
theorem tr_int {i : Int} : truD (.int i) = some (i != 0) := rfl
theorem tr_non : truD .non = some false := rfl
theorem tr_tup {i : List D} : truD (.tup i) = some (!i.isEmpty) := rfl
theorem tr_lst {i : List D} : truD (.lst i) = some (!i.isEmpty) := rfl
theorem tR_some {b : Bool} : tR (some b) M = .ok b M := rfl
theorem bR_some {b : Bool} : bR (some b) M = .ok (.v (.bl b)) M := rfl
theorem vR_some {d : D} : vR (some d) M = .ok (.v d) M := rfl
theorem oI_some {d : Int} : oI (some d) M = .ok (.v (.int d)) M := rfl
theorem gd_t {r : Rs α} : guardR true r = r := rfl
theorem o_add {i j : Int} : op2 .add (.int i) (.int j) M = .ok (.v (.int (i + j))) M := rfl
theorem o_sub {i j : Int} : op2 .sub (.int i) (.int j) M = .ok (.v (.int (i - j))) M := rfl
theorem o_mul {i j : Int} : op2 .mul (.int i) (.int j) M = guardR (inW i || inW j) (.ok (.v (.int (i * j))) M) := rfl
theorem o_fdiv {i j : Int} : op2 .fdiv (.int i) (.int j) M = guardR (decide (0 < j) && inW j) (.ok (.v (.int (i / j))) M) := rfl
theorem o_mod {i j : Int} : op2 .mod (.int i) (.int j) M = guardR (decide (0 < j)) (.ok (.v (.int (i % j))) M) := rfl
theorem o_pow {i j : Int} : op2 .pow (.int i) (.int j) M = guardR (expB j && inW i) (.ok (.v (.int (i ^ j.toNat))) M) := rfl
theorem o_addt {i j : List D} : op2 .add (.tup i) (.tup j) M = guardR (decide (i.length + j.length ≤ sl)) (.ok (.v (.tup (i ++ j))) M) := rfl
theorem o_addl {i j : List D} : op2 .add (.lst i) (.lst j) M = guardR (decide (i.length + j.length ≤ sl)) (.ok (.f (.lst (i ++ j))) M) := rfl
theorem o_adds {i j : Str} : op2 .add (.str i) (.str j) M = guardR (decide (i.length + j.length ≤ sl)) (.ok (.v (.str (i ++ j))) M) := rfl
theorem o_neg {i : Int} : neg1 (.int i) M = .ok (.v (.int (-i))) M := rfl
theorem c_eq {x y : D} : cm2 .eq x y M = bR (eqD x y) M := rfl
theorem c_ne {x y : D} : cm2 .ne x y M = bR ((eqD x y).map (!·)) M := rfl
theorem c_lt {i j : Int} : cm2 .lt (.int i) (.int j) M = .ok (.v (.bl (decide (i < j)))) M := rfl
theorem c_gt {i j : Int} : cm2 .gt (.int i) (.int j) M = .ok (.v (.bl (decide (j < i)))) M := rfl
theorem c_le {i j : Int} : cm2 .le (.int i) (.int j) M = .ok (.v (.bl (decide (i ≤ j)))) M := by
  show Rs.ok (FV.v (.bl (!decide (j < i)))) M = _
  congr 3
  by_cases h : i ≤ j
  · rw [decide_eq_true h, decide_eq_false (by omega)] <;> rfl
  · rw [decide_eq_false h, decide_eq_true (by omega)] <;> rfl
theorem c_ge {i j : Int} : cm2 .ge (.int i) (.int j) M = .ok (.v (.bl (decide (j ≤ i)))) M := by
  show Rs.ok (FV.v (.bl (!decide (i < j)))) M = _
  congr 3
  by_cases h : j ≤ i
  · rw [decide_eq_true h, decide_eq_false (by omega)] <;> rfl
  · rw [decide_eq_false h, decide_eq_true (by omega)] <;> rfl
theorem c_isn {x : D} : cm2 .isn x .non M = .ok (.v (.bl (decide (x = .non)))) M := rfl
theorem c_notn {x : D} : cm2 .notn x .non M = .ok (.v (.bl (!decide (x = .non)))) M := rfl
theorem q_int {i j : Int} : eqD (.int i) (.int j) = some (decide (i = j)) := rfl
theorem q_str {i j : Str} : eqD (.str i) (.str j) = some (decide (i = j)) := rfl
theorem q_bl {i j : Bool} : eqD (.bl i) (.bl j) = some (decide (i = j)) := rfl
theorem q_map {b : Bool} : (some b : Option Bool).map (!·) = some (!b) := rfl
theorem i_tup {xs : List D} {i : Int} : ixS (.tup xs) (.int i) M = vR (L2.atI xs i) M := rfl
theorem i_lst {xs : List D} {i : Int} : ixS (.lst xs) (.int i) M = vR (L2.atI xs i) M := rfl
theorem atI_nat {xs : List D} {n : Nat} {d : D} (h : xs[n]? = some d) : L2.atI xs (n : Int) = some d := by
  have hn := (List.getElem?_eq_some_iff.mp h).1
  unfold L2.atI L2.ixN
  rw [if_pos (by omega), if_pos (by omega)]
  exact h
theorem ai_0 {a0 : D} {r : List D} : L2.atI (a0 :: r) 0 = some a0 := atI_nat (n := 0) rfl
theorem ai_1 {a0 a1 : D} {r : List D} : L2.atI (a0 :: a1 :: r) 1 = some a1 := atI_nat (n := 1) rfl
theorem ai_2 {a0 a1 a2 : D} {r : List D} : L2.atI (a0 :: a1 :: a2 :: r) 2 = some a2 := atI_nat (n := 2) rfl
theorem ai_3 {a0 a1 a2 a3 : D} {r : List D} : L2.atI (a0 :: a1 :: a2 :: a3 :: r) 3 = some a3 := atI_nat (n := 3) rfl
theorem ai_4 {a0 a1 a2 a3 a4 : D} {r : List D} : L2.atI (a0 :: a1 :: a2 :: a3 :: a4 :: r) 4 = some a4 := atI_nat (n := 4) rfl
theorem ai_5 {a0 a1 a2 a3 a4 a5 : D} {r : List D} : L2.atI (a0 :: a1 :: a2 :: a3 :: a4 :: a5 :: r) 5 = some a5 := atI_nat (n := 5) rfl
theorem ai_6 {a0 a1 a2 a3 a4 a5 a6 : D} {r : List D} : L2.atI (a0 :: a1 :: a2 :: a3 :: a4 :: a5 :: a6 :: r) 6 = some a6 := atI_nat (n := 6) rfl
theorem ai_7 {a0 a1 a2 a3 a4 a5 a6 a7 : D} {r : List D} : L2.atI (a0 :: a1 :: a2 :: a3 :: a4 :: a5 :: a6 :: a7 :: r) 7 = some a7 := atI_nat (n := 7) rfl
theorem ai_8 {a0 a1 a2 a3 a4 a5 a6 a7 a8 : D} {r : List D} : L2.atI (a0 :: a1 :: a2 :: a3 :: a4 :: a5 :: a6 :: a7 :: a8 :: r) 8 = some a8 := atI_nat (n := 8) rfl
theorem ai_9 {a0 a1 a2 a3 a4 a5 a6 a7 a8 a9 : D} {r : List D} : L2.atI (a0 :: a1 :: a2 :: a3 :: a4 :: a5 :: a6 :: a7 :: a8 :: a9 :: r) 9 = some a9 := atI_nat (n := 9) rfl
theorem ai_10 {a0 a1 a2 a3 a4 a5 a6 a7 a8 a9 a10 : D} {r : List D} : L2.atI (a0 :: a1 :: a2 :: a3 :: a4 :: a5 :: a6 :: a7 :: a8 :: a9 :: a10 :: r) 10 = some a10 := atI_nat (n := 10) rfl
theorem ai_11 {a0 a1 a2 a3 a4 a5 a6 a7 a8 a9 a10 a11 : D} {r : List D} : L2.atI (a0 :: a1 :: a2 :: a3 :: a4 :: a5 :: a6 :: a7 :: a8 :: a9 :: a10 :: a11 :: r) 11 = some a11 := atI_nat (n := 11) rfl
theorem ai_12 {a0 a1 a2 a3 a4 a5 a6 a7 a8 a9 a10 a11 a12 : D} {r : List D} : L2.atI (a0 :: a1 :: a2 :: a3 :: a4 :: a5 :: a6 :: a7 :: a8 :: a9 :: a10 :: a11 :: a12 :: r) 12 = some a12 := atI_nat (n := 12) rfl
theorem ai_13 {a0 a1 a2 a3 a4 a5 a6 a7 a8 a9 a10 a11 a12 a13 : D} {r : List D} : L2.atI (a0 :: a1 :: a2 :: a3 :: a4 :: a5 :: a6 :: a7 :: a8 :: a9 :: a10 :: a11 :: a12 :: a13 :: r) 13 = some a13 := atI_nat (n := 13) rfl
theorem ai_m {xs : List D} {n : Nat} (hn : 0 < n) (h : n ≤ xs.length) : L2.atI xs (-(n : Int)) = xs[xs.length - n]? := by
  unfold L2.atI L2.ixN
  rw [if_neg (by omega), if_pos (by omega)]
  show xs[(-(n : Int) + (xs.length : Nat)).toNat]? = _
  congr 1
  omega

/-! ### what comes behind, folded -/
def kc {γ : Type} (k : α → Store → Rs β) (l : β → Store → Rs γ) (a : α) (M : Store) : Rs γ := (k a M).bd l
def kd {γ : Type} (k : α → Store → Rs FV) (l : D → Store → Rs γ) (a : α) (M : Store) : Rs γ := (k a M).bdd l
theorem kc_eq {γ : Type} {k : α → Store → Rs β} {l : β → Store → Rs γ} {a : α} : kc k l a M = (k a M).bd l := rfl
theorem kd_eq {γ : Type} {k : α → Store → Rs FV} {l : D → Store → Rs γ} {a : α} : kd k l a M = (k a M).bdd l := rfl
theorem bd_bd {γ : Type} {r : Rs α} {k : α → Store → Rs β} {l : β → Store → Rs γ} : (r.bd k).bd l = r.bd (kc k l) := by cases r <;> rfl
theorem bd_bdd {γ : Type} {r : Rs α} {k : α → Store → Rs FV} {l : D → Store → Rs γ} : (r.bd k).bdd l = r.bd (kd k l) := by cases r <;> rfl
theorem bdd_bd {γ : Type} {r : Rs FV} {k : D → Store → Rs β} {l : β → Store → Rs γ} : (r.bdd k).bd l = r.bdd (kc k l) := by cases r <;> rfl
theorem bdd_bdd {γ : Type} {r : Rs FV} {k : D → Store → Rs FV} {l : D → Store → Rs γ} : (r.bdd k).bdd l = r.bdd (kd k l) := by cases r <;> rfl
theorem iff_i {a b : Ss} {p : Prop} [Decidable p] {k : Fl → Store → Rs β} {Q : β → Store → Prop} (h1 : p → ((exs C a ρ M).bd k).sat Q) (h2 : ¬ p → ((exs C b ρ M).bd k).sat Q) : ((iffC C a b ρ (decide p) M).bd k).sat Q := by
  by_cases h : p
  · rw [decide_eq_true h]; exact h1 h
  · rw [decide_eq_false h]; exact h2 h
theorem iff_b {a b : Ss} {t : Bool} {k : Fl → Store → Rs β} {Q : β → Store → Prop} (h1 : t = true → ((exs C a ρ M).bd k).sat Q) (h2 : t = false → ((exs C b ρ M).bd k).sat Q) : ((iffC C a b ρ t M).bd k).sat Q := by
  cases t with
  | true => exact h1 rfl
  | false => exact h2 rfl
theorem gd_bd {c : Bool} {r : Rs α} {k : α → Store → Rs β} {Q : β → Store → Prop} (h : c = true) (q : (r.bd k).sat Q) : ((guardR c r).bd k).sat Q := by subst h; exact q
theorem gd_bdd {c : Bool} {r : Rs FV} {k : D → Store → Rs β} {Q : β → Store → Prop} (h : c = true) (q : (r.bdd k).sat Q) : ((guardR c r).bdd k).sat Q := by subst h; exact q
theorem gd_p {c : Bool} {r : Rs α} (h : c = true) : guardR c r = r := by subst h; rfl
theorem inW_i {i : Int} (h1 : -(2 ^ 64) < i) (h2 : i < 2 ^ 64) : inW i = true := by
  unfold inW
  split
  · rename_i n
    have e : Int.ofNat n = (n : Int) := rfl
    exact Nat.ble_eq_true_of_le (by omega)
  · rename_i n
    have e := Int.negSucc_eq n
    exact Nat.ble_eq_true_of_le (by omega)

/-! ### how a call ends -/
mutual
theorem scp_mono {L L' : Nat} (h : L ≤ L') : ∀ d : D, d.scp L = true → d.scp L' = true
  | .non, _ => rfl
  | .bl _, _ => rfl
  | .int _, _ => rfl
  | .str _, _ => rfl
  | .tup xs, k => scps_mono h xs k
  | .lst xs, k => scps_mono h xs k
  | .dct _ xs, k => scps_mono h xs k
  | .ref n, k => decide_eq_true (Nat.lt_of_lt_of_le (of_decide_eq_true k) h)
  | .scr _, _ => rfl
theorem scps_mono {L L' : Nat} (h : L ≤ L') : ∀ ds : List D, D.scps L ds = true → D.scps L' ds = true
  | [], _ => rfl
  | x :: xs, k => by
    simp only [D.scps, Bool.and_eq_true] at k ⊢
    exact ⟨scp_mono h x k.1, scps_mono h xs k.2⟩
end
theorem sameB_refl {L : Nat} : ∀ M : Store, sameB L M M = true
  | [] => rfl
  | a :: as => by simp [sameB, sameB_refl as]
/-- the caller's objects are as before, or hold nothing new -/
theorem sameB_of {L : Nat} : ∀ {M N : Store}, M.length ≤ N.length → (∀ (n : Nat) (d : D), n < M.length → N[n]? = some d → M[n]? = some d ∨ d.scp L = true) → sameB L M N = true
  | [], _, _, _ => rfl
  | _ :: _, [], h, _ => by simp at h
  | a :: as, b :: bs, h, k => by
    simp only [sameB, Bool.and_eq_true, Bool.or_eq_true, decide_eq_true_eq]
    refine ⟨?_, sameB_of (by simpa using h) fun n d hn e => k (n + 1) d (by simpa using hn) e⟩
    rcases k 0 b (by simp) rfl with e | e
    · left; simpa using e
    · exact .inr e
def notRef : D → Bool
  | .ref _ => false
  | _ => true
theorem thaw_v {L : Nat} {M : Store} {d : D} (h : notRef d = true) : (FV.v d).thaw L M = .v d := by
  cases d <;> first | rfl | cases h
/-- a value that holds nothing new; the caller's objects -/
theorem exit_v {d : D} {Q : FV → Store → Prop} (hr : notRef d = true) (hs : d.scp M.length = true) (hb : sameB M.length M M' = true) (q : Q (.v d) (M'.take M.length)) : (exitC M (.v d) M').sat Q := by
  unfold exitC
  simp only [thaw_v hr]
  have : (FV.v d).d.scp M.length = true := hs
  rw [this, hb]
  exact q
theorem exit_f {d : D} {Q : FV → Store → Prop} (hs : d.scp M.length = true) (hb : sameB M.length M M' = true) (q : Q (.f d) (M'.take M.length)) : (exitC M (.f d) M').sat Q := by
  unfold exitC
  have e : (FV.f d).thaw M.length M' = .f d := rfl
  simp only [e]
  have : (FV.f d).d.scp M.length = true := hs
  rw [this, hb]
  exact q
/-- a list or dict made in the call -/
theorem exit_r {n : Nat} {d : D} {Q : FV → Store → Prop} (hn : M.length ≤ n) (hd : M'[n]? = some d) (hs : d.scp M.length = true) (hb : sameB M.length M M' = true) (q : Q (.f d) (M'.take M.length)) : (exitC M (.v (.ref n)) M').sat Q := by
  unfold exitC
  have e : (FV.v (.ref n)).thaw M.length M' = .f d := by
    show (match decide (M.length ≤ n) with
      | true => (match M'[n]? with
        | some x => FV.f x
        | none => .v (.ref n))
      | false => .v (.ref n)) = _
    rw [decide_eq_true hn, hd]
  simp only [e]
  have : (FV.f d).d.scp M.length = true := hs
  rw [this, hb]
  exact q
theorem exit_p {d : D} {Q : FV → Store → Prop} (hr : notRef d = true) (hs : d.scp M.length = true) (q : Q (.v d) M) : (exitC M (.v d) M).sat Q :=
  exit_v hr hs (sameB_refl M) (by rw [List.take_length]; exact q)
theorem exit_pf {d : D} {Q : FV → Store → Prop} (hs : d.scp M.length = true) (q : Q (.f d) M) : (exitC M (.f d) M).sat Q :=
  exit_f hs (sameB_refl M) (by rw [List.take_length]; exact q)

/-! ### loops -/
/-- a for over items: W by the turn, and what a return gives -/
theorem for_i {stp : D → Env → Store → Rs Fl} {gs : Gd} (W : Nat → Env → Store → Prop) {its : List D} {Q : Fl → Store → Prop} {ρ : Env} (h0 : W 0 ρ M) (hg : ∀ i ρ M, i ≤ its.length → W i ρ M → okG gs M = true)
    (hs : ∀ i ρ M (d : D), its[i]? = some d → W i ρ M → (stp d ρ M).sat fun f M' => match f with
      | .nx ρ' => W (i + 1) ρ' M'
      | .ct ρ' => W (i + 1) ρ' M'
      | .bk ρ' => Q (.nx ρ') M'
      | .rt d => Q (.rt d) M')
    (hd : ∀ ρ M, W its.length ρ M → Q (.nx ρ) M) : (forL stp gs its ρ M).sat Q := by
  suffices h : ∀ (l : List D) (i : Nat) (ρ : Env) (M : Store), i + l.length = its.length → its.drop i = l → W i ρ M → (forL stp gs l ρ M).sat Q from h its 0 ρ M (by simp) (by simp) h0
  intro l
  induction l with
  | nil =>
    intro i ρ M hi _ w
    have hi : i = its.length := by simpa using hi
    subst hi
    rw [forL]
    exact sat_gd (hg _ _ _ (Nat.le_refl _) w) (hd _ _ w)
  | cons d l ih =>
    intro i ρ M hi he w
    have hlt : i < its.length := by simp at hi; omega
    have hget : its[i]? = some d := by
      have := List.drop_eq_getElem_cons hlt
      rw [he] at this
      injection this with e1 e2
      rw [List.getElem?_eq_getElem hlt, ← e1]
    have hdrop : its.drop (i + 1) = l := by
      have := List.drop_eq_getElem_cons hlt
      rw [he] at this
      injection this with e1 e2
      exact e2.symm
    rw [forL]
    refine sat_gd (hg _ _ _ (Nat.le_of_lt hlt) w) (sat_bd (hs i ρ M d hget w) fun f M' q => ?_)
    cases f with
    | nx ρ' => exact ih (i + 1) ρ' M' (by simp at hi; omega) hdrop q
    | ct ρ' => exact ih (i + 1) ρ' M' (by simp at hi; omega) hdrop q
    | bk ρ' => exact q
    | rt d => exact q
theorem comp_i {stp : D → Store → Rs (Option D)} {gs : Gd} (W : Nat → List D → Store → Prop) {its : List D} {Q : List D → Store → Prop} (h0 : W 0 [] M) (hg : ∀ i a M, i ≤ its.length → W i a M → okG gs M = true)
    (hl : ∀ i a M, i ≤ its.length → W i a M → a.length ≤ i) (hz : its.length ≤ sl)
    (hs : ∀ i a M (d : D), its[i]? = some d → W i a M → (stp d M).sat fun f M' => match f with
      | some y => W (i + 1) (a ++ [y]) M'
      | none => W (i + 1) a M')
    (hd : ∀ a M, W its.length a M → Q a M) : (cmpL stp gs its [] M).sat Q := by
  suffices h : ∀ (l : List D) (i : Nat) (a : List D) (M : Store), i + l.length = its.length → its.drop i = l → W i a M → (cmpL stp gs l a M).sat Q from h its 0 [] M (by simp) (by simp) h0
  intro l
  induction l with
  | nil =>
    intro i a M hi _ w
    have hi : i = its.length := by simpa using hi
    subst hi
    rw [cmpL]
    exact sat_gd (hg _ _ _ (Nat.le_refl _) w) (hd _ _ w)
  | cons d l ih =>
    intro i a M hi he w
    have hlt : i < its.length := by simp at hi; omega
    have hget : its[i]? = some d := by
      have := List.drop_eq_getElem_cons hlt
      rw [he] at this
      injection this with e1 e2
      rw [List.getElem?_eq_getElem hlt, ← e1]
    have hdrop : its.drop (i + 1) = l := by
      have := List.drop_eq_getElem_cons hlt
      rw [he] at this
      injection this with e1 e2
      exact e2.symm
    rw [cmpL]
    refine sat_gd (hg _ _ _ (Nat.le_of_lt hlt) w) (sat_bd (hs i a M d hget w) fun f M' q => ?_)
    have hal := hl _ _ _ (Nat.le_of_lt hlt) w
    cases f with
    | none => exact ih (i + 1) a M' (by simp at hi; omega) hdrop q
    | some y => exact sat_gd (decide_eq_true (by omega)) (ih (i + 1) _ M' (by simp at hi; omega) hdrop q)

/-! ### dicts -/
theorem dlook_put {ks : List Key} {vs : List D} {q x : Key} {d : D} (hl : ks.length = vs.length) : dlook (dput ks vs q d).1 (dput ks vs q d).2 x = if q = x then some d else dlook ks vs x := by
  unfold dput
  by_cases h : (ks.any fun r => decide (r = q)) = true
  · rw [if_pos h]
    show dlook ks ((ks.zip vs).map fun p => if p.1 = q then d else p.2) x = _
    induction ks generalizing vs with
    | nil => simp at h
    | cons a ks ih =>
      cases vs with
      | nil => simp at hl
      | cons v vs =>
        rw [List.zip_cons_cons, List.map_cons]
        show (if a = x then some (if a = q then d else v) else dlook ks ((ks.zip vs).map fun p => if p.1 = q then d else p.2) x) = _
        show _ = if q = x then some d else if a = x then some v else dlook ks vs x
        by_cases h2 : (ks.any fun r => decide (r = q)) = true
        · rw [ih (by simpa using hl) h2]
          by_cases h3 : a = x <;> by_cases h4 : q = x <;> by_cases h5 : a = q <;> simp_all
        · have h3 : a = q := by
            simp only [List.any_cons, Bool.or_eq_true, decide_eq_true_eq] at h
            rcases h with h | h
            · exact h
            · exact absurd h h2
          subst h3
          by_cases h4 : a = x
          · simp [h4]
          · rw [if_neg h4, if_neg h4, if_neg h4]
            have : ∀ (ks : List Key) (vs : List D), ks.length = vs.length → (ks.any fun r => decide (r = a)) ≠ true → ((ks.zip vs).map fun p => if p.1 = a then d else p.2) = vs := by
              intro ks
              induction ks with
              | nil => intro vs hl _; cases vs <;> first | rfl | (simp at hl)
              | cons b ks ih2 =>
                intro vs hl hn
                cases vs with
                | nil => simp at hl
                | cons w vs =>
                  simp only [List.any_cons, Bool.or_eq_true, decide_eq_true_eq, not_or, ne_eq] at hn
                  rw [List.zip_cons_cons, List.map_cons, ih2 vs (by simpa using hl) hn.2, if_neg hn.1]
            rw [this ks vs (by simpa using hl) h2]
  · rw [if_neg h]
    show dlook (ks ++ [q]) (vs ++ [d]) x = _
    induction ks generalizing vs with
    | nil =>
      cases vs with
      | nil => rfl
      | cons _ _ => simp at hl
    | cons a ks ih =>
      cases vs with
      | nil => simp at hl
      | cons v vs =>
        simp only [List.any_cons, Bool.or_eq_true, decide_eq_true_eq, not_or] at h
        show (if a = x then some v else dlook (ks ++ [q]) (vs ++ [d]) x) = if q = x then some d else if a = x then some v else dlook ks vs x
        rw [ih (by simpa using hl) h.2]
        by_cases h3 : a = x <;> by_cases h4 : q = x <;> simp_all
theorem dput_len {ks : List Key} {vs : List D} {q : Key} {d : D} (hl : ks.length = vs.length) : (dput ks vs q d).1.length = (dput ks vs q d).2.length := by
  unfold dput
  split
  · simp [hl]
  · simp [hl]
def lastv (x : Key) : List (Key × D) → Option D → Option D
  | [], o => o
  | (k, d) :: r, o => lastv x r (if k = x then some d else o)
theorem dlook_merge {x : Key} : ∀ {ps : List (Key × D)} {ks : List Key} {vs : List D}, ks.length = vs.length → dlook (dmerge ks vs ps).1 (dmerge ks vs ps).2 x = lastv x ps (dlook ks vs x)
  | [], _, _, _ => rfl
  | (k, d) :: r, ks, vs, hl => by
    show dlook (dmerge (dput ks vs k d).1 (dput ks vs k d).2 r).1 (dmerge (dput ks vs k d).1 (dput ks vs k d).2 r).2 x = lastv x r (if k = x then some d else dlook ks vs x)
    rw [dlook_merge (dput_len hl), dlook_put hl]
theorem m_get2 {o : D} {ks : List Key} {vs : List D} {q d : D} {q' : Key} (h : toKey q = some q') : methS .get2 o (.dct ks vs) [q, d] M = .ok (.v ((dlook ks vs q').getD d)) M := by
  show (match toKey q with
    | some k => Rs.ok (FV.v ((dlook ks vs k).getD d)) M
    | none => .no) = _
  rw [h]
theorem q_dict {xs ds : List D} {ps : List (Key × D)} (h : pairsOf xs = some ps) : primS .dict1 [.lst xs] ds M = .ok (.f (.dct (dmerge [] [] ps).1 (dmerge [] [] ps).2)) M := by
  show (match pairsOf xs with
    | some ps => Rs.ok (FV.f (.dct (dmerge [] [] ps).1 (dmerge [] [] ps).2)) M
    | none => .no) = _
  rw [h]
end
end PyI
/-! PyR: the laws' own helpers: the tape, draws, picks, shuffles, the comparison of told and wanted -/
namespace PyI
open PySem
def B_law_draw : Ss := (.cons (.iff (.cmp .eq (.sub (.var 0) (.con (.int 2))) (.con (.int 0))) (.cons (.asg (.nm 3) (.sub (.var 0) (.con (.int 1))))
  (.cons (.asg (.nm 2) (.con (.int 0)))
  (.cons (.iff (.cmp .lt (.var 3) (.prim .len (.cons (.sub (.var 0) (.con (.int 0))) .nil))) (.cons (.asg (.nm 2) (.prim .abs (.cons (.prim .int1 (.cons (.sub (.sub (.var 0) (.con (.int 0))) (.var 3)) .nil)) .nil)))
  .nil) (.cons (.asg (.sb (.var 0) (.con (.int 3))) (.bin .mod (.prim .int1 (.cons (.bin .add (.bin .add (.bin .mul (.sub (.var 0) (.con (.int 3))) (.con (.int 48271))) (.var 3)) (.con (.int 1))) .nil)) (.con (.int 2147483647))))
  (.cons (.asg (.nm 2) (.sub (.var 0) (.con (.int 3))))
  .nil)))
  (.cons (.asg (.sb (.var 0) (.con (.int 1))) (.bin .add (.var 3) (.con (.int 1))))
  (.cons (.iff (.cmp .lt (.var 2) (.bin .pow (.con (.int 10)) (.con (.int 18)))) (.cons (.asg (.nm 2) (.bin .mod (.prim .int1 (.cons (.bin .add (.bin .add (.bin .mul (.var 2) (.con (.int 48271))) (.bin .mul (.var 3) (.con (.int 69621)))) (.con (.int 5))) .nil)) (.con (.int 2147483647))))
  (.cons (.asg (.nm 2) (.bin .mod (.prim .int1 (.cons (.bin .mul (.var 2) (.con (.int 69621))) .nil)) (.con (.int 2147483629))))
  (.cons (.ret (.bin .mod (.prim .int1 (.cons (.var 2) .nil)) (.prim .max2 (.cons (.var 1) (.cons (.con (.int 1)) .nil)))))
  .nil))) .nil)
  (.cons (.asg (.sb (.var 0) (.con (.int 2))) (.var 2))
  .nil)))))) .nil)
  (.cons (.asg (.nm 2) (.sub (.var 0) (.con (.int 2))))
  (.cons (.asg (.sb (.var 0) (.con (.int 2))) (.bin .fdiv (.var 2) (.prim .max2 (.cons (.var 1) (.cons (.con (.int 2)) .nil)))))
  (.cons (.ret (.bin .mod (.prim .int1 (.cons (.var 2) .nil)) (.prim .max2 (.cons (.var 1) (.cons (.con (.int 1)) .nil)))))
  .nil))))
def B_law_tape : Ss := (.cons (.asg (.nm 1) (.con (.int 7)))
  (.cons (.forr (.nm 2) .seq (.cons (.var 0) .nil) (.cons (.asg (.nm 1) (.bin .mod (.prim .int1 (.cons (.bin .add (.bin .mul (.var 1) (.con (.int 31))) (.prim .abs (.cons (.prim .int1 (.cons (.var 2) .nil)) .nil))) .nil)) (.con (.int 2147483647))))
  .nil))
  (.cons (.ret (.lst (.cons (.prim .list1 (.cons (.var 0) .nil)) (.cons (.con (.int 0)) (.cons (.con (.int 0)) (.cons (.var 1) .nil))))))
  .nil)))
def B_law_pick (c : Nat) : Ss := (.cons (.ret (.sub (.var 1) (.call c (.cons (.var 0) (.cons (.prim .len (.cons (.var 1) .nil)) .nil)))))
  .nil)
def B_law_shuffled (c : Nat) : Ss := (.cons (.asg (.nm 2) (.new (.prim .list1 (.cons (.var 1) .nil))))
  (.cons (.asg (.nm 3) (.new (.lst .nil)))
  (.cons (.forr (.nm 4) .rng1 (.cons (.prim .len (.cons (.var 1) .nil)) .nil) (.cons (.exp (.meth .append (.var 3) (.cons (.meth .popAt (.var 2) (.cons (.call c (.cons (.var 0) (.cons (.prim .len (.cons (.var 2) .nil)) .nil))) .nil)) .nil)))
  .nil))
  (.cons (.ret (.var 3))
  .nil))))
def B_law_same (c : Nat) : Ss := (.cons (.iff (.prim (.isi .tup) (.cons (.var 1) .nil)) (.cons (.iff (.or (.not (.prim (.isi .tup) (.cons (.var 0) .nil))) (.cmp .ne (.prim .len (.cons (.var 0) .nil)) (.prim .len (.cons (.var 1) .nil)))) (.cons (.ret (.con (.bl false)))
  .nil) .nil)
  (.cons (.forr (.nm 2) .rng1 (.cons (.prim .len (.cons (.var 1) .nil)) .nil) (.cons (.iff (.not (.call c (.cons (.sub (.var 0) (.var 2)) (.cons (.sub (.var 1) (.var 2)) .nil)))) (.cons (.ret (.con (.bl false)))
  .nil) .nil)
  .nil))
  (.cons (.ret (.con (.bl true)))
  .nil))) .nil)
  (.cons (.iff (.or (.cmp .isn (.var 1) (.con .non)) (.cmp .isn (.var 0) (.con .non))) (.cons (.ret (.and (.cmp .isn (.var 1) (.con .non)) (.cmp .isn (.var 0) (.con .non))))
  .nil) .nil)
  (.cons (.iff (.prim (.isi .str) (.cons (.var 1) .nil)) (.cons (.ret (.and (.prim (.isi .str) (.cons (.var 0) .nil)) (.cmp .eq (.var 0) (.var 1))))
  .nil) .nil)
  (.cons (.iff (.or (.cmp .ne (.prim (.isi .bool) (.cons (.var 0) .nil)) (.prim (.isi .bool) (.cons (.var 1) .nil))) (.not (.prim (.isi .int) (.cons (.var 0) .nil)))) (.cons (.ret (.con (.bl false)))
  .nil) .nil)
  (.cons (.ret (.cmp .eq (.var 0) (.var 1)))
  .nil)))))

def TapeD (ns : List Int) (p n m : Int) : D := .lst [.lst (ns.map .int), .int p, .int n, .int m]
theorem q_isi {t : Ty} {x : D} {ds : List D} {M : Store} : primS (.isi t) [x] ds M = bR (isT t x) M := rfl
theorem t_0 {ns : List Int} {p n m : Int} {M : Store} : ixS (TapeD ns p n m) (.int 0) M = .ok (.v (.lst (ns.map .int))) M := rfl
theorem t_1 {ns : List Int} {p n m : Int} {M : Store} : ixS (TapeD ns p n m) (.int 1) M = .ok (.v (.int p)) M := rfl
theorem t_2 {ns : List Int} {p n m : Int} {M : Store} : ixS (TapeD ns p n m) (.int 2) M = .ok (.v (.int n)) M := rfl
theorem t_3 {ns : List Int} {p n m : Int} {M : Store} : ixS (TapeD ns p n m) (.int 3) M = .ok (.v (.int m)) M := rfl
theorem s_1 {ns : List Int} {p n m v : Int} {M : Store} {t : Nat} : setS (.ref t) (TapeD ns p n m) (.int 1) (.int v) M = .ok () (M.set t (TapeD ns v n m)) := rfl
theorem s_2 {ns : List Int} {p n m v : Int} {M : Store} {t : Nat} : setS (.ref t) (TapeD ns p n m) (.int 2) (.int v) M = .ok () (M.set t (TapeD ns p v m)) := rfl
theorem s_3 {ns : List Int} {p n m v : Int} {M : Store} {t : Nat} : setS (.ref t) (TapeD ns p n m) (.int 3) (.int v) M = .ok () (M.set t (TapeD ns p n v)) := rfl
theorem p_len_l {xs : List D} {d : D} {M : Store} (h : look M d = .lst xs) : primS .len [look M d] [d] M = .ok (.v (.int xs.length)) M := by rw [h]; rfl
theorem q_len {xs ds : List D} {M : Store} : primS .len [.lst xs] ds M = .ok (.v (.int xs.length)) M := rfl
theorem q_lent {xs ds : List D} {M : Store} : primS .len [.tup xs] ds M = .ok (.v (.int xs.length)) M := rfl
theorem q_int1 {i : Int} {ds : List D} {M : Store} : primS .int1 [.int i] ds M = .ok (.v (.int i)) M := rfl
theorem q_abs {i : Int} {ds : List D} {M : Store} : primS .abs [.int i] ds M = .ok (.v (.int (if i < 0 then -i else i))) M := rfl
theorem q_max {i j : Int} {ds : List D} {M : Store} : primS .max2 [.int i, .int j] ds M = .ok (.v (.int (if j > i then j else i))) M := rfl
theorem q_min {i j : Int} {ds : List D} {M : Store} : primS .min2 [.int i, .int j] ds M = .ok (.v (.int (if j < i then j else i))) M := rfl
theorem get_ints {ns : List Int} {p : Int} (h0 : 0 ≤ p) (h : p < (ns.length : Nat)) : ∃ v, L2.atI (ns.map D.int) p = some (.int v) := by
  obtain ⟨n, rfl⟩ := Int.eq_ofNat_of_zero_le h0
  have hn : n < ns.length := by omega
  exact ⟨ns[n], atI_nat (by rw [List.getElem?_map, List.getElem?_eq_getElem hn] <;> rfl)⟩
theorem scps_ints (L : Nat) : ∀ ns : List Int, D.scps L (ns.map .int) = true
  | [] => rfl
  | _ :: r => by simp [D.scps, D.scp, scps_ints L r]
theorem tape_scp {L : Nat} {ns : List Int} {p n m : Int} : (TapeD ns p n m).scp L = true := by
  simp [TapeD, D.scp, D.scps, scps_ints]
theorem getD_some' {d : D} : (some d).getD .non = d := rfl
theorem draw_end {M N : Store} {t : Nat} {ns : List Int} {p n m x : Int} {Q : FV → Store → Prop} (hN : N = M.set t (TapeD ns p n m)) (q : Q (.v (.int x)) N) : (exitC M (.v (.int x)) N).sat Q := by
  subst hN
  refine exit_v rfl rfl (sameB_of (by simp) fun i d hi e => ?_) ?_
  · by_cases h : t = i
    · subst h
      rw [List.getElem?_set_self hi] at e
      cases e
      exact .inr tape_scp
    · rw [List.getElem?_set_ne h] at e
      exact .inl e
  · rw [List.take_of_length_le (by simp)]
    exact q
theorem draw_sat {fs : List Fn} {gl : Nat → D} {f k : Nat} (hf : fs[f]? = some ⟨2, 4, B_law_draw⟩) {M : Store} {t : Nat} {ns : List Int} {p n m many : Int} (hM : M[t]? = some (TapeD ns p n m)) (hp : 0 ≤ p) (hn : 0 ≤ n) (hm : many < 2 ^ 63)
    {Q : FV → Store → Prop} (q : ∀ x p' n' m', 0 ≤ x → x < max many 1 → 0 ≤ p' → 0 ≤ n' → Q (.v (.int x)) (M.set t (TapeD ns p' n' m'))) : (callF fs gl (k + 1) f [.ref t, .int many] M).sat Q := by
  have ht : t < M.length := (List.getElem?_eq_some_iff.mp hM).1
  have hs : ∀ d : D, (M.set t d)[t]? = some d := fun d => List.getElem?_set_self ht
  have h48 : inW 48271 = true := by decide
  have h69 : inW 69621 = true := by decide
  have h10 : inW 10 = true := by decide
  have hx18 : expB 18 = true := by decide
  have hx : ∀ i j : Int, (if j > i then j else i) = max i j := fun i j => by split <;> omega
  rw [call_eq hf, run_eq rfl]
  show ((exs _ B_law_draw [some (.ref t), some (.int many), none, none] M).bd (endC M)).sat Q
  unfold B_law_draw
  simp only [exs_n, exs_c, cf_nx, cf_rt, cf_bk, cf_ct, ex_nm, setC_eq, ex_tp, ex_sb, asgC_eq, at_nm, at_tp, at_sb, ats_n, ats_c, ex_exp, ex_ret, ex_retN, ex_pass, ex_brk, ex_cont, ex_par, ex_iff, iffC_t, iffC_f, iffC_n, ex_for, forC_eq, turnC_eq, ev_con, ev_glo, ev_var, ev_tup, ev_lst, ev_bin, ev_neg, ev_cmp, ev_sub, ev_call, ev_prim, primC_eq, ev_meth, ev_and, ev_or, ev_not, ev_ife, ifeC_t, ifeC_f, ev_slc, ev_new, newC_f, ev_comp, evs_n, evs_c, evT_eq, endC_rt, endC_nx, lk_int, lk_bl, lk_str, lk_non, lk_tup, lk_lst, lk_dct, lk_scr, lk_ref, fd_v, fd_f, tr_bl, tr_int, tr_non, tr_tup, tr_lst, tR_some, bR_some, vR_some, oI_some, gd_t, o_add, o_sub, o_mul, o_fdiv, o_mod, o_pow, o_addt, o_addl, o_adds, o_neg, c_eq, c_ne, c_lt, c_gt, c_le, c_ge, c_isn, c_notn, q_int, q_str, q_bl, q_map, i_tup, i_lst, ai_0, ai_1, ai_2, ai_3, ai_4, ai_5, ai_6, ai_7, ai_8, ai_9, ai_10, ai_11, bd_ok, bdd_ok, sat_ok, List.getElem?_cons_succ, List.getElem?_cons_zero, List.set_cons_succ, List.set_cons_zero, List.map_cons, List.map_nil, bd_bd, bdd_bd, bdd_bdd, bd_bdd, kc_eq, kd_eq, Int.reduceLT, Int.reduceLE, Int.reduceToNat, Int.reducePow, decide_true, decide_false, Bool.and_true, Bool.true_and, Bool.or_true, Bool.true_or, if_true, if_false, reduceCtorEq, andC_t, andC_f, orC_t, orC_f, Bool.not_true, Bool.not_false, ne_eq, not_true_eq_false, not_false_eq_true, Option.map_some, eq_self, compC_eq, compT_eq, compE_t, compE_f, wp_n, wp_c, evTs_n, evTs_1, hM, getD_some', t_2]
  refine iff_i (fun h => ?_) (fun h => ?_)
  · simp only [exs_n, exs_c, cf_nx, cf_rt, cf_bk, cf_ct, ex_nm, setC_eq, ex_tp, ex_sb, asgC_eq, at_nm, at_tp, at_sb, ats_n, ats_c, ex_exp, ex_ret, ex_retN, ex_pass, ex_brk, ex_cont, ex_par, ex_iff, iffC_t, iffC_f, iffC_n, ex_for, forC_eq, turnC_eq, ev_con, ev_glo, ev_var, ev_tup, ev_lst, ev_bin, ev_neg, ev_cmp, ev_sub, ev_call, ev_prim, primC_eq, ev_meth, ev_and, ev_or, ev_not, ev_ife, ifeC_t, ifeC_f, ev_slc, ev_new, newC_f, ev_comp, evs_n, evs_c, evT_eq, endC_rt, endC_nx, lk_int, lk_bl, lk_str, lk_non, lk_tup, lk_lst, lk_dct, lk_scr, lk_ref, fd_v, fd_f, tr_bl, tr_int, tr_non, tr_tup, tr_lst, tR_some, bR_some, vR_some, oI_some, gd_t, o_add, o_sub, o_mul, o_fdiv, o_mod, o_pow, o_addt, o_addl, o_adds, o_neg, c_eq, c_ne, c_lt, c_gt, c_le, c_ge, c_isn, c_notn, q_int, q_str, q_bl, q_map, i_tup, i_lst, ai_0, ai_1, ai_2, ai_3, ai_4, ai_5, ai_6, ai_7, ai_8, ai_9, ai_10, ai_11, bd_ok, bdd_ok, sat_ok, List.getElem?_cons_succ, List.getElem?_cons_zero, List.set_cons_succ, List.set_cons_zero, List.map_cons, List.map_nil, bd_bd, bdd_bd, bdd_bdd, bd_bdd, kc_eq, kd_eq, Int.reduceLT, Int.reduceLE, Int.reduceToNat, Int.reducePow, decide_true, decide_false, Bool.and_true, Bool.true_and, Bool.or_true, Bool.true_or, if_true, if_false, reduceCtorEq, andC_t, andC_f, orC_t, orC_f, Bool.not_true, Bool.not_false, ne_eq, not_true_eq_false, not_false_eq_true, Option.map_some, eq_self, compC_eq, compT_eq, compE_t, compE_f, wp_n, wp_c, evTs_n, evTs_1, hM, getD_some', t_0, t_1, t_2, q_len]
    refine iff_i (fun h2 => ?_) (fun h2 => ?_)
    · rw [List.length_map] at h2
      obtain ⟨v, hv⟩ := get_ints hp h2
      simp only [exs_n, exs_c, cf_nx, cf_rt, cf_bk, cf_ct, ex_nm, setC_eq, ex_tp, ex_sb, asgC_eq, at_nm, at_tp, at_sb, ats_n, ats_c, ex_exp, ex_ret, ex_retN, ex_pass, ex_brk, ex_cont, ex_par, ex_iff, iffC_t, iffC_f, iffC_n, ex_for, forC_eq, turnC_eq, ev_con, ev_glo, ev_var, ev_tup, ev_lst, ev_bin, ev_neg, ev_cmp, ev_sub, ev_call, ev_prim, primC_eq, ev_meth, ev_and, ev_or, ev_not, ev_ife, ifeC_t, ifeC_f, ev_slc, ev_new, newC_f, ev_comp, evs_n, evs_c, evT_eq, endC_rt, endC_nx, lk_int, lk_bl, lk_str, lk_non, lk_tup, lk_lst, lk_dct, lk_scr, lk_ref, fd_v, fd_f, tr_bl, tr_int, tr_non, tr_tup, tr_lst, tR_some, bR_some, vR_some, oI_some, gd_t, o_add, o_sub, o_mul, o_fdiv, o_mod, o_pow, o_addt, o_addl, o_adds, o_neg, c_eq, c_ne, c_lt, c_gt, c_le, c_ge, c_isn, c_notn, q_int, q_str, q_bl, q_map, i_tup, i_lst, ai_0, ai_1, ai_2, ai_3, ai_4, ai_5, ai_6, ai_7, ai_8, ai_9, ai_10, ai_11, bd_ok, bdd_ok, sat_ok, List.getElem?_cons_succ, List.getElem?_cons_zero, List.set_cons_succ, List.set_cons_zero, List.map_cons, List.map_nil, bd_bd, bdd_bd, bdd_bdd, bd_bdd, kc_eq, kd_eq, Int.reduceLT, Int.reduceLE, Int.reduceToNat, Int.reducePow, decide_true, decide_false, Bool.and_true, Bool.true_and, Bool.or_true, Bool.true_or, if_true, if_false, reduceCtorEq, andC_t, andC_f, orC_t, orC_f, Bool.not_true, Bool.not_false, ne_eq, not_true_eq_false, not_false_eq_true, Option.map_some, eq_self, compC_eq, compT_eq, compE_t, compE_f, wp_n, wp_c, evTs_n, evTs_1, hM, getD_some', t_0, t_1, t_2, q_len, q_int1, q_abs, hv, s_1, h10, hx18]
      have hv0 : 0 ≤ (if v < 0 then -v else v) := by split <;> omega
      generalize (if v < 0 then -v else v) = v at hv0 ⊢
      refine iff_i (fun h3 => ?_) (fun h3 => ?_)
      · simp only [exs_n, exs_c, cf_nx, cf_rt, cf_bk, cf_ct, ex_nm, setC_eq, ex_tp, ex_sb, asgC_eq, at_nm, at_tp, at_sb, ats_n, ats_c, ex_exp, ex_ret, ex_retN, ex_pass, ex_brk, ex_cont, ex_par, ex_iff, iffC_t, iffC_f, iffC_n, ex_for, forC_eq, turnC_eq, ev_con, ev_glo, ev_var, ev_tup, ev_lst, ev_bin, ev_neg, ev_cmp, ev_sub, ev_call, ev_prim, primC_eq, ev_meth, ev_and, ev_or, ev_not, ev_ife, ifeC_t, ifeC_f, ev_slc, ev_new, newC_f, ev_comp, evs_n, evs_c, evT_eq, endC_rt, endC_nx, lk_int, lk_bl, lk_str, lk_non, lk_tup, lk_lst, lk_dct, lk_scr, lk_ref, fd_v, fd_f, tr_bl, tr_int, tr_non, tr_tup, tr_lst, tR_some, bR_some, vR_some, oI_some, gd_t, o_add, o_sub, o_mul, o_fdiv, o_mod, o_pow, o_addt, o_addl, o_adds, o_neg, c_eq, c_ne, c_lt, c_gt, c_le, c_ge, c_isn, c_notn, q_int, q_str, q_bl, q_map, i_tup, i_lst, ai_0, ai_1, ai_2, ai_3, ai_4, ai_5, ai_6, ai_7, ai_8, ai_9, ai_10, ai_11, bd_ok, bdd_ok, sat_ok, List.getElem?_cons_succ, List.getElem?_cons_zero, List.set_cons_succ, List.set_cons_zero, List.map_cons, List.map_nil, bd_bd, bdd_bd, bdd_bdd, bd_bdd, kc_eq, kd_eq, Int.reduceLT, Int.reduceLE, Int.reduceToNat, Int.reducePow, decide_true, decide_false, Bool.and_true, Bool.true_and, Bool.or_true, Bool.true_or, if_true, if_false, reduceCtorEq, andC_t, andC_f, orC_t, orC_f, Bool.not_true, Bool.not_false, ne_eq, not_true_eq_false, not_false_eq_true, Option.map_some, eq_self, compC_eq, compT_eq, compE_t, compE_f, wp_n, wp_c, evTs_n, evTs_1, h48, h69, q_int1, q_max, hx]
        rw [gd_p (decide_eq_true (by omega))]
        simp only [exs_n, exs_c, cf_nx, cf_rt, cf_bk, cf_ct, ex_nm, setC_eq, ex_tp, ex_sb, asgC_eq, at_nm, at_tp, at_sb, ats_n, ats_c, ex_exp, ex_ret, ex_retN, ex_pass, ex_brk, ex_cont, ex_par, ex_iff, iffC_t, iffC_f, iffC_n, ex_for, forC_eq, turnC_eq, ev_con, ev_glo, ev_var, ev_tup, ev_lst, ev_bin, ev_neg, ev_cmp, ev_sub, ev_call, ev_prim, primC_eq, ev_meth, ev_and, ev_or, ev_not, ev_ife, ifeC_t, ifeC_f, ev_slc, ev_new, newC_f, ev_comp, evs_n, evs_c, evT_eq, endC_rt, endC_nx, lk_int, lk_bl, lk_str, lk_non, lk_tup, lk_lst, lk_dct, lk_scr, lk_ref, fd_v, fd_f, tr_bl, tr_int, tr_non, tr_tup, tr_lst, tR_some, bR_some, vR_some, oI_some, gd_t, o_add, o_sub, o_mul, o_fdiv, o_mod, o_pow, o_addt, o_addl, o_adds, o_neg, c_eq, c_ne, c_lt, c_gt, c_le, c_ge, c_isn, c_notn, q_int, q_str, q_bl, q_map, i_tup, i_lst, ai_0, ai_1, ai_2, ai_3, ai_4, ai_5, ai_6, ai_7, ai_8, ai_9, ai_10, ai_11, bd_ok, bdd_ok, sat_ok, List.getElem?_cons_succ, List.getElem?_cons_zero, List.set_cons_succ, List.set_cons_zero, List.map_cons, List.map_nil, bd_bd, bdd_bd, bdd_bdd, bd_bdd, kc_eq, kd_eq, Int.reduceLT, Int.reduceLE, Int.reduceToNat, Int.reducePow, decide_true, decide_false, Bool.and_true, Bool.true_and, Bool.or_true, Bool.true_or, if_true, if_false, reduceCtorEq, andC_t, andC_f, orC_t, orC_f, Bool.not_true, Bool.not_false, ne_eq, not_true_eq_false, not_false_eq_true, Option.map_some, eq_self, compC_eq, compT_eq, compE_t, compE_f, wp_n, wp_c, evTs_n, evTs_1]
        exact draw_end rfl (q _ _ _ _ (Int.emod_nonneg _ (by omega)) (Int.emod_lt_of_pos _ (by omega)) (by omega) hn)
      · simp only [exs_n, exs_c, cf_nx, cf_rt, cf_bk, cf_ct, ex_nm, setC_eq, ex_tp, ex_sb, asgC_eq, at_nm, at_tp, at_sb, ats_n, ats_c, ex_exp, ex_ret, ex_retN, ex_pass, ex_brk, ex_cont, ex_par, ex_iff, iffC_t, iffC_f, iffC_n, ex_for, forC_eq, turnC_eq, ev_con, ev_glo, ev_var, ev_tup, ev_lst, ev_bin, ev_neg, ev_cmp, ev_sub, ev_call, ev_prim, primC_eq, ev_meth, ev_and, ev_or, ev_not, ev_ife, ifeC_t, ifeC_f, ev_slc, ev_new, newC_f, ev_comp, evs_n, evs_c, evT_eq, endC_rt, endC_nx, lk_int, lk_bl, lk_str, lk_non, lk_tup, lk_lst, lk_dct, lk_scr, lk_ref, fd_v, fd_f, tr_bl, tr_int, tr_non, tr_tup, tr_lst, tR_some, bR_some, vR_some, oI_some, gd_t, o_add, o_sub, o_mul, o_fdiv, o_mod, o_pow, o_addt, o_addl, o_adds, o_neg, c_eq, c_ne, c_lt, c_gt, c_le, c_ge, c_isn, c_notn, q_int, q_str, q_bl, q_map, i_tup, i_lst, ai_0, ai_1, ai_2, ai_3, ai_4, ai_5, ai_6, ai_7, ai_8, ai_9, ai_10, ai_11, bd_ok, bdd_ok, sat_ok, List.getElem?_cons_succ, List.getElem?_cons_zero, List.set_cons_succ, List.set_cons_zero, List.map_cons, List.map_nil, bd_bd, bdd_bd, bdd_bdd, bd_bdd, kc_eq, kd_eq, Int.reduceLT, Int.reduceLE, Int.reduceToNat, Int.reducePow, decide_true, decide_false, Bool.and_true, Bool.true_and, Bool.or_true, Bool.true_or, if_true, if_false, reduceCtorEq, andC_t, andC_f, orC_t, orC_f, Bool.not_true, Bool.not_false, ne_eq, not_true_eq_false, not_false_eq_true, Option.map_some, eq_self, compC_eq, compT_eq, compE_t, compE_f, wp_n, wp_c, evTs_n, evTs_1, hs, getD_some', List.set_set, s_2, t_2, q_int1, q_max, hx]
        rw [gd_p (by rw [decide_eq_true (show (0 : Int) < max many 2 by omega), inW_i (by omega) (by omega)] <;> rfl)]
        simp only [exs_n, exs_c, cf_nx, cf_rt, cf_bk, cf_ct, ex_nm, setC_eq, ex_tp, ex_sb, asgC_eq, at_nm, at_tp, at_sb, ats_n, ats_c, ex_exp, ex_ret, ex_retN, ex_pass, ex_brk, ex_cont, ex_par, ex_iff, iffC_t, iffC_f, iffC_n, ex_for, forC_eq, turnC_eq, ev_con, ev_glo, ev_var, ev_tup, ev_lst, ev_bin, ev_neg, ev_cmp, ev_sub, ev_call, ev_prim, primC_eq, ev_meth, ev_and, ev_or, ev_not, ev_ife, ifeC_t, ifeC_f, ev_slc, ev_new, newC_f, ev_comp, evs_n, evs_c, evT_eq, endC_rt, endC_nx, lk_int, lk_bl, lk_str, lk_non, lk_tup, lk_lst, lk_dct, lk_scr, lk_ref, fd_v, fd_f, tr_bl, tr_int, tr_non, tr_tup, tr_lst, tR_some, bR_some, vR_some, oI_some, gd_t, o_add, o_sub, o_mul, o_fdiv, o_mod, o_pow, o_addt, o_addl, o_adds, o_neg, c_eq, c_ne, c_lt, c_gt, c_le, c_ge, c_isn, c_notn, q_int, q_str, q_bl, q_map, i_tup, i_lst, ai_0, ai_1, ai_2, ai_3, ai_4, ai_5, ai_6, ai_7, ai_8, ai_9, ai_10, ai_11, bd_ok, bdd_ok, sat_ok, List.getElem?_cons_succ, List.getElem?_cons_zero, List.set_cons_succ, List.set_cons_zero, List.map_cons, List.map_nil, bd_bd, bdd_bd, bdd_bdd, bd_bdd, kc_eq, kd_eq, Int.reduceLT, Int.reduceLE, Int.reduceToNat, Int.reducePow, decide_true, decide_false, Bool.and_true, Bool.true_and, Bool.or_true, Bool.true_or, if_true, if_false, reduceCtorEq, andC_t, andC_f, orC_t, orC_f, Bool.not_true, Bool.not_false, ne_eq, not_true_eq_false, not_false_eq_true, Option.map_some, eq_self, compC_eq, compT_eq, compE_t, compE_f, wp_n, wp_c, evTs_n, evTs_1, hs, getD_some', List.set_set, s_2, t_2, q_int1, q_max, hx]
        rw [gd_p (decide_eq_true (by omega))]
        simp only [exs_n, exs_c, cf_nx, cf_rt, cf_bk, cf_ct, ex_nm, setC_eq, ex_tp, ex_sb, asgC_eq, at_nm, at_tp, at_sb, ats_n, ats_c, ex_exp, ex_ret, ex_retN, ex_pass, ex_brk, ex_cont, ex_par, ex_iff, iffC_t, iffC_f, iffC_n, ex_for, forC_eq, turnC_eq, ev_con, ev_glo, ev_var, ev_tup, ev_lst, ev_bin, ev_neg, ev_cmp, ev_sub, ev_call, ev_prim, primC_eq, ev_meth, ev_and, ev_or, ev_not, ev_ife, ifeC_t, ifeC_f, ev_slc, ev_new, newC_f, ev_comp, evs_n, evs_c, evT_eq, endC_rt, endC_nx, lk_int, lk_bl, lk_str, lk_non, lk_tup, lk_lst, lk_dct, lk_scr, lk_ref, fd_v, fd_f, tr_bl, tr_int, tr_non, tr_tup, tr_lst, tR_some, bR_some, vR_some, oI_some, gd_t, o_add, o_sub, o_mul, o_fdiv, o_mod, o_pow, o_addt, o_addl, o_adds, o_neg, c_eq, c_ne, c_lt, c_gt, c_le, c_ge, c_isn, c_notn, q_int, q_str, q_bl, q_map, i_tup, i_lst, ai_0, ai_1, ai_2, ai_3, ai_4, ai_5, ai_6, ai_7, ai_8, ai_9, ai_10, ai_11, bd_ok, bdd_ok, sat_ok, List.getElem?_cons_succ, List.getElem?_cons_zero, List.set_cons_succ, List.set_cons_zero, List.map_cons, List.map_nil, bd_bd, bdd_bd, bdd_bdd, bd_bdd, kc_eq, kd_eq, Int.reduceLT, Int.reduceLE, Int.reduceToNat, Int.reducePow, decide_true, decide_false, Bool.and_true, Bool.true_and, Bool.or_true, Bool.true_or, if_true, if_false, reduceCtorEq, andC_t, andC_f, orC_t, orC_f, Bool.not_true, Bool.not_false, ne_eq, not_true_eq_false, not_false_eq_true, Option.map_some, eq_self, compC_eq, compT_eq, compE_t, compE_f, wp_n, wp_c, evTs_n, evTs_1]
        exact draw_end rfl (q _ _ _ _ (Int.emod_nonneg _ (by omega)) (Int.emod_lt_of_pos _ (by omega)) (by omega) (Int.ediv_nonneg (by omega) (by omega)))
    · simp only [exs_n, exs_c, cf_nx, cf_rt, cf_bk, cf_ct, ex_nm, setC_eq, ex_tp, ex_sb, asgC_eq, at_nm, at_tp, at_sb, ats_n, ats_c, ex_exp, ex_ret, ex_retN, ex_pass, ex_brk, ex_cont, ex_par, ex_iff, iffC_t, iffC_f, iffC_n, ex_for, forC_eq, turnC_eq, ev_con, ev_glo, ev_var, ev_tup, ev_lst, ev_bin, ev_neg, ev_cmp, ev_sub, ev_call, ev_prim, primC_eq, ev_meth, ev_and, ev_or, ev_not, ev_ife, ifeC_t, ifeC_f, ev_slc, ev_new, newC_f, ev_comp, evs_n, evs_c, evT_eq, endC_rt, endC_nx, lk_int, lk_bl, lk_str, lk_non, lk_tup, lk_lst, lk_dct, lk_scr, lk_ref, fd_v, fd_f, tr_bl, tr_int, tr_non, tr_tup, tr_lst, tR_some, bR_some, vR_some, oI_some, gd_t, o_add, o_sub, o_mul, o_fdiv, o_mod, o_pow, o_addt, o_addl, o_adds, o_neg, c_eq, c_ne, c_lt, c_gt, c_le, c_ge, c_isn, c_notn, q_int, q_str, q_bl, q_map, i_tup, i_lst, ai_0, ai_1, ai_2, ai_3, ai_4, ai_5, ai_6, ai_7, ai_8, ai_9, ai_10, ai_11, bd_ok, bdd_ok, sat_ok, List.getElem?_cons_succ, List.getElem?_cons_zero, List.set_cons_succ, List.set_cons_zero, List.map_cons, List.map_nil, bd_bd, bdd_bd, bdd_bdd, bd_bdd, kc_eq, kd_eq, Int.reduceLT, Int.reduceLE, Int.reduceToNat, Int.reducePow, decide_true, decide_false, Bool.and_true, Bool.true_and, Bool.or_true, Bool.true_or, if_true, if_false, reduceCtorEq, andC_t, andC_f, orC_t, orC_f, Bool.not_true, Bool.not_false, ne_eq, not_true_eq_false, not_false_eq_true, Option.map_some, eq_self, compC_eq, compT_eq, compE_t, compE_f, wp_n, wp_c, evTs_n, evTs_1, hM, hs, List.set_set, getD_some', t_0, t_1, t_2, t_3, q_len, q_int1, q_abs, s_1, s_3, h10, hx18, h48]
      have hv0 : 0 ≤ (m * 48271 + p + 1) % 2147483647 := Int.emod_nonneg _ (by omega)
      generalize (m * 48271 + p + 1) % 2147483647 = v at hv0 ⊢
      refine iff_i (fun h3 => ?_) (fun h3 => ?_)
      · simp only [exs_n, exs_c, cf_nx, cf_rt, cf_bk, cf_ct, ex_nm, setC_eq, ex_tp, ex_sb, asgC_eq, at_nm, at_tp, at_sb, ats_n, ats_c, ex_exp, ex_ret, ex_retN, ex_pass, ex_brk, ex_cont, ex_par, ex_iff, iffC_t, iffC_f, iffC_n, ex_for, forC_eq, turnC_eq, ev_con, ev_glo, ev_var, ev_tup, ev_lst, ev_bin, ev_neg, ev_cmp, ev_sub, ev_call, ev_prim, primC_eq, ev_meth, ev_and, ev_or, ev_not, ev_ife, ifeC_t, ifeC_f, ev_slc, ev_new, newC_f, ev_comp, evs_n, evs_c, evT_eq, endC_rt, endC_nx, lk_int, lk_bl, lk_str, lk_non, lk_tup, lk_lst, lk_dct, lk_scr, lk_ref, fd_v, fd_f, tr_bl, tr_int, tr_non, tr_tup, tr_lst, tR_some, bR_some, vR_some, oI_some, gd_t, o_add, o_sub, o_mul, o_fdiv, o_mod, o_pow, o_addt, o_addl, o_adds, o_neg, c_eq, c_ne, c_lt, c_gt, c_le, c_ge, c_isn, c_notn, q_int, q_str, q_bl, q_map, i_tup, i_lst, ai_0, ai_1, ai_2, ai_3, ai_4, ai_5, ai_6, ai_7, ai_8, ai_9, ai_10, ai_11, bd_ok, bdd_ok, sat_ok, List.getElem?_cons_succ, List.getElem?_cons_zero, List.set_cons_succ, List.set_cons_zero, List.map_cons, List.map_nil, bd_bd, bdd_bd, bdd_bdd, bd_bdd, kc_eq, kd_eq, Int.reduceLT, Int.reduceLE, Int.reduceToNat, Int.reducePow, decide_true, decide_false, Bool.and_true, Bool.true_and, Bool.or_true, Bool.true_or, if_true, if_false, reduceCtorEq, andC_t, andC_f, orC_t, orC_f, Bool.not_true, Bool.not_false, ne_eq, not_true_eq_false, not_false_eq_true, Option.map_some, eq_self, compC_eq, compT_eq, compE_t, compE_f, wp_n, wp_c, evTs_n, evTs_1, h48, h69, q_int1, q_max, hx]
        rw [gd_p (decide_eq_true (by omega))]
        simp only [exs_n, exs_c, cf_nx, cf_rt, cf_bk, cf_ct, ex_nm, setC_eq, ex_tp, ex_sb, asgC_eq, at_nm, at_tp, at_sb, ats_n, ats_c, ex_exp, ex_ret, ex_retN, ex_pass, ex_brk, ex_cont, ex_par, ex_iff, iffC_t, iffC_f, iffC_n, ex_for, forC_eq, turnC_eq, ev_con, ev_glo, ev_var, ev_tup, ev_lst, ev_bin, ev_neg, ev_cmp, ev_sub, ev_call, ev_prim, primC_eq, ev_meth, ev_and, ev_or, ev_not, ev_ife, ifeC_t, ifeC_f, ev_slc, ev_new, newC_f, ev_comp, evs_n, evs_c, evT_eq, endC_rt, endC_nx, lk_int, lk_bl, lk_str, lk_non, lk_tup, lk_lst, lk_dct, lk_scr, lk_ref, fd_v, fd_f, tr_bl, tr_int, tr_non, tr_tup, tr_lst, tR_some, bR_some, vR_some, oI_some, gd_t, o_add, o_sub, o_mul, o_fdiv, o_mod, o_pow, o_addt, o_addl, o_adds, o_neg, c_eq, c_ne, c_lt, c_gt, c_le, c_ge, c_isn, c_notn, q_int, q_str, q_bl, q_map, i_tup, i_lst, ai_0, ai_1, ai_2, ai_3, ai_4, ai_5, ai_6, ai_7, ai_8, ai_9, ai_10, ai_11, bd_ok, bdd_ok, sat_ok, List.getElem?_cons_succ, List.getElem?_cons_zero, List.set_cons_succ, List.set_cons_zero, List.map_cons, List.map_nil, bd_bd, bdd_bd, bdd_bdd, bd_bdd, kc_eq, kd_eq, Int.reduceLT, Int.reduceLE, Int.reduceToNat, Int.reducePow, decide_true, decide_false, Bool.and_true, Bool.true_and, Bool.or_true, Bool.true_or, if_true, if_false, reduceCtorEq, andC_t, andC_f, orC_t, orC_f, Bool.not_true, Bool.not_false, ne_eq, not_true_eq_false, not_false_eq_true, Option.map_some, eq_self, compC_eq, compT_eq, compE_t, compE_f, wp_n, wp_c, evTs_n, evTs_1]
        exact draw_end rfl (q _ _ _ _ (Int.emod_nonneg _ (by omega)) (Int.emod_lt_of_pos _ (by omega)) (by omega) hn)
      · simp only [exs_n, exs_c, cf_nx, cf_rt, cf_bk, cf_ct, ex_nm, setC_eq, ex_tp, ex_sb, asgC_eq, at_nm, at_tp, at_sb, ats_n, ats_c, ex_exp, ex_ret, ex_retN, ex_pass, ex_brk, ex_cont, ex_par, ex_iff, iffC_t, iffC_f, iffC_n, ex_for, forC_eq, turnC_eq, ev_con, ev_glo, ev_var, ev_tup, ev_lst, ev_bin, ev_neg, ev_cmp, ev_sub, ev_call, ev_prim, primC_eq, ev_meth, ev_and, ev_or, ev_not, ev_ife, ifeC_t, ifeC_f, ev_slc, ev_new, newC_f, ev_comp, evs_n, evs_c, evT_eq, endC_rt, endC_nx, lk_int, lk_bl, lk_str, lk_non, lk_tup, lk_lst, lk_dct, lk_scr, lk_ref, fd_v, fd_f, tr_bl, tr_int, tr_non, tr_tup, tr_lst, tR_some, bR_some, vR_some, oI_some, gd_t, o_add, o_sub, o_mul, o_fdiv, o_mod, o_pow, o_addt, o_addl, o_adds, o_neg, c_eq, c_ne, c_lt, c_gt, c_le, c_ge, c_isn, c_notn, q_int, q_str, q_bl, q_map, i_tup, i_lst, ai_0, ai_1, ai_2, ai_3, ai_4, ai_5, ai_6, ai_7, ai_8, ai_9, ai_10, ai_11, bd_ok, bdd_ok, sat_ok, List.getElem?_cons_succ, List.getElem?_cons_zero, List.set_cons_succ, List.set_cons_zero, List.map_cons, List.map_nil, bd_bd, bdd_bd, bdd_bdd, bd_bdd, kc_eq, kd_eq, Int.reduceLT, Int.reduceLE, Int.reduceToNat, Int.reducePow, decide_true, decide_false, Bool.and_true, Bool.true_and, Bool.or_true, Bool.true_or, if_true, if_false, reduceCtorEq, andC_t, andC_f, orC_t, orC_f, Bool.not_true, Bool.not_false, ne_eq, not_true_eq_false, not_false_eq_true, Option.map_some, eq_self, compC_eq, compT_eq, compE_t, compE_f, wp_n, wp_c, evTs_n, evTs_1, hs, getD_some', List.set_set, s_2, t_2, q_int1, q_max, hx]
        rw [gd_p (by rw [decide_eq_true (show (0 : Int) < max many 2 by omega), inW_i (by omega) (by omega)] <;> rfl)]
        simp only [exs_n, exs_c, cf_nx, cf_rt, cf_bk, cf_ct, ex_nm, setC_eq, ex_tp, ex_sb, asgC_eq, at_nm, at_tp, at_sb, ats_n, ats_c, ex_exp, ex_ret, ex_retN, ex_pass, ex_brk, ex_cont, ex_par, ex_iff, iffC_t, iffC_f, iffC_n, ex_for, forC_eq, turnC_eq, ev_con, ev_glo, ev_var, ev_tup, ev_lst, ev_bin, ev_neg, ev_cmp, ev_sub, ev_call, ev_prim, primC_eq, ev_meth, ev_and, ev_or, ev_not, ev_ife, ifeC_t, ifeC_f, ev_slc, ev_new, newC_f, ev_comp, evs_n, evs_c, evT_eq, endC_rt, endC_nx, lk_int, lk_bl, lk_str, lk_non, lk_tup, lk_lst, lk_dct, lk_scr, lk_ref, fd_v, fd_f, tr_bl, tr_int, tr_non, tr_tup, tr_lst, tR_some, bR_some, vR_some, oI_some, gd_t, o_add, o_sub, o_mul, o_fdiv, o_mod, o_pow, o_addt, o_addl, o_adds, o_neg, c_eq, c_ne, c_lt, c_gt, c_le, c_ge, c_isn, c_notn, q_int, q_str, q_bl, q_map, i_tup, i_lst, ai_0, ai_1, ai_2, ai_3, ai_4, ai_5, ai_6, ai_7, ai_8, ai_9, ai_10, ai_11, bd_ok, bdd_ok, sat_ok, List.getElem?_cons_succ, List.getElem?_cons_zero, List.set_cons_succ, List.set_cons_zero, List.map_cons, List.map_nil, bd_bd, bdd_bd, bdd_bdd, bd_bdd, kc_eq, kd_eq, Int.reduceLT, Int.reduceLE, Int.reduceToNat, Int.reducePow, decide_true, decide_false, Bool.and_true, Bool.true_and, Bool.or_true, Bool.true_or, if_true, if_false, reduceCtorEq, andC_t, andC_f, orC_t, orC_f, Bool.not_true, Bool.not_false, ne_eq, not_true_eq_false, not_false_eq_true, Option.map_some, eq_self, compC_eq, compT_eq, compE_t, compE_f, wp_n, wp_c, evTs_n, evTs_1, hs, getD_some', List.set_set, s_2, t_2, q_int1, q_max, hx]
        rw [gd_p (decide_eq_true (by omega))]
        simp only [exs_n, exs_c, cf_nx, cf_rt, cf_bk, cf_ct, ex_nm, setC_eq, ex_tp, ex_sb, asgC_eq, at_nm, at_tp, at_sb, ats_n, ats_c, ex_exp, ex_ret, ex_retN, ex_pass, ex_brk, ex_cont, ex_par, ex_iff, iffC_t, iffC_f, iffC_n, ex_for, forC_eq, turnC_eq, ev_con, ev_glo, ev_var, ev_tup, ev_lst, ev_bin, ev_neg, ev_cmp, ev_sub, ev_call, ev_prim, primC_eq, ev_meth, ev_and, ev_or, ev_not, ev_ife, ifeC_t, ifeC_f, ev_slc, ev_new, newC_f, ev_comp, evs_n, evs_c, evT_eq, endC_rt, endC_nx, lk_int, lk_bl, lk_str, lk_non, lk_tup, lk_lst, lk_dct, lk_scr, lk_ref, fd_v, fd_f, tr_bl, tr_int, tr_non, tr_tup, tr_lst, tR_some, bR_some, vR_some, oI_some, gd_t, o_add, o_sub, o_mul, o_fdiv, o_mod, o_pow, o_addt, o_addl, o_adds, o_neg, c_eq, c_ne, c_lt, c_gt, c_le, c_ge, c_isn, c_notn, q_int, q_str, q_bl, q_map, i_tup, i_lst, ai_0, ai_1, ai_2, ai_3, ai_4, ai_5, ai_6, ai_7, ai_8, ai_9, ai_10, ai_11, bd_ok, bdd_ok, sat_ok, List.getElem?_cons_succ, List.getElem?_cons_zero, List.set_cons_succ, List.set_cons_zero, List.map_cons, List.map_nil, bd_bd, bdd_bd, bdd_bdd, bd_bdd, kc_eq, kd_eq, Int.reduceLT, Int.reduceLE, Int.reduceToNat, Int.reducePow, decide_true, decide_false, Bool.and_true, Bool.true_and, Bool.or_true, Bool.true_or, if_true, if_false, reduceCtorEq, andC_t, andC_f, orC_t, orC_f, Bool.not_true, Bool.not_false, ne_eq, not_true_eq_false, not_false_eq_true, Option.map_some, eq_self, compC_eq, compT_eq, compE_t, compE_f, wp_n, wp_c, evTs_n, evTs_1]
        exact draw_end rfl (q _ _ _ _ (Int.emod_nonneg _ (by omega)) (Int.emod_lt_of_pos _ (by omega)) (by omega) (Int.ediv_nonneg (by omega) (by omega)))
  · simp only [exs_n, exs_c, cf_nx, cf_rt, cf_bk, cf_ct, ex_nm, setC_eq, ex_tp, ex_sb, asgC_eq, at_nm, at_tp, at_sb, ats_n, ats_c, ex_exp, ex_ret, ex_retN, ex_pass, ex_brk, ex_cont, ex_par, ex_iff, iffC_t, iffC_f, iffC_n, ex_for, forC_eq, turnC_eq, ev_con, ev_glo, ev_var, ev_tup, ev_lst, ev_bin, ev_neg, ev_cmp, ev_sub, ev_call, ev_prim, primC_eq, ev_meth, ev_and, ev_or, ev_not, ev_ife, ifeC_t, ifeC_f, ev_slc, ev_new, newC_f, ev_comp, evs_n, evs_c, evT_eq, endC_rt, endC_nx, lk_int, lk_bl, lk_str, lk_non, lk_tup, lk_lst, lk_dct, lk_scr, lk_ref, fd_v, fd_f, tr_bl, tr_int, tr_non, tr_tup, tr_lst, tR_some, bR_some, vR_some, oI_some, gd_t, o_add, o_sub, o_mul, o_fdiv, o_mod, o_pow, o_addt, o_addl, o_adds, o_neg, c_eq, c_ne, c_lt, c_gt, c_le, c_ge, c_isn, c_notn, q_int, q_str, q_bl, q_map, i_tup, i_lst, ai_0, ai_1, ai_2, ai_3, ai_4, ai_5, ai_6, ai_7, ai_8, ai_9, ai_10, ai_11, bd_ok, bdd_ok, sat_ok, List.getElem?_cons_succ, List.getElem?_cons_zero, List.set_cons_succ, List.set_cons_zero, List.map_cons, List.map_nil, bd_bd, bdd_bd, bdd_bdd, bd_bdd, kc_eq, kd_eq, Int.reduceLT, Int.reduceLE, Int.reduceToNat, Int.reducePow, decide_true, decide_false, Bool.and_true, Bool.true_and, Bool.or_true, Bool.true_or, if_true, if_false, reduceCtorEq, andC_t, andC_f, orC_t, orC_f, Bool.not_true, Bool.not_false, ne_eq, not_true_eq_false, not_false_eq_true, Option.map_some, eq_self, compC_eq, compT_eq, compE_t, compE_f, wp_n, wp_c, evTs_n, evTs_1, hM, hs, List.set_set, getD_some', t_0, t_1, t_2, t_3, s_2, q_int1, q_max, hx]
    rw [gd_p (by rw [decide_eq_true (show (0 : Int) < max many 2 by omega), inW_i (by omega) (by omega)] <;> rfl)]
    simp only [exs_n, exs_c, cf_nx, cf_rt, cf_bk, cf_ct, ex_nm, setC_eq, ex_tp, ex_sb, asgC_eq, at_nm, at_tp, at_sb, ats_n, ats_c, ex_exp, ex_ret, ex_retN, ex_pass, ex_brk, ex_cont, ex_par, ex_iff, iffC_t, iffC_f, iffC_n, ex_for, forC_eq, turnC_eq, ev_con, ev_glo, ev_var, ev_tup, ev_lst, ev_bin, ev_neg, ev_cmp, ev_sub, ev_call, ev_prim, primC_eq, ev_meth, ev_and, ev_or, ev_not, ev_ife, ifeC_t, ifeC_f, ev_slc, ev_new, newC_f, ev_comp, evs_n, evs_c, evT_eq, endC_rt, endC_nx, lk_int, lk_bl, lk_str, lk_non, lk_tup, lk_lst, lk_dct, lk_scr, lk_ref, fd_v, fd_f, tr_bl, tr_int, tr_non, tr_tup, tr_lst, tR_some, bR_some, vR_some, oI_some, gd_t, o_add, o_sub, o_mul, o_fdiv, o_mod, o_pow, o_addt, o_addl, o_adds, o_neg, c_eq, c_ne, c_lt, c_gt, c_le, c_ge, c_isn, c_notn, q_int, q_str, q_bl, q_map, i_tup, i_lst, ai_0, ai_1, ai_2, ai_3, ai_4, ai_5, ai_6, ai_7, ai_8, ai_9, ai_10, ai_11, bd_ok, bdd_ok, sat_ok, List.getElem?_cons_succ, List.getElem?_cons_zero, List.set_cons_succ, List.set_cons_zero, List.map_cons, List.map_nil, bd_bd, bdd_bd, bdd_bdd, bd_bdd, kc_eq, kd_eq, Int.reduceLT, Int.reduceLE, Int.reduceToNat, Int.reducePow, decide_true, decide_false, Bool.and_true, Bool.true_and, Bool.or_true, Bool.true_or, if_true, if_false, reduceCtorEq, andC_t, andC_f, orC_t, orC_f, Bool.not_true, Bool.not_false, ne_eq, not_true_eq_false, not_false_eq_true, Option.map_some, eq_self, compC_eq, compT_eq, compE_t, compE_f, wp_n, wp_c, evTs_n, evTs_1, hM, hs, List.set_set, getD_some', t_0, t_1, t_2, t_3, s_2, q_int1, q_max, hx]
    rw [gd_p (decide_eq_true (by omega))]
    simp only [exs_n, exs_c, cf_nx, cf_rt, cf_bk, cf_ct, ex_nm, setC_eq, ex_tp, ex_sb, asgC_eq, at_nm, at_tp, at_sb, ats_n, ats_c, ex_exp, ex_ret, ex_retN, ex_pass, ex_brk, ex_cont, ex_par, ex_iff, iffC_t, iffC_f, iffC_n, ex_for, forC_eq, turnC_eq, ev_con, ev_glo, ev_var, ev_tup, ev_lst, ev_bin, ev_neg, ev_cmp, ev_sub, ev_call, ev_prim, primC_eq, ev_meth, ev_and, ev_or, ev_not, ev_ife, ifeC_t, ifeC_f, ev_slc, ev_new, newC_f, ev_comp, evs_n, evs_c, evT_eq, endC_rt, endC_nx, lk_int, lk_bl, lk_str, lk_non, lk_tup, lk_lst, lk_dct, lk_scr, lk_ref, fd_v, fd_f, tr_bl, tr_int, tr_non, tr_tup, tr_lst, tR_some, bR_some, vR_some, oI_some, gd_t, o_add, o_sub, o_mul, o_fdiv, o_mod, o_pow, o_addt, o_addl, o_adds, o_neg, c_eq, c_ne, c_lt, c_gt, c_le, c_ge, c_isn, c_notn, q_int, q_str, q_bl, q_map, i_tup, i_lst, ai_0, ai_1, ai_2, ai_3, ai_4, ai_5, ai_6, ai_7, ai_8, ai_9, ai_10, ai_11, bd_ok, bdd_ok, sat_ok, List.getElem?_cons_succ, List.getElem?_cons_zero, List.set_cons_succ, List.set_cons_zero, List.map_cons, List.map_nil, bd_bd, bdd_bd, bdd_bdd, bd_bdd, kc_eq, kd_eq, Int.reduceLT, Int.reduceLE, Int.reduceToNat, Int.reducePow, decide_true, decide_false, Bool.and_true, Bool.true_and, Bool.or_true, Bool.true_or, if_true, if_false, reduceCtorEq, andC_t, andC_f, orC_t, orC_f, Bool.not_true, Bool.not_false, ne_eq, not_true_eq_false, not_false_eq_true, Option.map_some, eq_self, compC_eq, compT_eq, compE_t, compE_f, wp_n, wp_c, evTs_n, evTs_1]
    exact draw_end rfl (q _ _ _ _ (Int.emod_nonneg _ (by omega)) (Int.emod_lt_of_pos _ (by omega)) hp (Int.ediv_nonneg hn (by omega)))
theorem is_tup_non  : isT .tup (.non) = some false := rfl
theorem is_tup_bl {b : Bool} : isT .tup (.bl b) = some false := rfl
theorem is_tup_int {i : Int} : isT .tup (.int i) = some false := rfl
theorem is_tup_str {z : Str} : isT .tup (.str z) = some false := rfl
theorem is_tup_tup {x : List D} : isT .tup (.tup x) = some true := rfl
theorem is_tup_lst {x : List D} : isT .tup (.lst x) = some false := rfl
theorem is_str_non  : isT .str (.non) = some false := rfl
theorem is_str_bl {b : Bool} : isT .str (.bl b) = some false := rfl
theorem is_str_int {i : Int} : isT .str (.int i) = some false := rfl
theorem is_str_str {z : Str} : isT .str (.str z) = some true := rfl
theorem is_str_tup {x : List D} : isT .str (.tup x) = some false := rfl
theorem is_str_lst {x : List D} : isT .str (.lst x) = some false := rfl
theorem is_bool_non  : isT .bool (.non) = some false := rfl
theorem is_bool_bl {b : Bool} : isT .bool (.bl b) = some true := rfl
theorem is_bool_int {i : Int} : isT .bool (.int i) = some false := rfl
theorem is_bool_str {z : Str} : isT .bool (.str z) = some false := rfl
theorem is_bool_tup {x : List D} : isT .bool (.tup x) = some false := rfl
theorem is_bool_lst {x : List D} : isT .bool (.lst x) = some false := rfl
theorem is_int_non  : isT .int (.non) = some false := rfl
theorem is_int_bl {b : Bool} : isT .int (.bl b) = some true := rfl
theorem is_int_int {i : Int} : isT .int (.int i) = some true := rfl
theorem is_int_str {z : Str} : isT .int (.str z) = some false := rfl
theorem is_int_tup {x : List D} : isT .int (.tup x) = some false := rfl
theorem is_int_lst {x : List D} : isT .int (.lst x) = some false := rfl
theorem m_pop {n j : Nat} {xs : List D} {d : D} {M : Store} (h : xs[j]? = some d) : methS .popAt (.ref n) (.lst xs) [.int j] M = .ok (.v d) (M.set n (.lst (xs.eraseIdx j))) := by
  have hj := (List.getElem?_eq_some_iff.mp h).1
  have e : L2.ixN xs.length (j : Int) = some j := by
    unfold L2.ixN
    rw [if_pos (by omega), if_pos (by omega)] <;> rfl
  show (match L2.ixN xs.length (j : Int) with
    | some k => (match xs[k]? with
      | some d => Rs.ok (FV.v d) (M.set n (.lst (xs.eraseIdx k)))
      | none => .no)
    | none => .no) = _
  rw [e]
  simp only []
  rw [h]
theorem m_app {n : Nat} {xs : List D} {d : D} {M : Store} (h : xs.length < sl) : methS .append (.ref n) (.lst xs) [d] M = .ok (.v .non) (M.set n (.lst (xs ++ [d]))) := by
  show guardR (decide (xs.length < sl)) _ = _
  rw [decide_eq_true h] <;> rfl
theorem k_app {xs : List D} : mthK .append (.lst xs) = true := rfl
theorem k_pop {xs : List D} : mthK .popAt (.lst xs) = true := rfl
theorem k_get1 {ks : List Key} {xs : List D} : mthK .get1 (.dct ks xs) = true := rfl
theorem k_get2 {ks : List Key} {xs : List D} : mthK .get2 (.dct ks xs) = true := rfl
theorem q_list {xs : List D} {ds : List D} {M : Store} : primS .list1 [.lst xs] ds M = .ok (.f (.lst xs)) M := rfl
theorem q_listt {xs : List D} {ds : List D} {M : Store} : primS .list1 [.tup xs] ds M = .ok (.f (.lst xs)) M := rfl
theorem q_lists {xs : List Int} {ds : List D} {M : Store} : primS .list1 [.scr xs] ds M = .ok (.f (.lst (xs.map .int))) M := rfl
theorem q_tuple {xs : List D} {ds : List D} {M : Store} : primS .tuple1 [.lst xs] ds M = .ok (.v (.tup xs)) M := rfl
theorem q_str1 {i : Int} {ds : List D} {M : Store} : primS .str1 [.int i] ds M = guardR (inW i) (.ok (.v (.str (toString i))) M) := rfl
theorem w_rng1 {n : Int} {ds : List D} {M : Store} : itS .rng1 [.int n] ds M = guardR (inR n) (.ok (rngD 0 n, []) M) := rfl
theorem w_rng2 {a n : Int} {ds : List D} {M : Store} : itS .rng2 [.int a, .int n] ds M = guardR (inR a && inR n) (.ok (rngD a n, []) M) := rfl
theorem w_scr {xs : List Int} {M : Store} : itS .seq [.scr xs] [.scr xs] M = .ok (xs.map .int, []) M := rfl
theorem w_tup {xs : List D} {M : Store} : itS .seq [.tup xs] [.tup xs] M = .ok (xs, []) M := rfl
theorem w_lst {xs : List D} {M : Store} : itS .seq [.lst xs] [.lst xs] M = .ok (xs, []) M := rfl
theorem w_lstr {xs : List D} {M : Store} {n : Nat} : itS .seq [.lst xs] [.ref n] M = .ok (xs, [(n, .lst xs)]) M := rfl
theorem inR_i {i : Int} (h1 : -(2 ^ 62) ≤ i) (h2 : i < 2 ^ 62) : inR i = true := by
  unfold inR
  split
  · rename_i n
    have e : Int.ofNat n = (n : Int) := rfl
    exact Nat.ble_eq_true_of_le (by omega)
  · rename_i n
    have e := Int.negSucc_eq n
    exact Nat.ble_eq_true_of_le (by omega)
theorem leS_i {i : Int} (h : i ≤ 16777216) : leS i = true := Nat.ble_eq_true_of_le (by show i.toNat ≤ 16777216; omega)
theorem rng_get {n : Int} {i : Nat} {d : D} (h : (rngD 0 n)[i]? = some d) : d = .int i ∧ (i : Int) < n := by
  unfold rngD at h
  rw [List.getElem?_map] at h
  have hi : i < (List.range (n - 0).toNat).length := by
    cases q : (List.range (n - 0).toNat)[i]? with
    | none => rw [q] at h; cases h
    | some j => exact (List.getElem?_eq_some_iff.mp q).1
  rw [List.length_range] at hi
  rw [List.getElem?_range hi] at h
  cases h
  exact ⟨by simp, by omega⟩
theorem rng_len {n : Nat} : (rngD 0 (n : Int)).length = n := by
  unfold rngD
  rw [List.length_map, List.length_range]
  omega
theorem okG_n {M : Store} : okG [] M = true := rfl

/-! ### the tape, picks, shuffles -/
theorem tape_sat {fs : List Fn} {gl : Nat → D} {f k : Nat} (hf : fs[f]? = some ⟨1, 3, B_law_tape⟩) {M : Store} {ns : List Int} {Q : FV → Store → Prop} (q : ∀ m, Q (.f (TapeD ns 0 0 m)) M) : (callF fs gl (k + 1) f [.scr ns] M).sat Q := by
  have h31 : inW 31 = true := by decide
  rw [call_eq hf, run_eq rfl]
  show ((exs _ B_law_tape [some (.scr ns), none, none] M).bd (endC M)).sat Q
  unfold B_law_tape
  simp only [exs_n, exs_c, cf_nx, cf_rt, cf_bk, cf_ct, ex_nm, setC_eq, ex_tp, ex_sb, asgC_eq, at_nm, at_tp, at_sb, ats_n, ats_c, ex_exp, ex_ret, ex_retN, ex_pass, ex_brk, ex_cont, ex_par, ex_iff, iffC_t, iffC_f, iffC_n, ex_for, forC_eq, turnC_eq, ev_con, ev_glo, ev_var, ev_tup, ev_lst, ev_bin, ev_neg, ev_cmp, ev_sub, ev_call, ev_prim, primC_eq, ev_meth, ev_and, ev_or, ev_not, ev_ife, ifeC_t, ifeC_f, ev_slc, ev_new, newC_f, ev_comp, evs_n, evs_c, evT_eq, endC_rt, endC_nx, lk_int, lk_bl, lk_str, lk_non, lk_tup, lk_lst, lk_dct, lk_scr, lk_ref, fd_v, fd_f, tr_bl, tr_int, tr_non, tr_tup, tr_lst, tR_some, bR_some, vR_some, oI_some, gd_t, o_add, o_sub, o_mul, o_fdiv, o_mod, o_pow, o_addt, o_addl, o_adds, o_neg, c_eq, c_ne, c_lt, c_gt, c_le, c_ge, c_isn, c_notn, q_int, q_str, q_bl, q_map, i_tup, i_lst, ai_0, ai_1, ai_2, ai_3, ai_4, ai_5, ai_6, ai_7, ai_8, ai_9, ai_10, ai_11, bd_ok, bdd_ok, sat_ok, List.getElem?_cons_succ, List.getElem?_cons_zero, List.set_cons_succ, List.set_cons_zero, List.map_cons, List.map_nil, bd_bd, bdd_bd, bdd_bdd, bd_bdd, kc_eq, kd_eq, Int.reduceLT, Int.reduceLE, Int.reduceToNat, Int.reducePow, decide_true, decide_false, Bool.and_true, Bool.true_and, Bool.or_true, Bool.true_or, if_true, if_false, reduceCtorEq, andC_t, andC_f, orC_t, orC_f, Bool.not_true, Bool.not_false, ne_eq, not_true_eq_false, not_false_eq_true, Option.map_some, eq_self, compC_eq, compT_eq, compE_t, compE_f, wp_n, wp_c, evTs_n, evTs_1, w_scr]
  refine sat_bd (P := fun f N => N = M ∧ ∃ (m : Int) (o : Option D), f = .nx [some (.scr ns), some (.int m), o]) (for_i (fun i ρ N => N = M ∧ ∃ (m : Int) (o : Option D), ρ = [some (.scr ns), some (.int m), o]) ⟨rfl, _, _, rfl⟩ (fun _ _ _ _ _ => okG_n) (fun i ρ N d hd w => ?_) fun ρ N w => ?_) fun f N w => ?_
  · obtain ⟨rfl, m, o, rfl⟩ := w
    rw [List.getElem?_map, Option.map_eq_some_iff] at hd
    obtain ⟨z, _, rfl⟩ := hd
    simp only [exs_n, exs_c, cf_nx, cf_rt, cf_bk, cf_ct, ex_nm, setC_eq, ex_tp, ex_sb, asgC_eq, at_nm, at_tp, at_sb, ats_n, ats_c, ex_exp, ex_ret, ex_retN, ex_pass, ex_brk, ex_cont, ex_par, ex_iff, iffC_t, iffC_f, iffC_n, ex_for, forC_eq, turnC_eq, ev_con, ev_glo, ev_var, ev_tup, ev_lst, ev_bin, ev_neg, ev_cmp, ev_sub, ev_call, ev_prim, primC_eq, ev_meth, ev_and, ev_or, ev_not, ev_ife, ifeC_t, ifeC_f, ev_slc, ev_new, newC_f, ev_comp, evs_n, evs_c, evT_eq, endC_rt, endC_nx, lk_int, lk_bl, lk_str, lk_non, lk_tup, lk_lst, lk_dct, lk_scr, lk_ref, fd_v, fd_f, tr_bl, tr_int, tr_non, tr_tup, tr_lst, tR_some, bR_some, vR_some, oI_some, gd_t, o_add, o_sub, o_mul, o_fdiv, o_mod, o_pow, o_addt, o_addl, o_adds, o_neg, c_eq, c_ne, c_lt, c_gt, c_le, c_ge, c_isn, c_notn, q_int, q_str, q_bl, q_map, i_tup, i_lst, ai_0, ai_1, ai_2, ai_3, ai_4, ai_5, ai_6, ai_7, ai_8, ai_9, ai_10, ai_11, bd_ok, bdd_ok, sat_ok, List.getElem?_cons_succ, List.getElem?_cons_zero, List.set_cons_succ, List.set_cons_zero, List.map_cons, List.map_nil, bd_bd, bdd_bd, bdd_bdd, bd_bdd, kc_eq, kd_eq, Int.reduceLT, Int.reduceLE, Int.reduceToNat, Int.reducePow, decide_true, decide_false, Bool.and_true, Bool.true_and, Bool.or_true, Bool.true_or, if_true, if_false, reduceCtorEq, andC_t, andC_f, orC_t, orC_f, Bool.not_true, Bool.not_false, ne_eq, not_true_eq_false, not_false_eq_true, Option.map_some, eq_self, compC_eq, compT_eq, compE_t, compE_f, wp_n, wp_c, evTs_n, evTs_1, q_int1, q_abs, h31]
    exact ⟨by trivial, _, _, rfl⟩
  · obtain ⟨rfl, m, o, rfl⟩ := w
    exact ⟨rfl, m, o, rfl⟩
  · obtain ⟨rfl, m, o, rfl⟩ := w
    simp only [exs_n, exs_c, cf_nx, cf_rt, cf_bk, cf_ct, ex_nm, setC_eq, ex_tp, ex_sb, asgC_eq, at_nm, at_tp, at_sb, ats_n, ats_c, ex_exp, ex_ret, ex_retN, ex_pass, ex_brk, ex_cont, ex_par, ex_iff, iffC_t, iffC_f, iffC_n, ex_for, forC_eq, turnC_eq, ev_con, ev_glo, ev_var, ev_tup, ev_lst, ev_bin, ev_neg, ev_cmp, ev_sub, ev_call, ev_prim, primC_eq, ev_meth, ev_and, ev_or, ev_not, ev_ife, ifeC_t, ifeC_f, ev_slc, ev_new, newC_f, ev_comp, evs_n, evs_c, evT_eq, endC_rt, endC_nx, lk_int, lk_bl, lk_str, lk_non, lk_tup, lk_lst, lk_dct, lk_scr, lk_ref, fd_v, fd_f, tr_bl, tr_int, tr_non, tr_tup, tr_lst, tR_some, bR_some, vR_some, oI_some, gd_t, o_add, o_sub, o_mul, o_fdiv, o_mod, o_pow, o_addt, o_addl, o_adds, o_neg, c_eq, c_ne, c_lt, c_gt, c_le, c_ge, c_isn, c_notn, q_int, q_str, q_bl, q_map, i_tup, i_lst, ai_0, ai_1, ai_2, ai_3, ai_4, ai_5, ai_6, ai_7, ai_8, ai_9, ai_10, ai_11, bd_ok, bdd_ok, sat_ok, List.getElem?_cons_succ, List.getElem?_cons_zero, List.set_cons_succ, List.set_cons_zero, List.map_cons, List.map_nil, bd_bd, bdd_bd, bdd_bdd, bd_bdd, kc_eq, kd_eq, Int.reduceLT, Int.reduceLE, Int.reduceToNat, Int.reducePow, decide_true, decide_false, Bool.and_true, Bool.true_and, Bool.or_true, Bool.true_or, if_true, if_false, reduceCtorEq, andC_t, andC_f, orC_t, orC_f, Bool.not_true, Bool.not_false, ne_eq, not_true_eq_false, not_false_eq_true, Option.map_some, eq_self, compC_eq, compT_eq, compE_t, compE_f, wp_n, wp_c, evTs_n, evTs_1, q_lists]
    exact exit_pf (by simp [D.scp, D.scps, scps_ints]) (q m)
def pickD (xs : List D) (L : Nat) : Prop := ∀ d ∈ xs, notRef d = true ∧ d.scp L = true
theorem set_out {M : Store} {t n : Nat} {d : D} (h : t ≠ n) : (M.set t d)[n]? = M[n]? := List.getElem?_set_ne h
theorem exit_tape {M N : Store} {t : Nat} {ns : List Int} {p n m : Int} {d : D} {Q : FV → Store → Prop} (hN : N = M.set t (TapeD ns p n m)) (hr : notRef d = true) (hs : d.scp M.length = true) (q : Q (.v d) N) : (exitC M (.v d) N).sat Q := by
  subst hN
  refine exit_v hr hs (sameB_of (by simp) fun i d hi e => ?_) ?_
  · by_cases h : t = i
    · subst h
      rw [List.getElem?_set_self hi] at e
      cases e
      exact .inr tape_scp
    · rw [List.getElem?_set_ne h] at e
      exact .inl e
  · rw [List.take_of_length_le (by simp)]
    exact q
/-- what a menu is, whatever the tape -/
def MenuIs (M : Store) (t : Nat) (menu : D) (x : D) : Prop := look M menu = x ∧ ∀ d, look (M.set t d) menu = x
theorem menu_lst {M : Store} {t : Nat} {xs : List D} : MenuIs M t (.lst xs) (.lst xs) := ⟨rfl, fun _ => rfl⟩
theorem menu_tup {M : Store} {t : Nat} {xs : List D} : MenuIs M t (.tup xs) (.tup xs) := ⟨rfl, fun _ => rfl⟩
theorem menu_ref {M : Store} {t s : Nat} {x : D} (h : M[s]? = some x) (hs : t ≠ s) : MenuIs M t (.ref s) x := by
  refine ⟨?_, fun d => ?_⟩
  · show (M[s]?).getD .non = x
    rw [h] <;> rfl
  · show ((M.set t d)[s]?).getD .non = x
    rw [List.getElem?_set_ne hs, h] <;> rfl
theorem pick_sat {fs : List Fn} {gl : Nat → D} {f c k : Nat} (hf : fs[f]? = some ⟨2, 2, B_law_pick c⟩) (hc : fs[c]? = some ⟨2, 4, B_law_draw⟩) {M : Store} {t : Nat} {ns : List Int} {p n m : Int} (hM : M[t]? = some (TapeD ns p n m)) (hp : 0 ≤ p) (hn : 0 ≤ n)
    {xs : List D} {menu : D} (hm : MenuIs M t menu (.lst xs) ∨ MenuIs M t menu (.tup xs)) (h0 : 0 < xs.length) (h1 : xs.length < 2 ^ 62) (hx : pickD xs M.length) {Q : FV → Store → Prop} (q : ∀ (i : Nat) (d : D) (p' n' m' : Int), xs[i]? = some d → 0 ≤ p' → 0 ≤ n' → Q (.v d) (M.set t (TapeD ns p' n' m'))) : (callF fs gl (k + 2) f [.ref t, menu] M).sat Q := by
  rw [call_eq hf, run_eq rfl]
  show ((exs _ (B_law_pick c) [some (.ref t), some menu] M).bd (endC M)).sat Q
  unfold B_law_pick
  have fin : ∀ x p' n' m', 0 ≤ x → x < max (xs.length : Int) 1 → 0 ≤ p' → 0 ≤ n' → ∃ d, L2.atI xs x = some d ∧ (exitC M (.v d) (M.set t (TapeD ns p' n' m'))).sat Q := by
    intro x p' n' m' hx0 hx1 hp' hn'
    obtain ⟨j, rfl⟩ := Int.eq_ofNat_of_zero_le hx0
    have hj : j < xs.length := by omega
    have hd : xs[j]? = some xs[j] := List.getElem?_eq_getElem hj
    refine ⟨xs[j], atI_nat hd, ?_⟩
    obtain ⟨r1, r2⟩ := hx _ (List.getElem_mem hj)
    exact exit_tape rfl r1 r2 (q j _ p' n' m' hd hp' hn')
  rcases hm with ⟨hm1, hm2⟩ | ⟨hm1, hm2⟩
  · simp only [exs_n, exs_c, cf_nx, cf_rt, cf_bk, cf_ct, ex_nm, setC_eq, ex_tp, ex_sb, asgC_eq, at_nm, at_tp, at_sb, ats_n, ats_c, ex_exp, ex_ret, ex_retN, ex_pass, ex_brk, ex_cont, ex_par, ex_iff, iffC_t, iffC_f, iffC_n, ex_for, forC_eq, turnC_eq, ev_con, ev_glo, ev_var, ev_tup, ev_lst, ev_bin, ev_neg, ev_cmp, ev_sub, ev_call, ev_prim, primC_eq, ev_meth, ev_and, ev_or, ev_not, ev_ife, ifeC_t, ifeC_f, ev_slc, ev_new, newC_f, ev_comp, evs_n, evs_c, evT_eq, endC_rt, endC_nx, lk_int, lk_bl, lk_str, lk_non, lk_tup, lk_lst, lk_dct, lk_scr, lk_ref, fd_v, fd_f, tr_bl, tr_int, tr_non, tr_tup, tr_lst, tR_some, bR_some, vR_some, oI_some, gd_t, o_add, o_sub, o_mul, o_fdiv, o_mod, o_pow, o_addt, o_addl, o_adds, o_neg, c_eq, c_ne, c_lt, c_gt, c_le, c_ge, c_isn, c_notn, q_int, q_str, q_bl, q_map, i_tup, i_lst, ai_0, ai_1, ai_2, ai_3, ai_4, ai_5, ai_6, ai_7, ai_8, ai_9, ai_10, ai_11, bd_ok, bdd_ok, sat_ok, List.getElem?_cons_succ, List.getElem?_cons_zero, List.set_cons_succ, List.set_cons_zero, List.map_cons, List.map_nil, bd_bd, bdd_bd, bdd_bdd, bd_bdd, kc_eq, kd_eq, Int.reduceLT, Int.reduceLE, Int.reduceToNat, Int.reducePow, decide_true, decide_false, Bool.and_true, Bool.true_and, Bool.or_true, Bool.true_or, if_true, if_false, reduceCtorEq, andC_t, andC_f, orC_t, orC_f, Bool.not_true, Bool.not_false, ne_eq, not_true_eq_false, not_false_eq_true, Option.map_some, eq_self, compC_eq, compT_eq, compE_t, compE_f, wp_n, wp_c, evTs_n, evTs_1, hm1, q_len]
    refine sat_bddq (draw_sat hc hM hp hn (by omega) fun x p' n' m' hx0 hx1 hp' hn' => ?_)
    obtain ⟨d, e, z⟩ := fin x p' n' m' hx0 hx1 hp' hn'
    simp only [exs_n, exs_c, cf_nx, cf_rt, cf_bk, cf_ct, ex_nm, setC_eq, ex_tp, ex_sb, asgC_eq, at_nm, at_tp, at_sb, ats_n, ats_c, ex_exp, ex_ret, ex_retN, ex_pass, ex_brk, ex_cont, ex_par, ex_iff, iffC_t, iffC_f, iffC_n, ex_for, forC_eq, turnC_eq, ev_con, ev_glo, ev_var, ev_tup, ev_lst, ev_bin, ev_neg, ev_cmp, ev_sub, ev_call, ev_prim, primC_eq, ev_meth, ev_and, ev_or, ev_not, ev_ife, ifeC_t, ifeC_f, ev_slc, ev_new, newC_f, ev_comp, evs_n, evs_c, evT_eq, endC_rt, endC_nx, lk_int, lk_bl, lk_str, lk_non, lk_tup, lk_lst, lk_dct, lk_scr, lk_ref, fd_v, fd_f, tr_bl, tr_int, tr_non, tr_tup, tr_lst, tR_some, bR_some, vR_some, oI_some, gd_t, o_add, o_sub, o_mul, o_fdiv, o_mod, o_pow, o_addt, o_addl, o_adds, o_neg, c_eq, c_ne, c_lt, c_gt, c_le, c_ge, c_isn, c_notn, q_int, q_str, q_bl, q_map, i_tup, i_lst, ai_0, ai_1, ai_2, ai_3, ai_4, ai_5, ai_6, ai_7, ai_8, ai_9, ai_10, ai_11, bd_ok, bdd_ok, sat_ok, List.getElem?_cons_succ, List.getElem?_cons_zero, List.set_cons_succ, List.set_cons_zero, List.map_cons, List.map_nil, bd_bd, bdd_bd, bdd_bdd, bd_bdd, kc_eq, kd_eq, Int.reduceLT, Int.reduceLE, Int.reduceToNat, Int.reducePow, decide_true, decide_false, Bool.and_true, Bool.true_and, Bool.or_true, Bool.true_or, if_true, if_false, reduceCtorEq, andC_t, andC_f, orC_t, orC_f, Bool.not_true, Bool.not_false, ne_eq, not_true_eq_false, not_false_eq_true, Option.map_some, eq_self, compC_eq, compT_eq, compE_t, compE_f, wp_n, wp_c, evTs_n, evTs_1, hm2, e]
    exact z
  · simp only [exs_n, exs_c, cf_nx, cf_rt, cf_bk, cf_ct, ex_nm, setC_eq, ex_tp, ex_sb, asgC_eq, at_nm, at_tp, at_sb, ats_n, ats_c, ex_exp, ex_ret, ex_retN, ex_pass, ex_brk, ex_cont, ex_par, ex_iff, iffC_t, iffC_f, iffC_n, ex_for, forC_eq, turnC_eq, ev_con, ev_glo, ev_var, ev_tup, ev_lst, ev_bin, ev_neg, ev_cmp, ev_sub, ev_call, ev_prim, primC_eq, ev_meth, ev_and, ev_or, ev_not, ev_ife, ifeC_t, ifeC_f, ev_slc, ev_new, newC_f, ev_comp, evs_n, evs_c, evT_eq, endC_rt, endC_nx, lk_int, lk_bl, lk_str, lk_non, lk_tup, lk_lst, lk_dct, lk_scr, lk_ref, fd_v, fd_f, tr_bl, tr_int, tr_non, tr_tup, tr_lst, tR_some, bR_some, vR_some, oI_some, gd_t, o_add, o_sub, o_mul, o_fdiv, o_mod, o_pow, o_addt, o_addl, o_adds, o_neg, c_eq, c_ne, c_lt, c_gt, c_le, c_ge, c_isn, c_notn, q_int, q_str, q_bl, q_map, i_tup, i_lst, ai_0, ai_1, ai_2, ai_3, ai_4, ai_5, ai_6, ai_7, ai_8, ai_9, ai_10, ai_11, bd_ok, bdd_ok, sat_ok, List.getElem?_cons_succ, List.getElem?_cons_zero, List.set_cons_succ, List.set_cons_zero, List.map_cons, List.map_nil, bd_bd, bdd_bd, bdd_bdd, bd_bdd, kc_eq, kd_eq, Int.reduceLT, Int.reduceLE, Int.reduceToNat, Int.reducePow, decide_true, decide_false, Bool.and_true, Bool.true_and, Bool.or_true, Bool.true_or, if_true, if_false, reduceCtorEq, andC_t, andC_f, orC_t, orC_f, Bool.not_true, Bool.not_false, ne_eq, not_true_eq_false, not_false_eq_true, Option.map_some, eq_self, compC_eq, compT_eq, compE_t, compE_f, wp_n, wp_c, evTs_n, evTs_1, hm1, q_lent]
    refine sat_bddq (draw_sat hc hM hp hn (by omega) fun x p' n' m' hx0 hx1 hp' hn' => ?_)
    obtain ⟨d, e, z⟩ := fin x p' n' m' hx0 hx1 hp' hn'
    simp only [exs_n, exs_c, cf_nx, cf_rt, cf_bk, cf_ct, ex_nm, setC_eq, ex_tp, ex_sb, asgC_eq, at_nm, at_tp, at_sb, ats_n, ats_c, ex_exp, ex_ret, ex_retN, ex_pass, ex_brk, ex_cont, ex_par, ex_iff, iffC_t, iffC_f, iffC_n, ex_for, forC_eq, turnC_eq, ev_con, ev_glo, ev_var, ev_tup, ev_lst, ev_bin, ev_neg, ev_cmp, ev_sub, ev_call, ev_prim, primC_eq, ev_meth, ev_and, ev_or, ev_not, ev_ife, ifeC_t, ifeC_f, ev_slc, ev_new, newC_f, ev_comp, evs_n, evs_c, evT_eq, endC_rt, endC_nx, lk_int, lk_bl, lk_str, lk_non, lk_tup, lk_lst, lk_dct, lk_scr, lk_ref, fd_v, fd_f, tr_bl, tr_int, tr_non, tr_tup, tr_lst, tR_some, bR_some, vR_some, oI_some, gd_t, o_add, o_sub, o_mul, o_fdiv, o_mod, o_pow, o_addt, o_addl, o_adds, o_neg, c_eq, c_ne, c_lt, c_gt, c_le, c_ge, c_isn, c_notn, q_int, q_str, q_bl, q_map, i_tup, i_lst, ai_0, ai_1, ai_2, ai_3, ai_4, ai_5, ai_6, ai_7, ai_8, ai_9, ai_10, ai_11, bd_ok, bdd_ok, sat_ok, List.getElem?_cons_succ, List.getElem?_cons_zero, List.set_cons_succ, List.set_cons_zero, List.map_cons, List.map_nil, bd_bd, bdd_bd, bdd_bdd, bd_bdd, kc_eq, kd_eq, Int.reduceLT, Int.reduceLE, Int.reduceToNat, Int.reducePow, decide_true, decide_false, Bool.and_true, Bool.true_and, Bool.or_true, Bool.true_or, if_true, if_false, reduceCtorEq, andC_t, andC_f, orC_t, orC_f, Bool.not_true, Bool.not_false, ne_eq, not_true_eq_false, not_false_eq_true, Option.map_some, eq_self, compC_eq, compT_eq, compE_t, compE_f, wp_n, wp_c, evTs_n, evTs_1, hm2, e]
    exact z

/-! ### told and wanted -/
/-- data without lists, k tuples deep -/
def smp : Nat → D → Bool
  | _, .non => true
  | _, .bl _ => true
  | _, .int _ => true
  | _, .str _ => true
  | k + 1, .tup xs => xs.all (smp k) && inR xs.length
  | _, _ => false
theorem same_ok {fs : List Fn} {gl : Nat → D} {f : Nat} (hf : fs[f]? = some ⟨2, 3, B_law_same f⟩) : ∀ (k : Nat) (d : D) (M : Store), smp k d = true → callF fs gl (k + 1) f [d, d] M = .ok (.v (.bl true)) M := by
  intro k
  induction k with
  | zero =>
    intro d M h
    refine eq_sat ?_
    rw [call_eq hf, run_eq rfl]
    show ((exs _ (B_law_same f) [some d, some d, none] M).bd (endC M)).sat _
    unfold B_law_same
    cases d <;> first | (simp [smp] at h; done) | skip
    all_goals
      simp only [exs_n, exs_c, cf_nx, cf_rt, cf_bk, cf_ct, ex_nm, setC_eq, ex_tp, ex_sb, asgC_eq, at_nm, at_tp, at_sb, ats_n, ats_c, ex_exp, ex_ret, ex_retN, ex_pass, ex_brk, ex_cont, ex_par, ex_iff, iffC_t, iffC_f, iffC_n, ex_for, forC_eq, turnC_eq, ev_con, ev_glo, ev_var, ev_tup, ev_lst, ev_bin, ev_neg, ev_cmp, ev_sub, ev_call, ev_prim, primC_eq, ev_meth, ev_and, ev_or, ev_not, ev_ife, ifeC_t, ifeC_f, ev_slc, ev_new, newC_f, ev_comp, evs_n, evs_c, evT_eq, endC_rt, endC_nx, lk_int, lk_bl, lk_str, lk_non, lk_tup, lk_lst, lk_dct, lk_scr, lk_ref, fd_v, fd_f, tr_bl, tr_int, tr_non, tr_tup, tr_lst, tR_some, bR_some, vR_some, oI_some, gd_t, o_add, o_sub, o_mul, o_fdiv, o_mod, o_pow, o_addt, o_addl, o_adds, o_neg, c_eq, c_ne, c_lt, c_gt, c_le, c_ge, c_isn, c_notn, q_int, q_str, q_bl, q_map, i_tup, i_lst, ai_0, ai_1, ai_2, ai_3, ai_4, ai_5, ai_6, ai_7, ai_8, ai_9, ai_10, ai_11, bd_ok, bdd_ok, sat_ok, List.getElem?_cons_succ, List.getElem?_cons_zero, List.set_cons_succ, List.set_cons_zero, List.map_cons, List.map_nil, bd_bd, bdd_bd, bdd_bdd, bd_bdd, kc_eq, kd_eq, Int.reduceLT, Int.reduceLE, Int.reduceToNat, Int.reducePow, decide_true, decide_false, Bool.and_true, Bool.true_and, Bool.or_true, Bool.true_or, if_true, if_false, reduceCtorEq, andC_t, andC_f, orC_t, orC_f, Bool.not_true, Bool.not_false, ne_eq, not_true_eq_false, not_false_eq_true, Option.map_some, eq_self, compC_eq, compT_eq, compE_t, compE_f, wp_n, wp_c, evTs_n, evTs_1, q_isi, is_tup_non, is_tup_bl, is_tup_int, is_tup_str, is_tup_tup, is_tup_lst, is_str_non, is_str_bl, is_str_int, is_str_str, is_str_tup, is_str_lst, is_bool_non, is_bool_bl, is_bool_int, is_bool_str, is_bool_tup, is_bool_lst, is_int_non, is_int_bl, is_int_int, is_int_str, is_int_tup, is_int_lst]
      exact exit_p rfl rfl ⟨rfl, rfl⟩
  | succ k ih =>
    intro d M h
    refine eq_sat ?_
    rw [call_eq hf, run_eq rfl]
    show ((exs _ (B_law_same f) [some d, some d, none] M).bd (endC M)).sat _
    unfold B_law_same
    cases d with
    | tup xs =>
      simp only [smp, Bool.and_eq_true, List.all_eq_true, decide_eq_true_eq] at h
      simp only [exs_n, exs_c, cf_nx, cf_rt, cf_bk, cf_ct, ex_nm, setC_eq, ex_tp, ex_sb, asgC_eq, at_nm, at_tp, at_sb, ats_n, ats_c, ex_exp, ex_ret, ex_retN, ex_pass, ex_brk, ex_cont, ex_par, ex_iff, iffC_t, iffC_f, iffC_n, ex_for, forC_eq, turnC_eq, ev_con, ev_glo, ev_var, ev_tup, ev_lst, ev_bin, ev_neg, ev_cmp, ev_sub, ev_call, ev_prim, primC_eq, ev_meth, ev_and, ev_or, ev_not, ev_ife, ifeC_t, ifeC_f, ev_slc, ev_new, newC_f, ev_comp, evs_n, evs_c, evT_eq, endC_rt, endC_nx, lk_int, lk_bl, lk_str, lk_non, lk_tup, lk_lst, lk_dct, lk_scr, lk_ref, fd_v, fd_f, tr_bl, tr_int, tr_non, tr_tup, tr_lst, tR_some, bR_some, vR_some, oI_some, gd_t, o_add, o_sub, o_mul, o_fdiv, o_mod, o_pow, o_addt, o_addl, o_adds, o_neg, c_eq, c_ne, c_lt, c_gt, c_le, c_ge, c_isn, c_notn, q_int, q_str, q_bl, q_map, i_tup, i_lst, ai_0, ai_1, ai_2, ai_3, ai_4, ai_5, ai_6, ai_7, ai_8, ai_9, ai_10, ai_11, bd_ok, bdd_ok, sat_ok, List.getElem?_cons_succ, List.getElem?_cons_zero, List.set_cons_succ, List.set_cons_zero, List.map_cons, List.map_nil, bd_bd, bdd_bd, bdd_bdd, bd_bdd, kc_eq, kd_eq, Int.reduceLT, Int.reduceLE, Int.reduceToNat, Int.reducePow, decide_true, decide_false, Bool.and_true, Bool.true_and, Bool.or_true, Bool.true_or, if_true, if_false, reduceCtorEq, andC_t, andC_f, orC_t, orC_f, Bool.not_true, Bool.not_false, ne_eq, not_true_eq_false, not_false_eq_true, Option.map_some, eq_self, compC_eq, compT_eq, compE_t, compE_f, wp_n, wp_c, evTs_n, evTs_1, q_isi, is_tup_non, is_tup_bl, is_tup_int, is_tup_str, is_tup_tup, is_tup_lst, is_str_non, is_str_bl, is_str_int, is_str_str, is_str_tup, is_str_lst, is_bool_non, is_bool_bl, is_bool_int, is_bool_str, is_bool_tup, is_bool_lst, is_int_non, is_int_bl, is_int_int, is_int_str, is_int_tup, is_int_lst, q_lent, w_rng1]
      rw [gd_p h.2]
      simp only [exs_n, exs_c, cf_nx, cf_rt, cf_bk, cf_ct, ex_nm, setC_eq, ex_tp, ex_sb, asgC_eq, at_nm, at_tp, at_sb, ats_n, ats_c, ex_exp, ex_ret, ex_retN, ex_pass, ex_brk, ex_cont, ex_par, ex_iff, iffC_t, iffC_f, iffC_n, ex_for, forC_eq, turnC_eq, ev_con, ev_glo, ev_var, ev_tup, ev_lst, ev_bin, ev_neg, ev_cmp, ev_sub, ev_call, ev_prim, primC_eq, ev_meth, ev_and, ev_or, ev_not, ev_ife, ifeC_t, ifeC_f, ev_slc, ev_new, newC_f, ev_comp, evs_n, evs_c, evT_eq, endC_rt, endC_nx, lk_int, lk_bl, lk_str, lk_non, lk_tup, lk_lst, lk_dct, lk_scr, lk_ref, fd_v, fd_f, tr_bl, tr_int, tr_non, tr_tup, tr_lst, tR_some, bR_some, vR_some, oI_some, gd_t, o_add, o_sub, o_mul, o_fdiv, o_mod, o_pow, o_addt, o_addl, o_adds, o_neg, c_eq, c_ne, c_lt, c_gt, c_le, c_ge, c_isn, c_notn, q_int, q_str, q_bl, q_map, i_tup, i_lst, ai_0, ai_1, ai_2, ai_3, ai_4, ai_5, ai_6, ai_7, ai_8, ai_9, ai_10, ai_11, bd_ok, bdd_ok, sat_ok, List.getElem?_cons_succ, List.getElem?_cons_zero, List.set_cons_succ, List.set_cons_zero, List.map_cons, List.map_nil, bd_bd, bdd_bd, bdd_bdd, bd_bdd, kc_eq, kd_eq, Int.reduceLT, Int.reduceLE, Int.reduceToNat, Int.reducePow, decide_true, decide_false, Bool.and_true, Bool.true_and, Bool.or_true, Bool.true_or, if_true, if_false, reduceCtorEq, andC_t, andC_f, orC_t, orC_f, Bool.not_true, Bool.not_false, ne_eq, not_true_eq_false, not_false_eq_true, Option.map_some, eq_self, compC_eq, compT_eq, compE_t, compE_f, wp_n, wp_c, evTs_n, evTs_1]
      refine sat_bd (P := fun f N => N = M ∧ ∃ o : Option D, f = .nx [some (.tup xs), some (.tup xs), o]) (for_i (fun i ρ N => N = M ∧ ∃ o : Option D, ρ = [some (.tup xs), some (.tup xs), o]) ⟨rfl, _, rfl⟩ (fun _ _ _ _ _ => okG_n) (fun i ρ N d hd w => ?_) fun ρ N w => ?_) fun f N w => ?_
      · obtain ⟨rfl, o, rfl⟩ := w
        obtain ⟨rfl, hi⟩ := rng_get hd
        have hi : i < xs.length := by exact_mod_cast hi
        have e := atI_nat (List.getElem?_eq_getElem hi)
        have := ih xs[i] N (h.1 _ (List.getElem_mem hi))
        simp only [exs_n, exs_c, cf_nx, cf_rt, cf_bk, cf_ct, ex_nm, setC_eq, ex_tp, ex_sb, asgC_eq, at_nm, at_tp, at_sb, ats_n, ats_c, ex_exp, ex_ret, ex_retN, ex_pass, ex_brk, ex_cont, ex_par, ex_iff, iffC_t, iffC_f, iffC_n, ex_for, forC_eq, turnC_eq, ev_con, ev_glo, ev_var, ev_tup, ev_lst, ev_bin, ev_neg, ev_cmp, ev_sub, ev_call, ev_prim, primC_eq, ev_meth, ev_and, ev_or, ev_not, ev_ife, ifeC_t, ifeC_f, ev_slc, ev_new, newC_f, ev_comp, evs_n, evs_c, evT_eq, endC_rt, endC_nx, lk_int, lk_bl, lk_str, lk_non, lk_tup, lk_lst, lk_dct, lk_scr, lk_ref, fd_v, fd_f, tr_bl, tr_int, tr_non, tr_tup, tr_lst, tR_some, bR_some, vR_some, oI_some, gd_t, o_add, o_sub, o_mul, o_fdiv, o_mod, o_pow, o_addt, o_addl, o_adds, o_neg, c_eq, c_ne, c_lt, c_gt, c_le, c_ge, c_isn, c_notn, q_int, q_str, q_bl, q_map, i_tup, i_lst, ai_0, ai_1, ai_2, ai_3, ai_4, ai_5, ai_6, ai_7, ai_8, ai_9, ai_10, ai_11, bd_ok, bdd_ok, sat_ok, List.getElem?_cons_succ, List.getElem?_cons_zero, List.set_cons_succ, List.set_cons_zero, List.map_cons, List.map_nil, bd_bd, bdd_bd, bdd_bdd, bd_bdd, kc_eq, kd_eq, Int.reduceLT, Int.reduceLE, Int.reduceToNat, Int.reducePow, decide_true, decide_false, Bool.and_true, Bool.true_and, Bool.or_true, Bool.true_or, if_true, if_false, reduceCtorEq, andC_t, andC_f, orC_t, orC_f, Bool.not_true, Bool.not_false, ne_eq, not_true_eq_false, not_false_eq_true, Option.map_some, eq_self, compC_eq, compT_eq, compE_t, compE_f, wp_n, wp_c, evTs_n, evTs_1, e, this]
        exact ⟨by trivial, _, rfl⟩
      · obtain ⟨rfl, o, rfl⟩ := w
        exact ⟨rfl, _, rfl⟩
      · obtain ⟨rfl, o, rfl⟩ := w
        simp only [exs_n, exs_c, cf_nx, cf_rt, cf_bk, cf_ct, ex_nm, setC_eq, ex_tp, ex_sb, asgC_eq, at_nm, at_tp, at_sb, ats_n, ats_c, ex_exp, ex_ret, ex_retN, ex_pass, ex_brk, ex_cont, ex_par, ex_iff, iffC_t, iffC_f, iffC_n, ex_for, forC_eq, turnC_eq, ev_con, ev_glo, ev_var, ev_tup, ev_lst, ev_bin, ev_neg, ev_cmp, ev_sub, ev_call, ev_prim, primC_eq, ev_meth, ev_and, ev_or, ev_not, ev_ife, ifeC_t, ifeC_f, ev_slc, ev_new, newC_f, ev_comp, evs_n, evs_c, evT_eq, endC_rt, endC_nx, lk_int, lk_bl, lk_str, lk_non, lk_tup, lk_lst, lk_dct, lk_scr, lk_ref, fd_v, fd_f, tr_bl, tr_int, tr_non, tr_tup, tr_lst, tR_some, bR_some, vR_some, oI_some, gd_t, o_add, o_sub, o_mul, o_fdiv, o_mod, o_pow, o_addt, o_addl, o_adds, o_neg, c_eq, c_ne, c_lt, c_gt, c_le, c_ge, c_isn, c_notn, q_int, q_str, q_bl, q_map, i_tup, i_lst, ai_0, ai_1, ai_2, ai_3, ai_4, ai_5, ai_6, ai_7, ai_8, ai_9, ai_10, ai_11, bd_ok, bdd_ok, sat_ok, List.getElem?_cons_succ, List.getElem?_cons_zero, List.set_cons_succ, List.set_cons_zero, List.map_cons, List.map_nil, bd_bd, bdd_bd, bdd_bdd, bd_bdd, kc_eq, kd_eq, Int.reduceLT, Int.reduceLE, Int.reduceToNat, Int.reducePow, decide_true, decide_false, Bool.and_true, Bool.true_and, Bool.or_true, Bool.true_or, if_true, if_false, reduceCtorEq, andC_t, andC_f, orC_t, orC_f, Bool.not_true, Bool.not_false, ne_eq, not_true_eq_false, not_false_eq_true, Option.map_some, eq_self, compC_eq, compT_eq, compE_t, compE_f, wp_n, wp_c, evTs_n, evTs_1]
        exact exit_p rfl rfl ⟨rfl, rfl⟩
    | lst xs => simp [smp] at h
    | dct ks xs => simp [smp] at h
    | ref n => simp [smp] at h
    | scr xs => simp [smp] at h
    | non =>
      simp only [exs_n, exs_c, cf_nx, cf_rt, cf_bk, cf_ct, ex_nm, setC_eq, ex_tp, ex_sb, asgC_eq, at_nm, at_tp, at_sb, ats_n, ats_c, ex_exp, ex_ret, ex_retN, ex_pass, ex_brk, ex_cont, ex_par, ex_iff, iffC_t, iffC_f, iffC_n, ex_for, forC_eq, turnC_eq, ev_con, ev_glo, ev_var, ev_tup, ev_lst, ev_bin, ev_neg, ev_cmp, ev_sub, ev_call, ev_prim, primC_eq, ev_meth, ev_and, ev_or, ev_not, ev_ife, ifeC_t, ifeC_f, ev_slc, ev_new, newC_f, ev_comp, evs_n, evs_c, evT_eq, endC_rt, endC_nx, lk_int, lk_bl, lk_str, lk_non, lk_tup, lk_lst, lk_dct, lk_scr, lk_ref, fd_v, fd_f, tr_bl, tr_int, tr_non, tr_tup, tr_lst, tR_some, bR_some, vR_some, oI_some, gd_t, o_add, o_sub, o_mul, o_fdiv, o_mod, o_pow, o_addt, o_addl, o_adds, o_neg, c_eq, c_ne, c_lt, c_gt, c_le, c_ge, c_isn, c_notn, q_int, q_str, q_bl, q_map, i_tup, i_lst, ai_0, ai_1, ai_2, ai_3, ai_4, ai_5, ai_6, ai_7, ai_8, ai_9, ai_10, ai_11, bd_ok, bdd_ok, sat_ok, List.getElem?_cons_succ, List.getElem?_cons_zero, List.set_cons_succ, List.set_cons_zero, List.map_cons, List.map_nil, bd_bd, bdd_bd, bdd_bdd, bd_bdd, kc_eq, kd_eq, Int.reduceLT, Int.reduceLE, Int.reduceToNat, Int.reducePow, decide_true, decide_false, Bool.and_true, Bool.true_and, Bool.or_true, Bool.true_or, if_true, if_false, reduceCtorEq, andC_t, andC_f, orC_t, orC_f, Bool.not_true, Bool.not_false, ne_eq, not_true_eq_false, not_false_eq_true, Option.map_some, eq_self, compC_eq, compT_eq, compE_t, compE_f, wp_n, wp_c, evTs_n, evTs_1, q_isi, is_tup_non, is_tup_bl, is_tup_int, is_tup_str, is_tup_tup, is_tup_lst, is_str_non, is_str_bl, is_str_int, is_str_str, is_str_tup, is_str_lst, is_bool_non, is_bool_bl, is_bool_int, is_bool_str, is_bool_tup, is_bool_lst, is_int_non, is_int_bl, is_int_int, is_int_str, is_int_tup, is_int_lst]
      exact exit_p rfl rfl ⟨rfl, rfl⟩
    | bl b =>
      simp only [exs_n, exs_c, cf_nx, cf_rt, cf_bk, cf_ct, ex_nm, setC_eq, ex_tp, ex_sb, asgC_eq, at_nm, at_tp, at_sb, ats_n, ats_c, ex_exp, ex_ret, ex_retN, ex_pass, ex_brk, ex_cont, ex_par, ex_iff, iffC_t, iffC_f, iffC_n, ex_for, forC_eq, turnC_eq, ev_con, ev_glo, ev_var, ev_tup, ev_lst, ev_bin, ev_neg, ev_cmp, ev_sub, ev_call, ev_prim, primC_eq, ev_meth, ev_and, ev_or, ev_not, ev_ife, ifeC_t, ifeC_f, ev_slc, ev_new, newC_f, ev_comp, evs_n, evs_c, evT_eq, endC_rt, endC_nx, lk_int, lk_bl, lk_str, lk_non, lk_tup, lk_lst, lk_dct, lk_scr, lk_ref, fd_v, fd_f, tr_bl, tr_int, tr_non, tr_tup, tr_lst, tR_some, bR_some, vR_some, oI_some, gd_t, o_add, o_sub, o_mul, o_fdiv, o_mod, o_pow, o_addt, o_addl, o_adds, o_neg, c_eq, c_ne, c_lt, c_gt, c_le, c_ge, c_isn, c_notn, q_int, q_str, q_bl, q_map, i_tup, i_lst, ai_0, ai_1, ai_2, ai_3, ai_4, ai_5, ai_6, ai_7, ai_8, ai_9, ai_10, ai_11, bd_ok, bdd_ok, sat_ok, List.getElem?_cons_succ, List.getElem?_cons_zero, List.set_cons_succ, List.set_cons_zero, List.map_cons, List.map_nil, bd_bd, bdd_bd, bdd_bdd, bd_bdd, kc_eq, kd_eq, Int.reduceLT, Int.reduceLE, Int.reduceToNat, Int.reducePow, decide_true, decide_false, Bool.and_true, Bool.true_and, Bool.or_true, Bool.true_or, if_true, if_false, reduceCtorEq, andC_t, andC_f, orC_t, orC_f, Bool.not_true, Bool.not_false, ne_eq, not_true_eq_false, not_false_eq_true, Option.map_some, eq_self, compC_eq, compT_eq, compE_t, compE_f, wp_n, wp_c, evTs_n, evTs_1, q_isi, is_tup_non, is_tup_bl, is_tup_int, is_tup_str, is_tup_tup, is_tup_lst, is_str_non, is_str_bl, is_str_int, is_str_str, is_str_tup, is_str_lst, is_bool_non, is_bool_bl, is_bool_int, is_bool_str, is_bool_tup, is_bool_lst, is_int_non, is_int_bl, is_int_int, is_int_str, is_int_tup, is_int_lst]
      exact exit_p rfl rfl ⟨rfl, rfl⟩
    | int i =>
      simp only [exs_n, exs_c, cf_nx, cf_rt, cf_bk, cf_ct, ex_nm, setC_eq, ex_tp, ex_sb, asgC_eq, at_nm, at_tp, at_sb, ats_n, ats_c, ex_exp, ex_ret, ex_retN, ex_pass, ex_brk, ex_cont, ex_par, ex_iff, iffC_t, iffC_f, iffC_n, ex_for, forC_eq, turnC_eq, ev_con, ev_glo, ev_var, ev_tup, ev_lst, ev_bin, ev_neg, ev_cmp, ev_sub, ev_call, ev_prim, primC_eq, ev_meth, ev_and, ev_or, ev_not, ev_ife, ifeC_t, ifeC_f, ev_slc, ev_new, newC_f, ev_comp, evs_n, evs_c, evT_eq, endC_rt, endC_nx, lk_int, lk_bl, lk_str, lk_non, lk_tup, lk_lst, lk_dct, lk_scr, lk_ref, fd_v, fd_f, tr_bl, tr_int, tr_non, tr_tup, tr_lst, tR_some, bR_some, vR_some, oI_some, gd_t, o_add, o_sub, o_mul, o_fdiv, o_mod, o_pow, o_addt, o_addl, o_adds, o_neg, c_eq, c_ne, c_lt, c_gt, c_le, c_ge, c_isn, c_notn, q_int, q_str, q_bl, q_map, i_tup, i_lst, ai_0, ai_1, ai_2, ai_3, ai_4, ai_5, ai_6, ai_7, ai_8, ai_9, ai_10, ai_11, bd_ok, bdd_ok, sat_ok, List.getElem?_cons_succ, List.getElem?_cons_zero, List.set_cons_succ, List.set_cons_zero, List.map_cons, List.map_nil, bd_bd, bdd_bd, bdd_bdd, bd_bdd, kc_eq, kd_eq, Int.reduceLT, Int.reduceLE, Int.reduceToNat, Int.reducePow, decide_true, decide_false, Bool.and_true, Bool.true_and, Bool.or_true, Bool.true_or, if_true, if_false, reduceCtorEq, andC_t, andC_f, orC_t, orC_f, Bool.not_true, Bool.not_false, ne_eq, not_true_eq_false, not_false_eq_true, Option.map_some, eq_self, compC_eq, compT_eq, compE_t, compE_f, wp_n, wp_c, evTs_n, evTs_1, q_isi, is_tup_non, is_tup_bl, is_tup_int, is_tup_str, is_tup_tup, is_tup_lst, is_str_non, is_str_bl, is_str_int, is_str_str, is_str_tup, is_str_lst, is_bool_non, is_bool_bl, is_bool_int, is_bool_str, is_bool_tup, is_bool_lst, is_int_non, is_int_bl, is_int_int, is_int_str, is_int_tup, is_int_lst]
      exact exit_p rfl rfl ⟨rfl, rfl⟩
    | str z =>
      simp only [exs_n, exs_c, cf_nx, cf_rt, cf_bk, cf_ct, ex_nm, setC_eq, ex_tp, ex_sb, asgC_eq, at_nm, at_tp, at_sb, ats_n, ats_c, ex_exp, ex_ret, ex_retN, ex_pass, ex_brk, ex_cont, ex_par, ex_iff, iffC_t, iffC_f, iffC_n, ex_for, forC_eq, turnC_eq, ev_con, ev_glo, ev_var, ev_tup, ev_lst, ev_bin, ev_neg, ev_cmp, ev_sub, ev_call, ev_prim, primC_eq, ev_meth, ev_and, ev_or, ev_not, ev_ife, ifeC_t, ifeC_f, ev_slc, ev_new, newC_f, ev_comp, evs_n, evs_c, evT_eq, endC_rt, endC_nx, lk_int, lk_bl, lk_str, lk_non, lk_tup, lk_lst, lk_dct, lk_scr, lk_ref, fd_v, fd_f, tr_bl, tr_int, tr_non, tr_tup, tr_lst, tR_some, bR_some, vR_some, oI_some, gd_t, o_add, o_sub, o_mul, o_fdiv, o_mod, o_pow, o_addt, o_addl, o_adds, o_neg, c_eq, c_ne, c_lt, c_gt, c_le, c_ge, c_isn, c_notn, q_int, q_str, q_bl, q_map, i_tup, i_lst, ai_0, ai_1, ai_2, ai_3, ai_4, ai_5, ai_6, ai_7, ai_8, ai_9, ai_10, ai_11, bd_ok, bdd_ok, sat_ok, List.getElem?_cons_succ, List.getElem?_cons_zero, List.set_cons_succ, List.set_cons_zero, List.map_cons, List.map_nil, bd_bd, bdd_bd, bdd_bdd, bd_bdd, kc_eq, kd_eq, Int.reduceLT, Int.reduceLE, Int.reduceToNat, Int.reducePow, decide_true, decide_false, Bool.and_true, Bool.true_and, Bool.or_true, Bool.true_or, if_true, if_false, reduceCtorEq, andC_t, andC_f, orC_t, orC_f, Bool.not_true, Bool.not_false, ne_eq, not_true_eq_false, not_false_eq_true, Option.map_some, eq_self, compC_eq, compT_eq, compE_t, compE_f, wp_n, wp_c, evTs_n, evTs_1, q_isi, is_tup_non, is_tup_bl, is_tup_int, is_tup_str, is_tup_tup, is_tup_lst, is_str_non, is_str_bl, is_str_int, is_str_str, is_str_tup, is_str_lst, is_bool_non, is_bool_bl, is_bool_int, is_bool_str, is_bool_tup, is_bool_lst, is_int_non, is_int_bl, is_int_int, is_int_str, is_int_tup, is_int_lst]
      exact exit_p rfl rfl ⟨rfl, rfl⟩

/-! ### shuffles -/
theorem app_get {M : Store} {xs : Store} {n : Nat} (h : n < M.length) : (M ++ xs)[n]? = M[n]? := List.getElem?_append_left h
theorem app_at {M : Store} {xs : Store} {n : Nat} : (M ++ xs)[M.length + n]? = xs[n]? := by
  rw [List.getElem?_append_right (by omega)]
  congr 1
  omega
theorem app_set {M : Store} {xs : Store} {n : Nat} {d : D} (h : n < M.length) : (M ++ xs).set n d = M.set n d ++ xs := List.set_append_left _ _ h
theorem app_setR {M : Store} {xs : Store} {n : Nat} {d : D} : (M ++ xs).set (M.length + n) d = M ++ xs.set n d := by
  rw [List.set_append_right _ _ (by omega)]
  congr 2
  omega
theorem scps_mem {L : Nat} : ∀ {xs : List D}, D.scps L xs = true ↔ ∀ d ∈ xs, d.scp L = true
  | [] => by simp [D.scps]
  | x :: xs => by
    simp only [D.scps, Bool.and_eq_true, List.mem_cons, forall_eq_or_imp, scps_mem (xs := xs)]
theorem erase_perm {d : D} : ∀ {l : List D} {j : Nat}, l[j]? = some d → (d :: l.eraseIdx j).Perm l
  | [], _, h => by simp at h
  | a :: l, 0, h => by
    simp at h
    subst h
    exact .refl _
  | a :: l, j + 1, h => by
    have := erase_perm (l := l) (j := j) (by simpa using h)
    exact (List.Perm.swap a d _).trans (this.cons a)
theorem set_same {M : Store} {t : Nat} {d : D} (h : M[t]? = some d) : M.set t d = M := by
  apply List.ext_getElem?
  intro i
  by_cases e : t = i
  · subst e
    rw [List.getElem?_set_self (List.getElem?_eq_some_iff.mp h).1, h]
  · rw [List.getElem?_set_ne e]
theorem shuf_sat {fs : List Fn} {gl : Nat → D} {f c k : Nat} (hf : fs[f]? = some ⟨2, 5, B_law_shuffled c⟩) (hc : fs[c]? = some ⟨2, 4, B_law_draw⟩) {M : Store} {t : Nat} {ns : List Int} {p n m : Int} (hM : M[t]? = some (TapeD ns p n m)) (hp : 0 ≤ p) (hn : 0 ≤ n)
    {xs : List D} (h1 : xs.length ≤ 1000) (hx : D.scps M.length xs = true) {Q : FV → Store → Prop} (q : ∀ (ys : List D) (p' n' m' : Int), ys.Perm xs → 0 ≤ p' → 0 ≤ n' → Q (.f (.lst ys)) (M.set t (TapeD ns p' n' m'))) : (callF fs gl (k + 2) f [.ref t, .lst xs] M).sat Q := by
  have ht : t < M.length := (List.getElem?_eq_some_iff.mp hM).1
  have hsl : sl = 16777216 := rfl
  rw [call_eq hf, run_eq rfl]
  show ((exs _ (B_law_shuffled c) [some (.ref t), some (.lst xs), none, none, none] M).bd (endC M)).sat Q
  unfold B_law_shuffled
  simp only [exs_n, exs_c, cf_nx, cf_rt, cf_bk, cf_ct, ex_nm, setC_eq, ex_tp, ex_sb, asgC_eq, at_nm, at_tp, at_sb, ats_n, ats_c, ex_exp, ex_ret, ex_retN, ex_pass, ex_brk, ex_cont, ex_par, ex_iff, iffC_t, iffC_f, iffC_n, ex_for, forC_eq, turnC_eq, ev_con, ev_glo, ev_var, ev_tup, ev_lst, ev_bin, ev_neg, ev_cmp, ev_sub, ev_call, ev_prim, primC_eq, ev_meth, ev_and, ev_or, ev_not, ev_ife, ifeC_t, ifeC_f, ev_slc, ev_new, newC_f, ev_comp, evs_n, evs_c, evT_eq, endC_rt, endC_nx, lk_int, lk_bl, lk_str, lk_non, lk_tup, lk_lst, lk_dct, lk_scr, lk_ref, fd_v, fd_f, tr_bl, tr_int, tr_non, tr_tup, tr_lst, tR_some, bR_some, vR_some, oI_some, gd_t, o_add, o_sub, o_mul, o_fdiv, o_mod, o_pow, o_addt, o_addl, o_adds, o_neg, c_eq, c_ne, c_lt, c_gt, c_le, c_ge, c_isn, c_notn, q_int, q_str, q_bl, q_map, i_tup, i_lst, ai_0, ai_1, ai_2, ai_3, ai_4, ai_5, ai_6, ai_7, ai_8, ai_9, ai_10, ai_11, bd_ok, bdd_ok, sat_ok, List.getElem?_cons_succ, List.getElem?_cons_zero, List.set_cons_succ, List.set_cons_zero, List.map_cons, List.map_nil, bd_bd, bdd_bd, bdd_bdd, bd_bdd, kc_eq, kd_eq, Int.reduceLT, Int.reduceLE, Int.reduceToNat, Int.reducePow, decide_true, decide_false, Bool.and_true, Bool.true_and, Bool.or_true, Bool.true_or, if_true, if_false, reduceCtorEq, andC_t, andC_f, orC_t, orC_f, Bool.not_true, Bool.not_false, ne_eq, not_true_eq_false, not_false_eq_true, Option.map_some, eq_self, compC_eq, compT_eq, compE_t, compE_f, wp_n, wp_c, evTs_n, evTs_1, q_list, q_len, w_rng1, List.length_append, List.length_singleton, List.append_assoc, List.singleton_append]
  rw [gd_p (inR_i (by omega) (by omega))]
  simp only [exs_n, exs_c, cf_nx, cf_rt, cf_bk, cf_ct, ex_nm, setC_eq, ex_tp, ex_sb, asgC_eq, at_nm, at_tp, at_sb, ats_n, ats_c, ex_exp, ex_ret, ex_retN, ex_pass, ex_brk, ex_cont, ex_par, ex_iff, iffC_t, iffC_f, iffC_n, ex_for, forC_eq, turnC_eq, ev_con, ev_glo, ev_var, ev_tup, ev_lst, ev_bin, ev_neg, ev_cmp, ev_sub, ev_call, ev_prim, primC_eq, ev_meth, ev_and, ev_or, ev_not, ev_ife, ifeC_t, ifeC_f, ev_slc, ev_new, newC_f, ev_comp, evs_n, evs_c, evT_eq, endC_rt, endC_nx, lk_int, lk_bl, lk_str, lk_non, lk_tup, lk_lst, lk_dct, lk_scr, lk_ref, fd_v, fd_f, tr_bl, tr_int, tr_non, tr_tup, tr_lst, tR_some, bR_some, vR_some, oI_some, gd_t, o_add, o_sub, o_mul, o_fdiv, o_mod, o_pow, o_addt, o_addl, o_adds, o_neg, c_eq, c_ne, c_lt, c_gt, c_le, c_ge, c_isn, c_notn, q_int, q_str, q_bl, q_map, i_tup, i_lst, ai_0, ai_1, ai_2, ai_3, ai_4, ai_5, ai_6, ai_7, ai_8, ai_9, ai_10, ai_11, bd_ok, bdd_ok, sat_ok, List.getElem?_cons_succ, List.getElem?_cons_zero, List.set_cons_succ, List.set_cons_zero, List.map_cons, List.map_nil, bd_bd, bdd_bd, bdd_bdd, bd_bdd, kc_eq, kd_eq, Int.reduceLT, Int.reduceLE, Int.reduceToNat, Int.reducePow, decide_true, decide_false, Bool.and_true, Bool.true_and, Bool.or_true, Bool.true_or, if_true, if_false, reduceCtorEq, andC_t, andC_f, orC_t, orC_f, Bool.not_true, Bool.not_false, ne_eq, not_true_eq_false, not_false_eq_true, Option.map_some, eq_self, compC_eq, compT_eq, compE_t, compE_f, wp_n, wp_c, evTs_n, evTs_1]
  let W : Nat → Env → Store → Prop := fun i ρ N => ∃ (p' n' m' : Int) (left turned : List D) (o : Option D), 0 ≤ p' ∧ 0 ≤ n' ∧ N = M.set t (TapeD ns p' n' m') ++ [.lst left, .lst turned] ∧ left.length + i = xs.length ∧ turned.length = i ∧ (turned ++ left).Perm xs ∧
    ρ = [some (.ref t), some (.lst xs), some (.ref M.length), some (.ref (M.length + 1)), o]
  refine sat_bd (P := fun f N => ∃ ρ, f = .nx ρ ∧ W xs.length ρ N) (for_i W ?_ (fun _ _ _ _ _ => okG_n) (fun i ρ N d hd w => ?_) fun ρ N w => ?_) fun f N w => ?_
  · exact ⟨p, n, m, xs, [], none, hp, hn, by rw [set_same hM] <;> rfl, rfl, rfl, by simp, rfl⟩
  · obtain ⟨p', n', m', left, turned, o, hp', hn', rfl, hl, hlt, hperm, rfl⟩ := w
    obtain ⟨rfl, hi⟩ := rng_get hd
    have hi : i < xs.length := by exact_mod_cast hi
    have hlen : (M.set t (TapeD ns p' n' m')).length = M.length := by simp
    have e0 : (M.set t (TapeD ns p' n' m') ++ [D.lst left, .lst turned])[M.length]? = some (.lst left) := by
      have := app_at (M := M.set t (TapeD ns p' n' m')) (xs := [D.lst left, .lst turned]) (n := 0)
      rw [hlen] at this
      exact this
    have hT : (M.set t (TapeD ns p' n' m') ++ [D.lst left, .lst turned])[t]? = some (TapeD ns p' n' m') := by
      rw [List.getElem?_append_left (by rw [hlen]; exact ht), List.getElem?_set_self ht]
    have e1 : (M.set t (TapeD ns p' n' m') ++ [D.lst left, .lst turned])[M.length + 1]? = some (.lst turned) := by
      have := app_at (M := M.set t (TapeD ns p' n' m')) (xs := [D.lst left, .lst turned]) (n := 1)
      rw [hlen] at this
      exact this
    simp only [exs_n, exs_c, cf_nx, cf_rt, cf_bk, cf_ct, ex_nm, setC_eq, ex_tp, ex_sb, asgC_eq, at_nm, at_tp, at_sb, ats_n, ats_c, ex_exp, ex_ret, ex_retN, ex_pass, ex_brk, ex_cont, ex_par, ex_iff, iffC_t, iffC_f, iffC_n, ex_for, forC_eq, turnC_eq, ev_con, ev_glo, ev_var, ev_tup, ev_lst, ev_bin, ev_neg, ev_cmp, ev_sub, ev_call, ev_prim, primC_eq, ev_meth, ev_and, ev_or, ev_not, ev_ife, ifeC_t, ifeC_f, ev_slc, ev_new, newC_f, ev_comp, evs_n, evs_c, evT_eq, endC_rt, endC_nx, lk_int, lk_bl, lk_str, lk_non, lk_tup, lk_lst, lk_dct, lk_scr, lk_ref, fd_v, fd_f, tr_bl, tr_int, tr_non, tr_tup, tr_lst, tR_some, bR_some, vR_some, oI_some, gd_t, o_add, o_sub, o_mul, o_fdiv, o_mod, o_pow, o_addt, o_addl, o_adds, o_neg, c_eq, c_ne, c_lt, c_gt, c_le, c_ge, c_isn, c_notn, q_int, q_str, q_bl, q_map, i_tup, i_lst, ai_0, ai_1, ai_2, ai_3, ai_4, ai_5, ai_6, ai_7, ai_8, ai_9, ai_10, ai_11, bd_ok, bdd_ok, sat_ok, List.getElem?_cons_succ, List.getElem?_cons_zero, List.set_cons_succ, List.set_cons_zero, List.map_cons, List.map_nil, bd_bd, bdd_bd, bdd_bdd, bd_bdd, kc_eq, kd_eq, Int.reduceLT, Int.reduceLE, Int.reduceToNat, Int.reducePow, decide_true, decide_false, Bool.and_true, Bool.true_and, Bool.or_true, Bool.true_or, if_true, if_false, reduceCtorEq, andC_t, andC_f, orC_t, orC_f, Bool.not_true, Bool.not_false, ne_eq, not_true_eq_false, not_false_eq_true, Option.map_some, eq_self, compC_eq, compT_eq, compE_t, compE_f, wp_n, wp_c, evTs_n, evTs_1, e0, e1, getD_some', k_app, k_pop, q_len]
    refine sat_bddq (draw_sat hc hT hp' hn' (by omega) fun x p2 n2 m2 hx0 hx1 hp2 hn2 => ?_)
    obtain ⟨j, rfl⟩ := Int.eq_ofNat_of_zero_le hx0
    have hj : j < left.length := by omega
    have hg := List.getElem?_eq_getElem hj
    have hN : (M.set t (TapeD ns p' n' m') ++ [D.lst left, .lst turned]).set t (TapeD ns p2 n2 m2) = M.set t (TapeD ns p2 n2 m2) ++ [D.lst left, .lst turned] := by
      rw [app_set (by rw [hlen]; exact ht), List.set_set]
    rw [hN]
    have hlen2 : (M.set t (TapeD ns p2 n2 m2)).length = M.length := by simp
    have sR : ∀ (ys : Store) (d : D), (M.set t (TapeD ns p2 n2 m2) ++ ys).set M.length d = M.set t (TapeD ns p2 n2 m2) ++ ys.set 0 d := fun ys d => by
      have := app_setR (M := M.set t (TapeD ns p2 n2 m2)) (xs := ys) (n := 0) (d := d)
      rw [hlen2] at this
      exact this
    have sR1 : ∀ (ys : Store) (d : D), (M.set t (TapeD ns p2 n2 m2) ++ ys).set (M.length + 1) d = M.set t (TapeD ns p2 n2 m2) ++ ys.set 1 d := fun ys d => by
      have := app_setR (M := M.set t (TapeD ns p2 n2 m2)) (xs := ys) (n := 1) (d := d)
      rw [hlen2] at this
      exact this
    have gR1 : ∀ ys : Store, (M.set t (TapeD ns p2 n2 m2) ++ ys)[M.length + 1]? = ys[1]? := fun ys => by
      have := app_at (M := M.set t (TapeD ns p2 n2 m2)) (xs := ys) (n := 1)
      rw [hlen2] at this
      exact this
    have gR : ∀ ys : Store, (M.set t (TapeD ns p2 n2 m2) ++ ys)[M.length]? = ys[0]? := fun ys => by
      have := app_at (M := M.set t (TapeD ns p2 n2 m2)) (xs := ys) (n := 0)
      rw [hlen2] at this
      exact this
    simp only [exs_n, exs_c, cf_nx, cf_rt, cf_bk, cf_ct, ex_nm, setC_eq, ex_tp, ex_sb, asgC_eq, at_nm, at_tp, at_sb, ats_n, ats_c, ex_exp, ex_ret, ex_retN, ex_pass, ex_brk, ex_cont, ex_par, ex_iff, iffC_t, iffC_f, iffC_n, ex_for, forC_eq, turnC_eq, ev_con, ev_glo, ev_var, ev_tup, ev_lst, ev_bin, ev_neg, ev_cmp, ev_sub, ev_call, ev_prim, primC_eq, ev_meth, ev_and, ev_or, ev_not, ev_ife, ifeC_t, ifeC_f, ev_slc, ev_new, newC_f, ev_comp, evs_n, evs_c, evT_eq, endC_rt, endC_nx, lk_int, lk_bl, lk_str, lk_non, lk_tup, lk_lst, lk_dct, lk_scr, lk_ref, fd_v, fd_f, tr_bl, tr_int, tr_non, tr_tup, tr_lst, tR_some, bR_some, vR_some, oI_some, gd_t, o_add, o_sub, o_mul, o_fdiv, o_mod, o_pow, o_addt, o_addl, o_adds, o_neg, c_eq, c_ne, c_lt, c_gt, c_le, c_ge, c_isn, c_notn, q_int, q_str, q_bl, q_map, i_tup, i_lst, ai_0, ai_1, ai_2, ai_3, ai_4, ai_5, ai_6, ai_7, ai_8, ai_9, ai_10, ai_11, bd_ok, bdd_ok, sat_ok, List.getElem?_cons_succ, List.getElem?_cons_zero, List.set_cons_succ, List.set_cons_zero, List.map_cons, List.map_nil, bd_bd, bdd_bd, bdd_bdd, bd_bdd, kc_eq, kd_eq, Int.reduceLT, Int.reduceLE, Int.reduceToNat, Int.reducePow, decide_true, decide_false, Bool.and_true, Bool.true_and, Bool.or_true, Bool.true_or, if_true, if_false, reduceCtorEq, andC_t, andC_f, orC_t, orC_f, Bool.not_true, Bool.not_false, ne_eq, not_true_eq_false, not_false_eq_true, Option.map_some, eq_self, compC_eq, compT_eq, compE_t, compE_f, wp_n, wp_c, evTs_n, evTs_1, gR, getD_some', m_pop hg, sR, gR1]
    rw [m_app (by omega)]
    simp only [exs_n, exs_c, cf_nx, cf_rt, cf_bk, cf_ct, ex_nm, setC_eq, ex_tp, ex_sb, asgC_eq, at_nm, at_tp, at_sb, ats_n, ats_c, ex_exp, ex_ret, ex_retN, ex_pass, ex_brk, ex_cont, ex_par, ex_iff, iffC_t, iffC_f, iffC_n, ex_for, forC_eq, turnC_eq, ev_con, ev_glo, ev_var, ev_tup, ev_lst, ev_bin, ev_neg, ev_cmp, ev_sub, ev_call, ev_prim, primC_eq, ev_meth, ev_and, ev_or, ev_not, ev_ife, ifeC_t, ifeC_f, ev_slc, ev_new, newC_f, ev_comp, evs_n, evs_c, evT_eq, endC_rt, endC_nx, lk_int, lk_bl, lk_str, lk_non, lk_tup, lk_lst, lk_dct, lk_scr, lk_ref, fd_v, fd_f, tr_bl, tr_int, tr_non, tr_tup, tr_lst, tR_some, bR_some, vR_some, oI_some, gd_t, o_add, o_sub, o_mul, o_fdiv, o_mod, o_pow, o_addt, o_addl, o_adds, o_neg, c_eq, c_ne, c_lt, c_gt, c_le, c_ge, c_isn, c_notn, q_int, q_str, q_bl, q_map, i_tup, i_lst, ai_0, ai_1, ai_2, ai_3, ai_4, ai_5, ai_6, ai_7, ai_8, ai_9, ai_10, ai_11, bd_ok, bdd_ok, sat_ok, List.getElem?_cons_succ, List.getElem?_cons_zero, List.set_cons_succ, List.set_cons_zero, List.map_cons, List.map_nil, bd_bd, bdd_bd, bdd_bdd, bd_bdd, kc_eq, kd_eq, Int.reduceLT, Int.reduceLE, Int.reduceToNat, Int.reducePow, decide_true, decide_false, Bool.and_true, Bool.true_and, Bool.or_true, Bool.true_or, if_true, if_false, reduceCtorEq, andC_t, andC_f, orC_t, orC_f, Bool.not_true, Bool.not_false, ne_eq, not_true_eq_false, not_false_eq_true, Option.map_some, eq_self, compC_eq, compT_eq, compE_t, compE_f, wp_n, wp_c, evTs_n, evTs_1, sR1]
    refine ⟨p2, n2, m2, left.eraseIdx j, turned ++ [left[j]], _, hp2, hn2, rfl, ?_, ?_, ?_, rfl⟩
    · rw [List.length_eraseIdx_of_lt hj]; omega
    · rw [List.length_append, List.length_singleton, hlt]
    · rw [List.append_assoc, List.singleton_append]
      exact ((erase_perm hg).append_left turned).trans hperm
  · rw [rng_len] at w
    exact ⟨ρ, rfl, w⟩
  · obtain ⟨ρ, rfl, p', n', m', left, turned, o, hp', hn', rfl, hl, hlt, hperm, rfl⟩ := w
    simp only [exs_n, exs_c, cf_nx, cf_rt, cf_bk, cf_ct, ex_nm, setC_eq, ex_tp, ex_sb, asgC_eq, at_nm, at_tp, at_sb, ats_n, ats_c, ex_exp, ex_ret, ex_retN, ex_pass, ex_brk, ex_cont, ex_par, ex_iff, iffC_t, iffC_f, iffC_n, ex_for, forC_eq, turnC_eq, ev_con, ev_glo, ev_var, ev_tup, ev_lst, ev_bin, ev_neg, ev_cmp, ev_sub, ev_call, ev_prim, primC_eq, ev_meth, ev_and, ev_or, ev_not, ev_ife, ifeC_t, ifeC_f, ev_slc, ev_new, newC_f, ev_comp, evs_n, evs_c, evT_eq, endC_rt, endC_nx, lk_int, lk_bl, lk_str, lk_non, lk_tup, lk_lst, lk_dct, lk_scr, lk_ref, fd_v, fd_f, tr_bl, tr_int, tr_non, tr_tup, tr_lst, tR_some, bR_some, vR_some, oI_some, gd_t, o_add, o_sub, o_mul, o_fdiv, o_mod, o_pow, o_addt, o_addl, o_adds, o_neg, c_eq, c_ne, c_lt, c_gt, c_le, c_ge, c_isn, c_notn, q_int, q_str, q_bl, q_map, i_tup, i_lst, ai_0, ai_1, ai_2, ai_3, ai_4, ai_5, ai_6, ai_7, ai_8, ai_9, ai_10, ai_11, bd_ok, bdd_ok, sat_ok, List.getElem?_cons_succ, List.getElem?_cons_zero, List.set_cons_succ, List.set_cons_zero, List.map_cons, List.map_nil, bd_bd, bdd_bd, bdd_bdd, bd_bdd, kc_eq, kd_eq, Int.reduceLT, Int.reduceLE, Int.reduceToNat, Int.reducePow, decide_true, decide_false, Bool.and_true, Bool.true_and, Bool.or_true, Bool.true_or, if_true, if_false, reduceCtorEq, andC_t, andC_f, orC_t, orC_f, Bool.not_true, Bool.not_false, ne_eq, not_true_eq_false, not_false_eq_true, Option.map_some, eq_self, compC_eq, compT_eq, compE_t, compE_f, wp_n, wp_c, evTs_n, evTs_1]
    have h0 : left = [] := List.eq_nil_of_length_eq_zero (by omega)
    subst h0
    rw [List.append_nil] at hperm
    have hlen : (M.set t (TapeD ns p' n' m')).length = M.length := by simp
    have e1 : (M.set t (TapeD ns p' n' m') ++ [D.lst [], .lst turned])[M.length + 1]? = some (.lst turned) := by
      have := app_at (M := M.set t (TapeD ns p' n' m')) (xs := [D.lst [], .lst turned]) (n := 1)
      rw [hlen] at this
      exact this
    refine exit_r (by omega) e1 (scps_mem.mpr fun d hd => scps_mem.mp hx d (hperm.mem_iff.mp hd)) (sameB_of (by simp) fun i d hi e => ?_) ?_
    · rw [List.getElem?_append_left (by rw [hlen]; exact hi)] at e
      by_cases h : t = i
      · subst h
        rw [List.getElem?_set_self hi] at e
        cases e
        exact .inr tape_scp
      · rw [List.getElem?_set_ne h] at e
        exact .inl e
    · have : (M.set t (TapeD ns p' n' m') ++ [D.lst [], .lst turned]).take M.length = M.set t (TapeD ns p' n' m') := List.take_left' hlen
      rw [this]
      exact q turned p' n' m' hperm hp' hn'

theorem go {fs : List Fn} {gl : Nat → D} {f k : Nat} {fn : Fn} {ds : List D} {M : Store} {ρ : Env} {Q : FV → Store → Prop} (h : fs[f]? = some fn) (hl : ds.length = fn.np) (h0 : ds.map some ++ List.replicate (fn.ns - fn.np) none = ρ) (q : ((exs ⟨callF fs gl k, gl⟩ fn.body ρ M).bd (endC M)).sat Q) : (callF fs gl (k + 1) f ds M).sat Q := by
  rw [call_eq h, run_eq hl, h0]
  exact q

/-- a comprehension that leaves the store as it is -/
theorem comp_map {C : Ctx} {own : List Nat} {t : T} {e : E} {ρ : Env} {gs : Gd} {its : List D} {M : Store} {β : Type} {K : List D → Store → Rs β} {Q : β → Store → Prop} (g : D → D)
    (h : ∀ d ∈ its, (compC C own t .nil e ρ d M).sat fun f N => f = some (g d) ∧ N = M) (hz : its.length ≤ sl) (hg : okG gs M = true) (q : (K (its.map g) M).sat Q) : ((cmpL (compC C own t .nil e ρ) gs its [] M).bd K).sat Q := by
  refine sat_bdq (comp_i (fun i a N => N = M ∧ a = (its.take i).map g) ⟨rfl, by simp⟩ (fun i a N _ w => by rw [w.1]; exact hg) (fun i a N hi w => by rw [w.2, List.length_map, List.length_take]; omega) hz (fun i a N d hd w => ?_) fun a N w => ?_)
  · obtain ⟨rfl, rfl⟩ := w
    refine sat_mono (h d (List.mem_of_getElem? hd)) fun f N' hf => ?_
    obtain ⟨rfl, rfl⟩ := hf
    refine ⟨rfl, ?_⟩
    rw [List.take_add_one, hd]
    simp
  · obtain ⟨rfl, rfl⟩ := w
    rw [List.take_length]
    exact q
theorem rng_mem {n : Int} {d : D} (h : d ∈ rngD 0 n) : ∃ j : Nat, d = .int j ∧ (j : Int) < n := by
  obtain ⟨i, hi⟩ := List.mem_iff_getElem?.mp h
  exact ⟨i, rng_get hi⟩
theorem rng_len' {n : Int} : (rngD 0 n).length = n.toNat := by
  unfold rngD
  rw [List.length_map, List.length_range]
  omega
end PyI
namespace Lw
open PySem PySem.Spec L2 PyI
open PyProof.Rows hiding St
def top (i : Nat) : Stmt := PySem.Challenge.pw_capkern_k60_work_of_several_systems_by_t.main.body.getD i (.Pass ⟨0, 0, 0, 0⟩)
def b_cycle_of : Ss := (.cons (.ret (.bin .mul (.sub (.var 0) (.con (.int 1))) (.sub (.var 0) (.con (.int 0)))))
  .nil)
def b_parts_of : Ss := (.cons (.ret (.bin .add (.prim .len (.cons (.sub (.var 0) (.con (.int 2))) .nil)) (.con (.int 1))))
  .nil)
def b_work_at : Ss := (.cons (.asg (.nm 2) (.call 0 (.cons (.var 0) .nil)))
  (.cons (.asg (.nm 3) (.bin .mod (.var 1) (.var 2)))
  (.cons (.asg (.nm 4) (.bin .mod (.bin .fdiv (.var 1) (.var 2)) (.con (.int 2))))
  (.cons (.iff (.cmp .lt (.var 3) (.call 1 (.cons (.var 0) .nil))) (.cons (.ret (.tup (.cons (.con (.str "part")) (.cons (.var 4) (.cons (.var 3) .nil)))))
  .nil) .nil)
  (.cons (.iff (.cmp .eq (.var 3) (.bin .sub (.var 2) (.con (.int 3)))) (.cons (.ret (.tup (.cons (.con (.str "flush")) (.cons (.var 4) .nil))))
  .nil) .nil)
  (.cons (.iff (.cmp .eq (.var 3) (.bin .sub (.var 2) (.con (.int 2)))) (.cons (.ret (.tup (.cons (.con (.str "write")) (.cons (.bin .sub (.var 1) (.var 3)) .nil))))
  .nil) .nil)
  (.cons (.iff (.cmp .eq (.var 3) (.bin .sub (.var 2) (.con (.int 1)))) (.cons (.ret (.tup (.cons (.con (.str "end")) .nil)))
  .nil) .nil)
  (.cons (.ret (.con .non))
  .nil))))))))
def b_many_blocks : Ss := (.cons (.ret (.call 4 (.cons (.var 0) (.cons (.con (.int 2)) .nil))))
  .nil)
def b_first_block : Ss := (.cons (.ret (.bin .add (.bin .add (.con (.int 1)) (.prim .len (.cons (.sub (.var 0) (.con (.int 6))) .nil))) (.bin .mul (.var 1) (.call 1 (.cons (.var 0) .nil)))))
  .nil)
def b_back_to : Ss := (.cons (.asg (.nm 4) (.call 0 (.cons (.var 0) .nil)))
  (.cons (.asg (.nm 5) (.bin .mod (.var 1) (.var 4)))
  (.cons (.iff (.cmp .eq (.var 5) (.bin .sub (.var 4) (.con (.int 1)))) (.cons (.forr (.tp (.cons (.nm 6) (.cons (.nm 7) .nil))) .seq (.cons (.var 3) .nil) (.cons (.iff (.and (.cmp .eq (.var 6) (.con (.int 0))) (.cmp .gt (.var 7) (.con (.int 0)))) (.cons (.ret (.bin .sub (.var 1) (.var 5)))
  .nil) .nil)
  .nil))
  .nil) .nil)
  (.cons (.ret (.var 2))
  .nil))))
def b__law_same : Ss := (.cons (.iff (.prim (.isi .tup) (.cons (.var 1) .nil)) (.cons (.iff (.or (.not (.prim (.isi .tup) (.cons (.var 0) .nil))) (.cmp .ne (.prim .len (.cons (.var 0) .nil)) (.prim .len (.cons (.var 1) .nil)))) (.cons (.ret (.con (.bl false)))
  .nil) .nil)
  (.cons (.forr (.nm 2) .rng1 (.cons (.prim .len (.cons (.var 1) .nil)) .nil) (.cons (.iff (.not (.call 6 (.cons (.sub (.var 0) (.var 2)) (.cons (.sub (.var 1) (.var 2)) .nil)))) (.cons (.ret (.con (.bl false)))
  .nil) .nil)
  .nil))
  (.cons (.ret (.con (.bl true)))
  .nil))) .nil)
  (.cons (.iff (.or (.cmp .isn (.var 1) (.con .non)) (.cmp .isn (.var 0) (.con .non))) (.cons (.ret (.and (.cmp .isn (.var 1) (.con .non)) (.cmp .isn (.var 0) (.con .non))))
  .nil) .nil)
  (.cons (.iff (.prim (.isi .str) (.cons (.var 1) .nil)) (.cons (.ret (.and (.prim (.isi .str) (.cons (.var 0) .nil)) (.cmp .eq (.var 0) (.var 1))))
  .nil) .nil)
  (.cons (.iff (.or (.cmp .ne (.prim (.isi .bool) (.cons (.var 0) .nil)) (.prim (.isi .bool) (.cons (.var 1) .nil))) (.not (.prim (.isi .int) (.cons (.var 0) .nil)))) (.cons (.ret (.con (.bl false)))
  .nil) .nil)
  (.cons (.ret (.cmp .eq (.var 0) (.var 1)))
  .nil)))))
def b__law_shuffled : Ss := (.cons (.asg (.nm 2) (.new (.prim .list1 (.cons (.var 1) .nil))))
  (.cons (.asg (.nm 3) (.new (.lst .nil)))
  (.cons (.forr (.nm 4) .rng1 (.cons (.prim .len (.cons (.var 1) .nil)) .nil) (.cons (.exp (.meth .append (.var 3) (.cons (.meth .popAt (.var 2) (.cons (.call 8 (.cons (.var 0) (.cons (.prim .len (.cons (.var 2) .nil)) .nil))) .nil)) .nil)))
  .nil))
  (.cons (.ret (.var 3))
  .nil))))
def b__law_draw : Ss := (.cons (.iff (.cmp .eq (.sub (.var 0) (.con (.int 2))) (.con (.int 0))) (.cons (.asg (.nm 3) (.sub (.var 0) (.con (.int 1))))
  (.cons (.asg (.nm 2) (.con (.int 0)))
  (.cons (.iff (.cmp .lt (.var 3) (.prim .len (.cons (.sub (.var 0) (.con (.int 0))) .nil))) (.cons (.asg (.nm 2) (.prim .abs (.cons (.prim .int1 (.cons (.sub (.sub (.var 0) (.con (.int 0))) (.var 3)) .nil)) .nil)))
  .nil) (.cons (.asg (.sb (.var 0) (.con (.int 3))) (.bin .mod (.prim .int1 (.cons (.bin .add (.bin .add (.bin .mul (.sub (.var 0) (.con (.int 3))) (.con (.int 48271))) (.var 3)) (.con (.int 1))) .nil)) (.con (.int 2147483647))))
  (.cons (.asg (.nm 2) (.sub (.var 0) (.con (.int 3))))
  .nil)))
  (.cons (.asg (.sb (.var 0) (.con (.int 1))) (.bin .add (.var 3) (.con (.int 1))))
  (.cons (.iff (.cmp .lt (.var 2) (.bin .pow (.con (.int 10)) (.con (.int 18)))) (.cons (.asg (.nm 2) (.bin .mod (.prim .int1 (.cons (.bin .add (.bin .add (.bin .mul (.var 2) (.con (.int 48271))) (.bin .mul (.var 3) (.con (.int 69621)))) (.con (.int 5))) .nil)) (.con (.int 2147483647))))
  (.cons (.asg (.nm 2) (.bin .mod (.prim .int1 (.cons (.bin .mul (.var 2) (.con (.int 69621))) .nil)) (.con (.int 2147483629))))
  (.cons (.ret (.bin .mod (.prim .int1 (.cons (.var 2) .nil)) (.prim .max2 (.cons (.var 1) (.cons (.con (.int 1)) .nil)))))
  .nil))) .nil)
  (.cons (.asg (.sb (.var 0) (.con (.int 2))) (.var 2))
  .nil)))))) .nil)
  (.cons (.asg (.nm 2) (.sub (.var 0) (.con (.int 2))))
  (.cons (.asg (.sb (.var 0) (.con (.int 2))) (.bin .fdiv (.var 2) (.prim .max2 (.cons (.var 1) (.cons (.con (.int 2)) .nil)))))
  (.cons (.ret (.bin .mod (.prim .int1 (.cons (.var 2) .nil)) (.prim .max2 (.cons (.var 1) (.cons (.con (.int 1)) .nil)))))
  .nil))))
def b__law_pick : Ss := (.cons (.ret (.sub (.var 1) (.call 8 (.cons (.var 0) (.cons (.prim .len (.cons (.var 1) .nil)) .nil)))))
  .nil)
def b__law_tape : Ss := (.cons (.asg (.nm 1) (.con (.int 7)))
  (.cons (.forr (.nm 2) .seq (.cons (.var 0) .nil) (.cons (.asg (.nm 1) (.bin .mod (.prim .int1 (.cons (.bin .add (.bin .mul (.var 1) (.con (.int 31))) (.prim .abs (.cons (.prim .int1 (.cons (.var 2) .nil)) .nil))) .nil)) (.con (.int 2147483647))))
  .nil))
  (.cons (.ret (.lst (.cons (.prim .list1 (.cons (.var 0) .nil)) (.cons (.con (.int 0)) (.cons (.con (.int 0)) (.cons (.var 1) .nil))))))
  .nil)))
def b__law_d_made : Ss := (.cons (.asg (.nm 4) (.prim .tuple1 (.cons (.comp [7] (.nm 7) .rng1 (.cons (.var 2) .nil) .nil (.bin .add (.con (.str "p")) (.prim .str1 (.cons (.var 7) .nil)))) .nil)))
  (.cons (.asg (.nm 5) (.prim .tuple1 (.cons (.comp [7] (.nm 7) .rng1 (.cons (.var 3) .nil) .nil (.tup (.cons (.bin .add (.con (.str "l")) (.prim .str1 (.cons (.var 7) .nil))) (.cons (.con .non) (.cons (.con (.int 0)) .nil))))) .nil)))
  (.cons (.asg (.nm 6) (.prim .tuple1 (.cons (.comp [7] (.nm 7) .rng1 (.cons (.var 2) .nil) .nil (.tup (.cons (.var 7) (.cons (.con (.int 0)) (.cons (.tup (.cons (.con (.str "time")) (.cons (.var 7) (.cons (.con (.int 1)) .nil)))) (.cons (.con (.str "")) (.cons (.con (.int 0)) .nil))))))) .nil)))
  (.cons (.ret (.tup (.cons (.var 0) (.cons (.var 1) (.cons (.var 4) (.cons (.tup .nil) (.cons (.tup .nil) (.cons (.tup .nil) (.cons (.var 5) (.cons (.tup .nil) (.cons (.var 6) .nil)))))))))))
  .nil))))
def b__law_d_bare : Ss := (.cons (.asg (.nm 1) (.bin .add (.con (.int 1)) (.call 8 (.cons (.var 0) (.cons (.con (.int 6)) .nil)))))
  (.cons (.asg (.nm 2) (.bin .add (.var 1) (.call 8 (.cons (.var 0) (.cons (.bin .sub (.con (.int 13)) (.var 1)) .nil)))))
  (.cons (.asg (.nm 3) (.bin .fdiv (.bin .add (.bin .add (.var 1) (.con (.int 3))) (.var 2)) (.var 2)))
  (.cons (.asg (.nm 4) (.sub (.lst (.cons (.var 3) (.cons (.con (.int 16)) (.cons (.bin .add (.var 3) (.call 8 (.cons (.var 0) (.cons (.bin .sub (.con (.int 17)) (.var 3)) .nil)))) .nil)))) (.call 8 (.cons (.var 0) (.cons (.con (.int 3)) .nil)))))
  (.cons (.ret (.call 11 (.cons (.var 2) (.cons (.var 4) (.cons (.var 1) (.cons (.call 8 (.cons (.var 0) (.cons (.con (.int 4)) .nil))) .nil))))))
  .nil)))))
def b__law_d_near : Ss := (.cons (.asg (.tp (.cons (.nm 2) (.cons (.nm 3) (.cons (.nm 4) (.cons (.nm 5) .nil))))) (.tup (.cons (.sub (.var 1) (.con (.int 0))) (.cons (.sub (.var 1) (.con (.int 1))) (.cons (.prim .len (.cons (.sub (.var 1) (.con (.int 2))) .nil)) (.cons (.prim .len (.cons (.sub (.var 1) (.con (.int 6))) .nil)) .nil))))))
  (.cons (.asg (.nm 6) (.call 8 (.cons (.var 0) (.cons (.con (.int 4)) .nil))))
  (.cons (.iff (.cmp .eq (.var 6) (.con (.int 0))) (.cons (.ret (.call 12 (.cons (.var 0) .nil)))
  .nil) .nil)
  (.cons (.iff (.cmp .eq (.var 6) (.con (.int 1))) (.cons (.ret (.call 11 (.cons (.var 2) (.cons (.ife (.cmp .lt (.var 3) (.con (.int 16))) (.bin .add (.var 3) (.con (.int 1))) (.con (.int 15))) (.cons (.var 4) (.cons (.var 5) .nil))))))
  .nil) .nil)
  (.cons (.iff (.and (.cmp .eq (.var 6) (.con (.int 2))) (.and (.cmp .lt (.var 4) (.con (.int 6))) (.and (.cmp .lt (.var 4) (.var 2)) (.cmp .le (.bin .add (.var 4) (.con (.int 5))) (.bin .mul (.var 3) (.var 2)))))) (.cons (.ret (.call 11 (.cons (.var 2) (.cons (.var 3) (.cons (.bin .add (.var 4) (.con (.int 1))) (.cons (.var 5) .nil))))))
  .nil) .nil)
  (.cons (.ret (.call 11 (.cons (.var 2) (.cons (.var 3) (.cons (.var 4) (.cons (.bin .fdiv (.bin .add (.var 5) (.con (.int 1))) (.bin .add (.con (.int 1)) (.bin .fdiv (.var 5) (.con (.int 3))))) .nil))))))
  .nil))))))
def b__law_d_work : Ss := (.cons (.asg (.nm 2) (.bin .mul (.sub (.var 0) (.con (.int 0))) (.sub (.var 0) (.con (.int 1)))))
  (.cons (.asg (.nm 3) (.bin .mod (.prim .int1 (.cons (.var 1) .nil)) (.var 2)))
  (.cons (.asg (.nm 4) (.bin .fdiv (.var 1) (.var 2)))
  (.cons (.iff (.cmp .le (.var 3) (.prim .len (.cons (.sub (.var 0) (.con (.int 2))) .nil))) (.cons (.ret (.tup (.cons (.con (.str "part")) (.cons (.bin .mod (.prim .int1 (.cons (.var 4) .nil)) (.con (.int 2))) (.cons (.var 3) .nil)))))
  .nil) .nil)
  (.cons (.iff (.cmp .lt (.var 3) (.bin .sub (.var 2) (.con (.int 3)))) (.cons (.ret (.con .non))
  .nil) .nil)
  (.cons (.ret (.sub (.lst (.cons (.tup (.cons (.con (.str "flush")) (.cons (.bin .mod (.prim .int1 (.cons (.var 4) .nil)) (.con (.int 2))) .nil))) (.cons (.tup (.cons (.con (.str "write")) (.cons (.bin .mul (.var 2) (.var 4)) .nil))) (.cons (.tup (.cons (.con (.str "end")) .nil)) .nil)))) (.bin .add (.bin .sub (.var 3) (.var 2)) (.con (.int 3)))))
  .nil))))))
def b__law_d_back : Ss := (.cons (.asg (.nm 4) (.bin .mul (.sub (.var 0) (.con (.int 0))) (.sub (.var 0) (.con (.int 1)))))
  (.cons (.asg (.nm 5) (.meth .get2 (.prim .dict1 (.cons (.prim .list1 (.cons (.var 3) .nil)) .nil)) (.cons (.con (.int 0)) (.cons (.con (.int 0)) .nil))))
  (.cons (.iff (.and (.cmp .eq (.bin .mod (.prim .int1 (.cons (.bin .add (.var 1) (.con (.int 1))) .nil)) (.var 4)) (.con (.int 0))) (.cmp .gt (.var 5) (.con (.int 0)))) (.cons (.ret (.bin .sub (.bin .add (.var 1) (.con (.int 1))) (.var 4)))
  .nil) .nil)
  (.cons (.ret (.var 2))
  .nil))))
def b__law_d_ticked : Ss := (.cons (.asg (.nm 3) (.call 9 (.cons (.var 0) (.cons (.var 1) .nil))))
  (.cons (.asg (.nm 4) (.bin .mul (.sub (.var 3) (.con (.int 0))) (.sub (.var 3) (.con (.int 1)))))
  (.cons (.asg (.nm 5) (.prim .len (.cons (.sub (.var 3) (.con (.int 2))) .nil)))
  (.cons (.asg (.nm 6) (.call 9 (.cons (.var 0) (.cons (.lst (.cons (.bin .sub (.var 4) (.con (.int 1))) (.cons (.bin .sub (.var 4) (.con (.int 2))) (.cons (.bin .sub (.var 4) (.con (.int 3))) (.cons (.con (.int 0)) (.cons (.var 5) (.cons (.bin .add (.var 5) (.con (.int 1))) (.cons (.call 8 (.cons (.var 0) (.cons (.var 4) .nil))) .nil)))))))) .nil))))
  (.cons (.iff (.cmp .eq (.call 8 (.cons (.var 0) (.cons (.con (.int 4)) .nil))) (.con (.int 0))) (.cons (.ret (.call 8 (.cons (.var 0) (.cons (.var 2) .nil))))
  .nil) .nil)
  (.cons (.ret (.bin .add (.bin .mul (.var 4) (.call 8 (.cons (.var 0) (.cons (.bin .fdiv (.var 2) (.var 4)) .nil)))) (.var 6)))
  .nil))))))
def b__law_d_backs : Ss := (.cons (.asg (.nm 3) (.prim .tuple1 (.cons (.comp [12] (.nm 12) .rng1 (.cons (.con (.int 5)) .nil) (.cons (.cmp .gt (.call 8 (.cons (.var 0) (.cons (.con (.int 3)) .nil))) (.con (.int 0))) .nil) (.tup (.cons (.var 12) (.cons (.call 8 (.cons (.var 0) (.cons (.con (.int 10)) .nil))) .nil)))) .nil)))
  (.cons (.iff (.cmp .eq (.call 8 (.cons (.var 0) (.cons (.con (.int 2)) .nil))) (.con (.int 0))) (.cons (.asg (.nm 7) (.prim .minl (.cons (.comp [13] (.nm 13) .seq (.cons (.var 1) .nil) .nil (.bin .mul (.sub (.var 13) (.con (.int 0))) (.sub (.var 13) (.con (.int 1))))) .nil)))
  (.cons (.asg (.nm 5) (.bin .add (.bin .mul (.var 7) (.call 8 (.cons (.var 0) (.cons (.con (.int 2)) .nil)))) (.call 9 (.cons (.var 0) (.cons (.lst (.cons (.bin .sub (.var 7) (.con (.int 1))) (.cons (.call 8 (.cons (.var 0) (.cons (.var 7) .nil))) .nil))) .nil)))))
  (.cons (.asg (.nm 8) (.comp [4] (.nm 4) .seq (.cons (.var 2) .nil) .nil (.tup (.cons (.var 4) (.cons (.var 5) (.cons (.con (.int 0)) .nil))))))
  .nil))) (.cons (.asg (.nm 5) (.call 16 (.cons (.var 0) (.cons (.var 1) (.cons (.con (.int 9999)) .nil)))))
  (.cons (.asg (.nm 9) (.call 8 (.cons (.var 0) (.cons (.con (.int 2)) .nil))))
  (.cons (.asg (.nm 10) (.comp [13] (.nm 13) .seq (.cons (.var 1) .nil) .nil (.bin .mul (.sub (.var 13) (.con (.int 0))) (.sub (.var 13) (.con (.int 1))))))
  (.cons (.asg (.nm 8) (.comp [4] (.nm 4) .seq (.cons (.var 2) .nil) .nil (.tup (.cons (.var 4) (.cons (.var 5) (.cons (.bin .mul (.sub (.var 10) (.var 4)) (.prim .max2 (.cons (.con (.int 0)) (.cons (.bin .sub (.bin .fdiv (.var 5) (.sub (.var 10) (.var 4))) (.var 9)) .nil)))) .nil))))))
  .nil)))))
  (.cons (.forr (.tp (.cons (.nm 4) (.cons (.nm 5) (.cons (.nm 6) .nil)))) .seq (.cons (.var 8) .nil) (.cons (.asg (.nm 11) (.call 15 (.cons (.sub (.var 1) (.var 4)) (.cons (.var 5) (.cons (.var 6) (.cons (.var 3) .nil))))))
  (.cons (.iff (.or (.not (.call 6 (.cons (.call 5 (.cons (.sub (.var 1) (.var 4)) (.cons (.var 5) (.cons (.var 6) (.cons (.var 3) .nil))))) (.cons (.var 11) .nil)))) (.cmp .gt (.bin .sub (.var 5) (.var 11)) (.bin .sub (.bin .mul (.bin .mul (.con (.int 2)) (.sub (.sub (.var 1) (.var 4)) (.con (.int 0)))) (.sub (.sub (.var 1) (.var 4)) (.con (.int 1)))) (.con (.int 1))))) (.cons (.ret (.con (.bl false)))
  .nil) .nil)
  .nil)))
  (.cons (.ret (.con (.bl true)))
  .nil))))
def b__law_d_blocks : Ss := (.cons (.forr (.nm 3) .seq (.cons (.var 1) .nil) (.cons (.asg (.nm 4) (.bin .add (.prim .len (.cons (.sub (.sub (.var 0) (.var 3)) (.con (.int 2))) .nil)) (.con (.int 1))))
  (.cons (.asg (.nm 5) (.bin .add (.bin .add (.con (.int 1)) (.prim .len (.cons (.sub (.sub (.var 0) (.var 3)) (.con (.int 6))) .nil))) (.bin .mul (.var 2) (.var 4))))
  (.cons (.iff (.and (.cmp .lt (.var 2) (.con (.int 2))) (.not (.call 6 (.cons (.call 4 (.cons (.sub (.var 0) (.var 3)) (.cons (.var 2) .nil))) (.cons (.var 5) .nil))))) (.cons (.ret (.con (.bl false)))
  .nil) .nil)
  (.cons (.iff (.and (.cmp .eq (.var 2) (.con (.int 2))) (.not (.call 6 (.cons (.call 3 (.cons (.sub (.var 0) (.var 3)) .nil)) (.cons (.var 5) .nil))))) (.cons (.ret (.con (.bl false)))
  .nil) .nil)
  .nil)))))
  (.cons (.ret (.con (.bl true)))
  .nil))
def b_law : Ss := (.cons (.asg (.nm 1) (.new (.call 10 (.cons (.var 0) .nil))))
  (.cons (.asg (.nm 2) (.new (.lst (.cons (.call 12 (.cons (.var 1) .nil)) .nil))))
  (.cons (.forr (.nm 3) .rng1 (.cons (.bin .add (.con (.int 1)) (.call 8 (.cons (.var 1) (.cons (.con (.int 2)) .nil)))) .nil) (.cons (.exp (.meth .append (.var 2) (.cons (.call 13 (.cons (.var 1) (.cons (.sub (.var 2) (.con (.int 0))) .nil))) .nil)))
  .nil))
  (.cons (.forr (.nm 3) .rng1 (.cons (.bin .add (.con (.int 3)) (.call 8 (.cons (.var 1) (.cons (.con (.int 4)) .nil)))) .nil) (.cons (.asg (.nm 4) (.call 7 (.cons (.var 1) (.cons (.prim .lrng1 (.cons (.prim .len (.cons (.var 2) .nil)) .nil)) .nil))))
  (.cons (.asg (.nm 4) (.bin .add (.var 4) (.slc (.var 4) .nil (.cons (.con (.int 1)) .nil))))
  (.cons (.asg (.nm 5) (.call 8 (.cons (.var 1) (.cons (.con (.int 3)) .nil))))
  (.cons (.iff (.cmp .eq (.var 5) (.con (.int 0))) (.cons (.asg (.nm 6) (.call 16 (.cons (.var 1) (.cons (.var 2) (.cons (.con (.int 9999)) .nil)))))
  (.cons (.forr (.nm 7) .seq (.cons (.var 4) .nil) (.cons (.iff (.not (.call 6 (.cons (.call 2 (.cons (.sub (.var 2) (.var 7)) (.cons (.var 6) .nil))) (.cons (.call 14 (.cons (.sub (.var 2) (.var 7)) (.cons (.var 6) .nil))) .nil)))) (.cons (.ret (.con (.bl false)))
  .nil) .nil)
  .nil))
  .nil)) .nil)
  (.cons (.iff (.and (.cmp .eq (.var 5) (.con (.int 1))) (.not (.call 18 (.cons (.var 2) (.cons (.var 4) (.cons (.call 8 (.cons (.var 1) (.cons (.con (.int 3)) .nil))) .nil)))))) (.cons (.ret (.con (.bl false)))
  .nil) .nil)
  (.cons (.iff (.and (.cmp .eq (.var 5) (.con (.int 2))) (.not (.call 17 (.cons (.var 1) (.cons (.var 2) (.cons (.var 4) .nil)))))) (.cons (.ret (.con (.bl false)))
  .nil) .nil)
  .nil)))))))
  (.cons (.ret (.con (.bl true)))
  .nil)))))
def r_cycle_of : DR := ⟨"cycle_of", defArgs (top 1), defBody (top 1), defScope (top 1), ["system"], b_cycle_of⟩
def r_parts_of : DR := ⟨"parts_of", defArgs (top 2), defBody (top 2), defScope (top 2), ["system"], b_parts_of⟩
def r_work_at : DR := ⟨"work_at", defArgs (top 4), defBody (top 4), defScope (top 4), ["system", "tick", "cycle", "stage", "area"], b_work_at⟩
def r_many_blocks : DR := ⟨"many_blocks", defArgs (top 5), defBody (top 5), defScope (top 5), ["system"], b_many_blocks⟩
def r_first_block : DR := ⟨"first_block", defArgs (top 6), defBody (top 6), defScope (top 6), ["system", "area"], b_first_block⟩
def r_back_to : DR := ⟨"back_to", defArgs (top 7), defBody (top 7), defScope (top 7), ["system", "tick", "mark", "kept", "cycle", "stage", "block", "many"], b_back_to⟩
def r__law_same : DR := ⟨"_law_same", defArgs (top 9), defBody (top 9), defScope (top 9), ["told", "wanted", "k"], b__law_same⟩
def r__law_shuffled : DR := ⟨"_law_shuffled", defArgs (top 10), defBody (top 10), defScope (top 10), ["tape", "menu", "left", "turned", "k"], b__law_shuffled⟩
def r__law_draw : DR := ⟨"_law_draw", defArgs (top 11), defBody (top 11), defScope (top 11), ["tape", "many", "number", "place"], b__law_draw⟩
def r__law_pick : DR := ⟨"_law_pick", defArgs (top 12), defBody (top 12), defScope (top 12), ["tape", "menu"], b__law_pick⟩
def r__law_tape : DR := ⟨"_law_tape", defArgs (top 13), defBody (top 13), defScope (top 13), ["script", "mixed", "cell"], b__law_tape⟩
def r__law_d_made : DR := ⟨"_law_d_made", defArgs (top 14), defBody (top 14), defScope (top 14), ["period", "interval", "many", "lines", "processes", "told", "caps", "k"], b__law_d_made⟩
def r__law_d_bare : DR := ⟨"_law_d_bare", defArgs (top 15), defBody (top 15), defScope (top 15), ["tape", "many", "period", "least", "interval"], b__law_d_bare⟩
def r__law_d_near : DR := ⟨"_law_d_near", defArgs (top 16), defBody (top 16), defScope (top 16), ["tape", "system", "period", "interval", "many", "lines", "how"], b__law_d_near⟩
def r__law_d_work : DR := ⟨"_law_d_work", defArgs (top 17), defBody (top 17), defScope (top 17), ["system", "tick", "cycle", "stage", "number"], b__law_d_work⟩
def r__law_d_back : DR := ⟨"_law_d_back", defArgs (top 18), defBody (top 18), defScope (top 18), ["system", "tick", "mark", "kept", "cycle", "many"], b__law_d_back⟩
def r__law_d_ticked : DR := ⟨"_law_d_ticked", defArgs (top 19), defBody (top 19), defScope (top 19), ["tape", "systems", "most", "system", "cycle", "least", "stage"], b__law_d_ticked⟩
def r__law_d_backs : DR := ⟨"_law_d_backs", defArgs (top 20), defBody (top 20), defScope (top 20), ["tape", "systems", "order", "kept", "k", "tick", "mark", "least", "rows", "behind", "cycles", "due", "block", "system"], b__law_d_backs⟩
def r__law_d_blocks : DR := ⟨"_law_d_blocks", defArgs (top 21), defBody (top 21), defScope (top 21), ["systems", "order", "area", "k", "parts", "first"], b__law_d_blocks⟩
def r_law : DR := ⟨"law", defArgs (top 22), defBody (top 22), defScope (top 22), ["script", "tape", "systems", "k", "order", "door", "tick", "j"], b_law⟩
def drs : List DR := ([r_cycle_of, r_parts_of, r_work_at, r_many_blocks, r_first_block, r_back_to, r__law_same, r__law_shuffled, r__law_draw, r__law_pick, r__law_tape, r__law_d_made, r__law_d_bare, r__law_d_near, r__law_d_work, r__law_d_back] : List DR) ++ ([r__law_d_ticked, r__law_d_backs, r__law_d_blocks, r_law] : List DR)
def gls : List (Str × Nat) := ([] : List (Str × Nat))
def bl : List Str := (["isinstance", "tuple", "str", "list", "range", "len", "max", "int", "min", "bool", "abs", "dict"] : List Str)
def fnT : List (Str × Nat) := ([("cycle_of", 0), ("parts_of", 1), ("work_at", 2), ("many_blocks", 3), ("first_block", 4), ("back_to", 5), ("_law_same", 6), ("_law_shuffled", 7), ("_law_draw", 8), ("_law_pick", 9), ("_law_tape", 10), ("_law_d_made", 11), ("_law_d_bare", 12), ("_law_d_near", 13), ("_law_d_work", 14), ("_law_d_back", 15)] : List (Str × Nat)) ++ ([("_law_d_ticked", 16), ("_law_d_backs", 17), ("_law_d_blocks", 18), ("law", 19)] : List (Str × Nat))
theorem fnT_eq : fnsOf drs = fnT := by decide +kernel
theorem ok_cycle_of : DR.ok fnT gls bl r_cycle_of = true := by decide +kernel
theorem ok_parts_of : DR.ok fnT gls bl r_parts_of = true := by decide +kernel
theorem ok_work_at : DR.ok fnT gls bl r_work_at = true := by decide +kernel
theorem ok_many_blocks : DR.ok fnT gls bl r_many_blocks = true := by decide +kernel
theorem ok_first_block : DR.ok fnT gls bl r_first_block = true := by decide +kernel
theorem ok_back_to : DR.ok fnT gls bl r_back_to = true := by decide +kernel
theorem ok__law_same : DR.ok fnT gls bl r__law_same = true := by decide +kernel
theorem ok__law_shuffled : DR.ok fnT gls bl r__law_shuffled = true := by decide +kernel
theorem ok__law_draw : DR.ok fnT gls bl r__law_draw = true := by decide +kernel
theorem ok__law_pick : DR.ok fnT gls bl r__law_pick = true := by decide +kernel
theorem ok__law_tape : DR.ok fnT gls bl r__law_tape = true := by decide +kernel
theorem ok__law_d_made : DR.ok fnT gls bl r__law_d_made = true := by decide +kernel
theorem ok__law_d_bare : DR.ok fnT gls bl r__law_d_bare = true := by decide +kernel
theorem ok__law_d_near : DR.ok fnT gls bl r__law_d_near = true := by decide +kernel
theorem ok__law_d_work : DR.ok fnT gls bl r__law_d_work = true := by decide +kernel
theorem ok__law_d_back : DR.ok fnT gls bl r__law_d_back = true := by decide +kernel
theorem ok__law_d_ticked : DR.ok fnT gls bl r__law_d_ticked = true := by decide +kernel
theorem ok__law_d_backs : DR.ok fnT gls bl r__law_d_backs = true := by decide +kernel
theorem ok__law_d_blocks : DR.ok fnT gls bl r__law_d_blocks = true := by decide +kernel
theorem ok_law : DR.ok fnT gls bl r_law = true := by decide +kernel
theorem all_ok : (drs.all (DR.ok (fnsOf drs) gls bl)) = true := by
  rw [fnT_eq]
  simp only [drs, List.all_append, List.all_cons, List.all_nil, Bool.and_true, Bool.and_eq_true]
  exact ⟨⟨ok_cycle_of, ok_parts_of, ok_work_at, ok_many_blocks, ok_first_block, ok_back_to, ok__law_same, ok__law_shuffled, ok__law_draw, ok__law_pick, ok__law_tape, ok__law_d_made, ok__law_d_bare, ok__law_d_near, ok__law_d_work, ok__law_d_back⟩, ⟨ok__law_d_ticked, ok__law_d_backs, ok__law_d_blocks, ok_law⟩⟩
end Lw
namespace Lw
open PySem PyI
def gl : Nat → D := fun _ => .non
abbrev fs : List Fn := drs.map DR.fn
theorem f_draw : fs[8]? = some ⟨2, 4, B_law_draw⟩ := rfl
theorem f_pick : fs[9]? = some ⟨2, 2, B_law_pick 8⟩ := rfl
theorem f_shuf : fs[7]? = some ⟨2, 5, B_law_shuffled 8⟩ := rfl
theorem f_same : fs[6]? = some ⟨2, 3, B_law_same 6⟩ := rfl
theorem f_tape : fs[10]? = some ⟨1, 3, B_law_tape⟩ := rfl
def sysD (p i : Int) (ps ls cs : List D) : D := .tup [.int p, .int i, .tup ps, .tup [], .tup [], .tup [], .tup ls, .tup [], .tup cs]
structure SysOk (p i : Int) (ps ls cs : List D) : Prop where
  p1 : 1 ≤ p
  p2 : p ≤ 20
  i1 : 1 ≤ i
  i2 : i ≤ 20
  l1 : 1 ≤ ps.length
  l2 : ps.length ≤ 20
  l3 : ls.length ≤ 20
  s1 : D.scps 0 ps = true
  s2 : D.scps 0 ls = true
  s3 : D.scps 0 cs = true
section
variable {k : Nat} {M : Store} {p i t : Int} {ps ls cs : List D}
theorem s0 : ixS (sysD p i ps ls cs) (.int 0) M = .ok (.v (.int p)) M := rfl
theorem s1 : ixS (sysD p i ps ls cs) (.int 1) M = .ok (.v (.int i)) M := rfl
theorem s2 : ixS (sysD p i ps ls cs) (.int 2) M = .ok (.v (.tup ps)) M := rfl
theorem s6 : ixS (sysD p i ps ls cs) (.int 6) M = .ok (.v (.tup ls)) M := rfl
theorem lks : look M (sysD p i ps ls cs) = sysD p i ps ls cs := rfl
theorem cycle_ok (h : SysOk p i ps ls cs) : callF fs gl (k + 1) 0 [sysD p i ps ls cs] M = .ok (.v (.int (i * p))) M := by
  have := h.i1; have := h.i2
  refine eq_sat (go (fn := ⟨1, 1, b_cycle_of⟩) (ρ := [some (sysD p i ps ls cs)]) rfl rfl rfl ?_)
  simp only [b_cycle_of, exs_n, exs_c, cf_nx, cf_rt, cf_bk, cf_ct, ex_nm, setC_eq, ex_tp, ex_sb, asgC_eq, at_nm, at_tp, at_sb, ats_n, ats_c, ex_exp, ex_ret, ex_retN, ex_pass, ex_brk, ex_cont, ex_par, ex_iff, iffC_t, iffC_f, iffC_n, ex_for, forC_eq, turnC_eq, ev_con, ev_glo, ev_var, ev_tup, ev_lst, ev_bin, ev_neg, ev_cmp, ev_sub, ev_call, ev_prim, primC_eq, ev_meth, ev_and, ev_or, ev_not, ev_ife, ifeC_t, ifeC_f, ev_slc, ev_new, newC_f, ev_comp, evs_n, evs_c, evT_eq, endC_rt, endC_nx, lk_int, lk_bl, lk_str, lk_non, lk_tup, lk_lst, lk_dct, lk_scr, lk_ref, fd_v, fd_f, tr_bl, tr_int, tr_non, tr_tup, tr_lst, tR_some, bR_some, vR_some, oI_some, gd_t, o_add, o_sub, o_mul, o_fdiv, o_mod, o_pow, o_addt, o_addl, o_adds, o_neg, c_eq, c_ne, c_lt, c_gt, c_le, c_ge, c_isn, c_notn, q_int, q_str, q_bl, q_map, i_tup, i_lst, ai_0, ai_1, ai_2, ai_3, ai_4, ai_5, ai_6, ai_7, ai_8, ai_9, ai_10, ai_11, bd_ok, bdd_ok, sat_ok, List.getElem?_cons_succ, List.getElem?_cons_zero, List.set_cons_succ, List.set_cons_zero, List.map_cons, List.map_nil, bd_bd, bdd_bd, bdd_bdd, bd_bdd, kc_eq, kd_eq, Int.reduceLT, Int.reduceLE, Int.reduceToNat, Int.reducePow, decide_true, decide_false, Bool.and_true, Bool.true_and, Bool.or_true, Bool.true_or, if_true, if_false, reduceCtorEq, andC_t, andC_f, orC_t, orC_f, Bool.not_true, Bool.not_false, ne_eq, not_true_eq_false, not_false_eq_true, Option.map_some, eq_self, compC_eq, compT_eq, compE_t, compE_f, wp_n, wp_c, evTs_n, evTs_1, lks, s0, s1]
  rw [inW_i (i := i) (by omega) (by omega)]
  simp only [exs_n, exs_c, cf_nx, cf_rt, cf_bk, cf_ct, ex_nm, setC_eq, ex_tp, ex_sb, asgC_eq, at_nm, at_tp, at_sb, ats_n, ats_c, ex_exp, ex_ret, ex_retN, ex_pass, ex_brk, ex_cont, ex_par, ex_iff, iffC_t, iffC_f, iffC_n, ex_for, forC_eq, turnC_eq, ev_con, ev_glo, ev_var, ev_tup, ev_lst, ev_bin, ev_neg, ev_cmp, ev_sub, ev_call, ev_prim, primC_eq, ev_meth, ev_and, ev_or, ev_not, ev_ife, ifeC_t, ifeC_f, ev_slc, ev_new, newC_f, ev_comp, evs_n, evs_c, evT_eq, endC_rt, endC_nx, lk_int, lk_bl, lk_str, lk_non, lk_tup, lk_lst, lk_dct, lk_scr, lk_ref, fd_v, fd_f, tr_bl, tr_int, tr_non, tr_tup, tr_lst, tR_some, bR_some, vR_some, oI_some, gd_t, o_add, o_sub, o_mul, o_fdiv, o_mod, o_pow, o_addt, o_addl, o_adds, o_neg, c_eq, c_ne, c_lt, c_gt, c_le, c_ge, c_isn, c_notn, q_int, q_str, q_bl, q_map, i_tup, i_lst, ai_0, ai_1, ai_2, ai_3, ai_4, ai_5, ai_6, ai_7, ai_8, ai_9, ai_10, ai_11, bd_ok, bdd_ok, sat_ok, List.getElem?_cons_succ, List.getElem?_cons_zero, List.set_cons_succ, List.set_cons_zero, List.map_cons, List.map_nil, bd_bd, bdd_bd, bdd_bdd, bd_bdd, kc_eq, kd_eq, Int.reduceLT, Int.reduceLE, Int.reduceToNat, Int.reducePow, decide_true, decide_false, Bool.and_true, Bool.true_and, Bool.or_true, Bool.true_or, if_true, if_false, reduceCtorEq, andC_t, andC_f, orC_t, orC_f, Bool.not_true, Bool.not_false, ne_eq, not_true_eq_false, not_false_eq_true, Option.map_some, eq_self, compC_eq, compT_eq, compE_t, compE_f, wp_n, wp_c, evTs_n, evTs_1]
  exact exit_p rfl rfl ⟨rfl, rfl⟩
theorem parts_ok (h : SysOk p i ps ls cs) : callF fs gl (k + 1) 1 [sysD p i ps ls cs] M = .ok (.v (.int (ps.length + 1))) M := by
  refine eq_sat (go (fn := ⟨1, 1, b_parts_of⟩) (ρ := [some (sysD p i ps ls cs)]) rfl rfl rfl ?_)
  simp only [b_parts_of, exs_n, exs_c, cf_nx, cf_rt, cf_bk, cf_ct, ex_nm, setC_eq, ex_tp, ex_sb, asgC_eq, at_nm, at_tp, at_sb, ats_n, ats_c, ex_exp, ex_ret, ex_retN, ex_pass, ex_brk, ex_cont, ex_par, ex_iff, iffC_t, iffC_f, iffC_n, ex_for, forC_eq, turnC_eq, ev_con, ev_glo, ev_var, ev_tup, ev_lst, ev_bin, ev_neg, ev_cmp, ev_sub, ev_call, ev_prim, primC_eq, ev_meth, ev_and, ev_or, ev_not, ev_ife, ifeC_t, ifeC_f, ev_slc, ev_new, newC_f, ev_comp, evs_n, evs_c, evT_eq, endC_rt, endC_nx, lk_int, lk_bl, lk_str, lk_non, lk_tup, lk_lst, lk_dct, lk_scr, lk_ref, fd_v, fd_f, tr_bl, tr_int, tr_non, tr_tup, tr_lst, tR_some, bR_some, vR_some, oI_some, gd_t, o_add, o_sub, o_mul, o_fdiv, o_mod, o_pow, o_addt, o_addl, o_adds, o_neg, c_eq, c_ne, c_lt, c_gt, c_le, c_ge, c_isn, c_notn, q_int, q_str, q_bl, q_map, i_tup, i_lst, ai_0, ai_1, ai_2, ai_3, ai_4, ai_5, ai_6, ai_7, ai_8, ai_9, ai_10, ai_11, bd_ok, bdd_ok, sat_ok, List.getElem?_cons_succ, List.getElem?_cons_zero, List.set_cons_succ, List.set_cons_zero, List.map_cons, List.map_nil, bd_bd, bdd_bd, bdd_bdd, bd_bdd, kc_eq, kd_eq, Int.reduceLT, Int.reduceLE, Int.reduceToNat, Int.reducePow, decide_true, decide_false, Bool.and_true, Bool.true_and, Bool.or_true, Bool.true_or, if_true, if_false, reduceCtorEq, andC_t, andC_f, orC_t, orC_f, Bool.not_true, Bool.not_false, ne_eq, not_true_eq_false, not_false_eq_true, Option.map_some, eq_self, compC_eq, compT_eq, compE_t, compE_f, wp_n, wp_c, evTs_n, evTs_1, lks, s2, q_lent]
  exact exit_p rfl rfl ⟨rfl, rfl⟩
def workD (c l t : Int) : D := if t % c < l + 1 then .tup [.str "part", .int (t / c % 2), .int (t % c)] else if t % c = c - 3 then .tup [.str "flush", .int (t / c % 2)]
  else if t % c = c - 2 then .tup [.str "write", .int (t - t % c)] else if t % c = c - 1 then .tup [.str "end"] else .non
theorem cyc (h : SysOk p i ps ls cs) : 1 ≤ i * p ∧ i * p ≤ 400 := by
  have := h.p1; have := h.p2; have := h.i1; have := h.i2
  constructor
  · have := Int.mul_pos (a := i) (b := p) (by omega) (by omega)
    omega
  · calc i * p ≤ 20 * 20 := Int.mul_le_mul (by omega) (by omega) (by omega) (by omega)
      _ = 400 := rfl
theorem work_ok (h : SysOk p i ps ls cs) : callF fs gl (k + 2) 2 [sysD p i ps ls cs, .int t] M = .ok (.v (workD (i * p) ps.length t)) M := by
  obtain ⟨c1, c2⟩ := cyc h
  have g1 : (decide (0 < i * p)) = true := decide_eq_true (by omega)
  have g2 : inW (i * p) = true := inW_i (by omega) (by omega)
  have g3 : inW 2 = true := by decide
  refine eq_sat (go (fn := ⟨2, 5, b_work_at⟩) (ρ := [some (sysD p i ps ls cs), some (.int t), none, none, none]) rfl rfl rfl ?_)
  simp only [b_work_at, exs_n, exs_c, cf_nx, cf_rt, cf_bk, cf_ct, ex_nm, setC_eq, ex_tp, ex_sb, asgC_eq, at_nm, at_tp, at_sb, ats_n, ats_c, ex_exp, ex_ret, ex_retN, ex_pass, ex_brk, ex_cont, ex_par, ex_iff, iffC_t, iffC_f, iffC_n, ex_for, forC_eq, turnC_eq, ev_con, ev_glo, ev_var, ev_tup, ev_lst, ev_bin, ev_neg, ev_cmp, ev_sub, ev_call, ev_prim, primC_eq, ev_meth, ev_and, ev_or, ev_not, ev_ife, ifeC_t, ifeC_f, ev_slc, ev_new, newC_f, ev_comp, evs_n, evs_c, evT_eq, endC_rt, endC_nx, lk_int, lk_bl, lk_str, lk_non, lk_tup, lk_lst, lk_dct, lk_scr, lk_ref, fd_v, fd_f, tr_bl, tr_int, tr_non, tr_tup, tr_lst, tR_some, bR_some, vR_some, oI_some, gd_t, o_add, o_sub, o_mul, o_fdiv, o_mod, o_pow, o_addt, o_addl, o_adds, o_neg, c_eq, c_ne, c_lt, c_gt, c_le, c_ge, c_isn, c_notn, q_int, q_str, q_bl, q_map, i_tup, i_lst, ai_0, ai_1, ai_2, ai_3, ai_4, ai_5, ai_6, ai_7, ai_8, ai_9, ai_10, ai_11, bd_ok, bdd_ok, sat_ok, List.getElem?_cons_succ, List.getElem?_cons_zero, List.set_cons_succ, List.set_cons_zero, List.map_cons, List.map_nil, bd_bd, bdd_bd, bdd_bdd, bd_bdd, kc_eq, kd_eq, Int.reduceLT, Int.reduceLE, Int.reduceToNat, Int.reducePow, decide_true, decide_false, Bool.and_true, Bool.true_and, Bool.or_true, Bool.true_or, if_true, if_false, reduceCtorEq, andC_t, andC_f, orC_t, orC_f, Bool.not_true, Bool.not_false, ne_eq, not_true_eq_false, not_false_eq_true, Option.map_some, eq_self, compC_eq, compT_eq, compE_t, compE_f, wp_n, wp_c, evTs_n, evTs_1, lks, cycle_ok h, parts_ok h, g1, g2, g3]
  unfold workD
  refine iff_i (fun h1 => ?_) (fun h1 => ?_)
  · simp only [exs_n, exs_c, cf_nx, cf_rt, cf_bk, cf_ct, ex_nm, setC_eq, ex_tp, ex_sb, asgC_eq, at_nm, at_tp, at_sb, ats_n, ats_c, ex_exp, ex_ret, ex_retN, ex_pass, ex_brk, ex_cont, ex_par, ex_iff, iffC_t, iffC_f, iffC_n, ex_for, forC_eq, turnC_eq, ev_con, ev_glo, ev_var, ev_tup, ev_lst, ev_bin, ev_neg, ev_cmp, ev_sub, ev_call, ev_prim, primC_eq, ev_meth, ev_and, ev_or, ev_not, ev_ife, ifeC_t, ifeC_f, ev_slc, ev_new, newC_f, ev_comp, evs_n, evs_c, evT_eq, endC_rt, endC_nx, lk_int, lk_bl, lk_str, lk_non, lk_tup, lk_lst, lk_dct, lk_scr, lk_ref, fd_v, fd_f, tr_bl, tr_int, tr_non, tr_tup, tr_lst, tR_some, bR_some, vR_some, oI_some, gd_t, o_add, o_sub, o_mul, o_fdiv, o_mod, o_pow, o_addt, o_addl, o_adds, o_neg, c_eq, c_ne, c_lt, c_gt, c_le, c_ge, c_isn, c_notn, q_int, q_str, q_bl, q_map, i_tup, i_lst, ai_0, ai_1, ai_2, ai_3, ai_4, ai_5, ai_6, ai_7, ai_8, ai_9, ai_10, ai_11, bd_ok, bdd_ok, sat_ok, List.getElem?_cons_succ, List.getElem?_cons_zero, List.set_cons_succ, List.set_cons_zero, List.map_cons, List.map_nil, bd_bd, bdd_bd, bdd_bdd, bd_bdd, kc_eq, kd_eq, Int.reduceLT, Int.reduceLE, Int.reduceToNat, Int.reducePow, decide_true, decide_false, Bool.and_true, Bool.true_and, Bool.or_true, Bool.true_or, if_true, if_false, reduceCtorEq, andC_t, andC_f, orC_t, orC_f, Bool.not_true, Bool.not_false, ne_eq, not_true_eq_false, not_false_eq_true, Option.map_some, eq_self, compC_eq, compT_eq, compE_t, compE_f, wp_n, wp_c, evTs_n, evTs_1, h1]
    exact exit_p rfl rfl ⟨rfl, rfl⟩
  · rw [if_neg h1]
    simp only [exs_n, exs_c, cf_nx, cf_rt, cf_bk, cf_ct, ex_nm, setC_eq, ex_tp, ex_sb, asgC_eq, at_nm, at_tp, at_sb, ats_n, ats_c, ex_exp, ex_ret, ex_retN, ex_pass, ex_brk, ex_cont, ex_par, ex_iff, iffC_t, iffC_f, iffC_n, ex_for, forC_eq, turnC_eq, ev_con, ev_glo, ev_var, ev_tup, ev_lst, ev_bin, ev_neg, ev_cmp, ev_sub, ev_call, ev_prim, primC_eq, ev_meth, ev_and, ev_or, ev_not, ev_ife, ifeC_t, ifeC_f, ev_slc, ev_new, newC_f, ev_comp, evs_n, evs_c, evT_eq, endC_rt, endC_nx, lk_int, lk_bl, lk_str, lk_non, lk_tup, lk_lst, lk_dct, lk_scr, lk_ref, fd_v, fd_f, tr_bl, tr_int, tr_non, tr_tup, tr_lst, tR_some, bR_some, vR_some, oI_some, gd_t, o_add, o_sub, o_mul, o_fdiv, o_mod, o_pow, o_addt, o_addl, o_adds, o_neg, c_eq, c_ne, c_lt, c_gt, c_le, c_ge, c_isn, c_notn, q_int, q_str, q_bl, q_map, i_tup, i_lst, ai_0, ai_1, ai_2, ai_3, ai_4, ai_5, ai_6, ai_7, ai_8, ai_9, ai_10, ai_11, bd_ok, bdd_ok, sat_ok, List.getElem?_cons_succ, List.getElem?_cons_zero, List.set_cons_succ, List.set_cons_zero, List.map_cons, List.map_nil, bd_bd, bdd_bd, bdd_bdd, bd_bdd, kc_eq, kd_eq, Int.reduceLT, Int.reduceLE, Int.reduceToNat, Int.reducePow, decide_true, decide_false, Bool.and_true, Bool.true_and, Bool.or_true, Bool.true_or, if_true, if_false, reduceCtorEq, andC_t, andC_f, orC_t, orC_f, Bool.not_true, Bool.not_false, ne_eq, not_true_eq_false, not_false_eq_true, Option.map_some, eq_self, compC_eq, compT_eq, compE_t, compE_f, wp_n, wp_c, evTs_n, evTs_1]
    refine iff_i (fun h2 => ?_) (fun h2 => ?_)
    · rw [if_pos h2]
      simp only [exs_n, exs_c, cf_nx, cf_rt, cf_bk, cf_ct, ex_nm, setC_eq, ex_tp, ex_sb, asgC_eq, at_nm, at_tp, at_sb, ats_n, ats_c, ex_exp, ex_ret, ex_retN, ex_pass, ex_brk, ex_cont, ex_par, ex_iff, iffC_t, iffC_f, iffC_n, ex_for, forC_eq, turnC_eq, ev_con, ev_glo, ev_var, ev_tup, ev_lst, ev_bin, ev_neg, ev_cmp, ev_sub, ev_call, ev_prim, primC_eq, ev_meth, ev_and, ev_or, ev_not, ev_ife, ifeC_t, ifeC_f, ev_slc, ev_new, newC_f, ev_comp, evs_n, evs_c, evT_eq, endC_rt, endC_nx, lk_int, lk_bl, lk_str, lk_non, lk_tup, lk_lst, lk_dct, lk_scr, lk_ref, fd_v, fd_f, tr_bl, tr_int, tr_non, tr_tup, tr_lst, tR_some, bR_some, vR_some, oI_some, gd_t, o_add, o_sub, o_mul, o_fdiv, o_mod, o_pow, o_addt, o_addl, o_adds, o_neg, c_eq, c_ne, c_lt, c_gt, c_le, c_ge, c_isn, c_notn, q_int, q_str, q_bl, q_map, i_tup, i_lst, ai_0, ai_1, ai_2, ai_3, ai_4, ai_5, ai_6, ai_7, ai_8, ai_9, ai_10, ai_11, bd_ok, bdd_ok, sat_ok, List.getElem?_cons_succ, List.getElem?_cons_zero, List.set_cons_succ, List.set_cons_zero, List.map_cons, List.map_nil, bd_bd, bdd_bd, bdd_bdd, bd_bdd, kc_eq, kd_eq, Int.reduceLT, Int.reduceLE, Int.reduceToNat, Int.reducePow, decide_true, decide_false, Bool.and_true, Bool.true_and, Bool.or_true, Bool.true_or, if_true, if_false, reduceCtorEq, andC_t, andC_f, orC_t, orC_f, Bool.not_true, Bool.not_false, ne_eq, not_true_eq_false, not_false_eq_true, Option.map_some, eq_self, compC_eq, compT_eq, compE_t, compE_f, wp_n, wp_c, evTs_n, evTs_1]
      exact exit_p rfl rfl ⟨rfl, rfl⟩
    · rw [if_neg h2]
      simp only [exs_n, exs_c, cf_nx, cf_rt, cf_bk, cf_ct, ex_nm, setC_eq, ex_tp, ex_sb, asgC_eq, at_nm, at_tp, at_sb, ats_n, ats_c, ex_exp, ex_ret, ex_retN, ex_pass, ex_brk, ex_cont, ex_par, ex_iff, iffC_t, iffC_f, iffC_n, ex_for, forC_eq, turnC_eq, ev_con, ev_glo, ev_var, ev_tup, ev_lst, ev_bin, ev_neg, ev_cmp, ev_sub, ev_call, ev_prim, primC_eq, ev_meth, ev_and, ev_or, ev_not, ev_ife, ifeC_t, ifeC_f, ev_slc, ev_new, newC_f, ev_comp, evs_n, evs_c, evT_eq, endC_rt, endC_nx, lk_int, lk_bl, lk_str, lk_non, lk_tup, lk_lst, lk_dct, lk_scr, lk_ref, fd_v, fd_f, tr_bl, tr_int, tr_non, tr_tup, tr_lst, tR_some, bR_some, vR_some, oI_some, gd_t, o_add, o_sub, o_mul, o_fdiv, o_mod, o_pow, o_addt, o_addl, o_adds, o_neg, c_eq, c_ne, c_lt, c_gt, c_le, c_ge, c_isn, c_notn, q_int, q_str, q_bl, q_map, i_tup, i_lst, ai_0, ai_1, ai_2, ai_3, ai_4, ai_5, ai_6, ai_7, ai_8, ai_9, ai_10, ai_11, bd_ok, bdd_ok, sat_ok, List.getElem?_cons_succ, List.getElem?_cons_zero, List.set_cons_succ, List.set_cons_zero, List.map_cons, List.map_nil, bd_bd, bdd_bd, bdd_bdd, bd_bdd, kc_eq, kd_eq, Int.reduceLT, Int.reduceLE, Int.reduceToNat, Int.reducePow, decide_true, decide_false, Bool.and_true, Bool.true_and, Bool.or_true, Bool.true_or, if_true, if_false, reduceCtorEq, andC_t, andC_f, orC_t, orC_f, Bool.not_true, Bool.not_false, ne_eq, not_true_eq_false, not_false_eq_true, Option.map_some, eq_self, compC_eq, compT_eq, compE_t, compE_f, wp_n, wp_c, evTs_n, evTs_1]
      refine iff_i (fun h3 => ?_) (fun h3 => ?_)
      · rw [if_pos h3]
        simp only [exs_n, exs_c, cf_nx, cf_rt, cf_bk, cf_ct, ex_nm, setC_eq, ex_tp, ex_sb, asgC_eq, at_nm, at_tp, at_sb, ats_n, ats_c, ex_exp, ex_ret, ex_retN, ex_pass, ex_brk, ex_cont, ex_par, ex_iff, iffC_t, iffC_f, iffC_n, ex_for, forC_eq, turnC_eq, ev_con, ev_glo, ev_var, ev_tup, ev_lst, ev_bin, ev_neg, ev_cmp, ev_sub, ev_call, ev_prim, primC_eq, ev_meth, ev_and, ev_or, ev_not, ev_ife, ifeC_t, ifeC_f, ev_slc, ev_new, newC_f, ev_comp, evs_n, evs_c, evT_eq, endC_rt, endC_nx, lk_int, lk_bl, lk_str, lk_non, lk_tup, lk_lst, lk_dct, lk_scr, lk_ref, fd_v, fd_f, tr_bl, tr_int, tr_non, tr_tup, tr_lst, tR_some, bR_some, vR_some, oI_some, gd_t, o_add, o_sub, o_mul, o_fdiv, o_mod, o_pow, o_addt, o_addl, o_adds, o_neg, c_eq, c_ne, c_lt, c_gt, c_le, c_ge, c_isn, c_notn, q_int, q_str, q_bl, q_map, i_tup, i_lst, ai_0, ai_1, ai_2, ai_3, ai_4, ai_5, ai_6, ai_7, ai_8, ai_9, ai_10, ai_11, bd_ok, bdd_ok, sat_ok, List.getElem?_cons_succ, List.getElem?_cons_zero, List.set_cons_succ, List.set_cons_zero, List.map_cons, List.map_nil, bd_bd, bdd_bd, bdd_bdd, bd_bdd, kc_eq, kd_eq, Int.reduceLT, Int.reduceLE, Int.reduceToNat, Int.reducePow, decide_true, decide_false, Bool.and_true, Bool.true_and, Bool.or_true, Bool.true_or, if_true, if_false, reduceCtorEq, andC_t, andC_f, orC_t, orC_f, Bool.not_true, Bool.not_false, ne_eq, not_true_eq_false, not_false_eq_true, Option.map_some, eq_self, compC_eq, compT_eq, compE_t, compE_f, wp_n, wp_c, evTs_n, evTs_1]
        exact exit_p rfl rfl ⟨rfl, rfl⟩
      · rw [if_neg h3]
        simp only [exs_n, exs_c, cf_nx, cf_rt, cf_bk, cf_ct, ex_nm, setC_eq, ex_tp, ex_sb, asgC_eq, at_nm, at_tp, at_sb, ats_n, ats_c, ex_exp, ex_ret, ex_retN, ex_pass, ex_brk, ex_cont, ex_par, ex_iff, iffC_t, iffC_f, iffC_n, ex_for, forC_eq, turnC_eq, ev_con, ev_glo, ev_var, ev_tup, ev_lst, ev_bin, ev_neg, ev_cmp, ev_sub, ev_call, ev_prim, primC_eq, ev_meth, ev_and, ev_or, ev_not, ev_ife, ifeC_t, ifeC_f, ev_slc, ev_new, newC_f, ev_comp, evs_n, evs_c, evT_eq, endC_rt, endC_nx, lk_int, lk_bl, lk_str, lk_non, lk_tup, lk_lst, lk_dct, lk_scr, lk_ref, fd_v, fd_f, tr_bl, tr_int, tr_non, tr_tup, tr_lst, tR_some, bR_some, vR_some, oI_some, gd_t, o_add, o_sub, o_mul, o_fdiv, o_mod, o_pow, o_addt, o_addl, o_adds, o_neg, c_eq, c_ne, c_lt, c_gt, c_le, c_ge, c_isn, c_notn, q_int, q_str, q_bl, q_map, i_tup, i_lst, ai_0, ai_1, ai_2, ai_3, ai_4, ai_5, ai_6, ai_7, ai_8, ai_9, ai_10, ai_11, bd_ok, bdd_ok, sat_ok, List.getElem?_cons_succ, List.getElem?_cons_zero, List.set_cons_succ, List.set_cons_zero, List.map_cons, List.map_nil, bd_bd, bdd_bd, bdd_bdd, bd_bdd, kc_eq, kd_eq, Int.reduceLT, Int.reduceLE, Int.reduceToNat, Int.reducePow, decide_true, decide_false, Bool.and_true, Bool.true_and, Bool.or_true, Bool.true_or, if_true, if_false, reduceCtorEq, andC_t, andC_f, orC_t, orC_f, Bool.not_true, Bool.not_false, ne_eq, not_true_eq_false, not_false_eq_true, Option.map_some, eq_self, compC_eq, compT_eq, compE_t, compE_f, wp_n, wp_c, evTs_n, evTs_1]
        refine iff_i (fun h4 => ?_) (fun h4 => ?_)
        · rw [if_pos h4]
          simp only [exs_n, exs_c, cf_nx, cf_rt, cf_bk, cf_ct, ex_nm, setC_eq, ex_tp, ex_sb, asgC_eq, at_nm, at_tp, at_sb, ats_n, ats_c, ex_exp, ex_ret, ex_retN, ex_pass, ex_brk, ex_cont, ex_par, ex_iff, iffC_t, iffC_f, iffC_n, ex_for, forC_eq, turnC_eq, ev_con, ev_glo, ev_var, ev_tup, ev_lst, ev_bin, ev_neg, ev_cmp, ev_sub, ev_call, ev_prim, primC_eq, ev_meth, ev_and, ev_or, ev_not, ev_ife, ifeC_t, ifeC_f, ev_slc, ev_new, newC_f, ev_comp, evs_n, evs_c, evT_eq, endC_rt, endC_nx, lk_int, lk_bl, lk_str, lk_non, lk_tup, lk_lst, lk_dct, lk_scr, lk_ref, fd_v, fd_f, tr_bl, tr_int, tr_non, tr_tup, tr_lst, tR_some, bR_some, vR_some, oI_some, gd_t, o_add, o_sub, o_mul, o_fdiv, o_mod, o_pow, o_addt, o_addl, o_adds, o_neg, c_eq, c_ne, c_lt, c_gt, c_le, c_ge, c_isn, c_notn, q_int, q_str, q_bl, q_map, i_tup, i_lst, ai_0, ai_1, ai_2, ai_3, ai_4, ai_5, ai_6, ai_7, ai_8, ai_9, ai_10, ai_11, bd_ok, bdd_ok, sat_ok, List.getElem?_cons_succ, List.getElem?_cons_zero, List.set_cons_succ, List.set_cons_zero, List.map_cons, List.map_nil, bd_bd, bdd_bd, bdd_bdd, bd_bdd, kc_eq, kd_eq, Int.reduceLT, Int.reduceLE, Int.reduceToNat, Int.reducePow, decide_true, decide_false, Bool.and_true, Bool.true_and, Bool.or_true, Bool.true_or, if_true, if_false, reduceCtorEq, andC_t, andC_f, orC_t, orC_f, Bool.not_true, Bool.not_false, ne_eq, not_true_eq_false, not_false_eq_true, Option.map_some, eq_self, compC_eq, compT_eq, compE_t, compE_f, wp_n, wp_c, evTs_n, evTs_1]
          exact exit_p rfl rfl ⟨rfl, rfl⟩
        · rw [if_neg h4]
          simp only [exs_n, exs_c, cf_nx, cf_rt, cf_bk, cf_ct, ex_nm, setC_eq, ex_tp, ex_sb, asgC_eq, at_nm, at_tp, at_sb, ats_n, ats_c, ex_exp, ex_ret, ex_retN, ex_pass, ex_brk, ex_cont, ex_par, ex_iff, iffC_t, iffC_f, iffC_n, ex_for, forC_eq, turnC_eq, ev_con, ev_glo, ev_var, ev_tup, ev_lst, ev_bin, ev_neg, ev_cmp, ev_sub, ev_call, ev_prim, primC_eq, ev_meth, ev_and, ev_or, ev_not, ev_ife, ifeC_t, ifeC_f, ev_slc, ev_new, newC_f, ev_comp, evs_n, evs_c, evT_eq, endC_rt, endC_nx, lk_int, lk_bl, lk_str, lk_non, lk_tup, lk_lst, lk_dct, lk_scr, lk_ref, fd_v, fd_f, tr_bl, tr_int, tr_non, tr_tup, tr_lst, tR_some, bR_some, vR_some, oI_some, gd_t, o_add, o_sub, o_mul, o_fdiv, o_mod, o_pow, o_addt, o_addl, o_adds, o_neg, c_eq, c_ne, c_lt, c_gt, c_le, c_ge, c_isn, c_notn, q_int, q_str, q_bl, q_map, i_tup, i_lst, ai_0, ai_1, ai_2, ai_3, ai_4, ai_5, ai_6, ai_7, ai_8, ai_9, ai_10, ai_11, bd_ok, bdd_ok, sat_ok, List.getElem?_cons_succ, List.getElem?_cons_zero, List.set_cons_succ, List.set_cons_zero, List.map_cons, List.map_nil, bd_bd, bdd_bd, bdd_bdd, bd_bdd, kc_eq, kd_eq, Int.reduceLT, Int.reduceLE, Int.reduceToNat, Int.reducePow, decide_true, decide_false, Bool.and_true, Bool.true_and, Bool.or_true, Bool.true_or, if_true, if_false, reduceCtorEq, andC_t, andC_f, orC_t, orC_f, Bool.not_true, Bool.not_false, ne_eq, not_true_eq_false, not_false_eq_true, Option.map_some, eq_self, compC_eq, compT_eq, compE_t, compE_f, wp_n, wp_c, evTs_n, evTs_1]
          exact exit_p rfl rfl ⟨rfl, rfl⟩
theorem dwork_ok (h : SysOk p i ps ls cs) : callF fs gl (k + 1) 14 [sysD p i ps ls cs, .int t] M = .ok (.v (workD (i * p) ps.length t)) M := by
  obtain ⟨c1, c2⟩ := cyc h
  have e : p * i = i * p := Int.mul_comm _ _
  have gp : inW p = true := inW_i (by have := h.p1; omega) (by have := h.p2; omega)
  have g1 : (decide (0 < i * p)) = true := decide_eq_true (by omega)
  have g2 : inW (i * p) = true := inW_i (by omega) (by omega)
  have hlo := Int.emod_nonneg t (b := i * p) (by omega)
  have hhi := Int.emod_lt_of_pos t (b := i * p) (by omega)
  have hdm := Int.mul_ediv_add_emod t (i * p)
  refine eq_sat (go (fn := ⟨2, 5, b__law_d_work⟩) (ρ := [some (sysD p i ps ls cs), some (.int t), none, none, none]) rfl rfl rfl ?_)
  simp only [b__law_d_work, exs_n, exs_c, cf_nx, cf_rt, cf_bk, cf_ct, ex_nm, setC_eq, ex_tp, ex_sb, asgC_eq, at_nm, at_tp, at_sb, ats_n, ats_c, ex_exp, ex_ret, ex_retN, ex_pass, ex_brk, ex_cont, ex_par, ex_iff, iffC_t, iffC_f, iffC_n, ex_for, forC_eq, turnC_eq, ev_con, ev_glo, ev_var, ev_tup, ev_lst, ev_bin, ev_neg, ev_cmp, ev_sub, ev_call, ev_prim, primC_eq, ev_meth, ev_and, ev_or, ev_not, ev_ife, ifeC_t, ifeC_f, ev_slc, ev_new, newC_f, ev_comp, evs_n, evs_c, evT_eq, endC_rt, endC_nx, lk_int, lk_bl, lk_str, lk_non, lk_tup, lk_lst, lk_dct, lk_scr, lk_ref, fd_v, fd_f, tr_bl, tr_int, tr_non, tr_tup, tr_lst, tR_some, bR_some, vR_some, oI_some, gd_t, o_add, o_sub, o_mul, o_fdiv, o_mod, o_pow, o_addt, o_addl, o_adds, o_neg, c_eq, c_ne, c_lt, c_gt, c_le, c_ge, c_isn, c_notn, q_int, q_str, q_bl, q_map, i_tup, i_lst, ai_0, ai_1, ai_2, ai_3, ai_4, ai_5, ai_6, ai_7, ai_8, ai_9, ai_10, ai_11, bd_ok, bdd_ok, sat_ok, List.getElem?_cons_succ, List.getElem?_cons_zero, List.set_cons_succ, List.set_cons_zero, List.map_cons, List.map_nil, bd_bd, bdd_bd, bdd_bdd, bd_bdd, kc_eq, kd_eq, Int.reduceLT, Int.reduceLE, Int.reduceToNat, Int.reducePow, decide_true, decide_false, Bool.and_true, Bool.true_and, Bool.or_true, Bool.true_or, if_true, if_false, reduceCtorEq, andC_t, andC_f, orC_t, orC_f, Bool.not_true, Bool.not_false, ne_eq, not_true_eq_false, not_false_eq_true, Option.map_some, eq_self, compC_eq, compT_eq, compE_t, compE_f, wp_n, wp_c, evTs_n, evTs_1, lks, s0, s1, s2, gp, e, g1, g2, q_int1, q_lent, Bool.true_or]
  unfold workD
  refine iff_i (fun h1 => ?_) (fun h1 => ?_)
  · rw [if_pos (by omega)]
    simp only [exs_n, exs_c, cf_nx, cf_rt, cf_bk, cf_ct, ex_nm, setC_eq, ex_tp, ex_sb, asgC_eq, at_nm, at_tp, at_sb, ats_n, ats_c, ex_exp, ex_ret, ex_retN, ex_pass, ex_brk, ex_cont, ex_par, ex_iff, iffC_t, iffC_f, iffC_n, ex_for, forC_eq, turnC_eq, ev_con, ev_glo, ev_var, ev_tup, ev_lst, ev_bin, ev_neg, ev_cmp, ev_sub, ev_call, ev_prim, primC_eq, ev_meth, ev_and, ev_or, ev_not, ev_ife, ifeC_t, ifeC_f, ev_slc, ev_new, newC_f, ev_comp, evs_n, evs_c, evT_eq, endC_rt, endC_nx, lk_int, lk_bl, lk_str, lk_non, lk_tup, lk_lst, lk_dct, lk_scr, lk_ref, fd_v, fd_f, tr_bl, tr_int, tr_non, tr_tup, tr_lst, tR_some, bR_some, vR_some, oI_some, gd_t, o_add, o_sub, o_mul, o_fdiv, o_mod, o_pow, o_addt, o_addl, o_adds, o_neg, c_eq, c_ne, c_lt, c_gt, c_le, c_ge, c_isn, c_notn, q_int, q_str, q_bl, q_map, i_tup, i_lst, ai_0, ai_1, ai_2, ai_3, ai_4, ai_5, ai_6, ai_7, ai_8, ai_9, ai_10, ai_11, bd_ok, bdd_ok, sat_ok, List.getElem?_cons_succ, List.getElem?_cons_zero, List.set_cons_succ, List.set_cons_zero, List.map_cons, List.map_nil, bd_bd, bdd_bd, bdd_bdd, bd_bdd, kc_eq, kd_eq, Int.reduceLT, Int.reduceLE, Int.reduceToNat, Int.reducePow, decide_true, decide_false, Bool.and_true, Bool.true_and, Bool.or_true, Bool.true_or, if_true, if_false, reduceCtorEq, andC_t, andC_f, orC_t, orC_f, Bool.not_true, Bool.not_false, ne_eq, not_true_eq_false, not_false_eq_true, Option.map_some, eq_self, compC_eq, compT_eq, compE_t, compE_f, wp_n, wp_c, evTs_n, evTs_1, q_int1]
    exact exit_p rfl rfl ⟨rfl, rfl⟩
  · rw [if_neg (by omega)]
    simp only [exs_n, exs_c, cf_nx, cf_rt, cf_bk, cf_ct, ex_nm, setC_eq, ex_tp, ex_sb, asgC_eq, at_nm, at_tp, at_sb, ats_n, ats_c, ex_exp, ex_ret, ex_retN, ex_pass, ex_brk, ex_cont, ex_par, ex_iff, iffC_t, iffC_f, iffC_n, ex_for, forC_eq, turnC_eq, ev_con, ev_glo, ev_var, ev_tup, ev_lst, ev_bin, ev_neg, ev_cmp, ev_sub, ev_call, ev_prim, primC_eq, ev_meth, ev_and, ev_or, ev_not, ev_ife, ifeC_t, ifeC_f, ev_slc, ev_new, newC_f, ev_comp, evs_n, evs_c, evT_eq, endC_rt, endC_nx, lk_int, lk_bl, lk_str, lk_non, lk_tup, lk_lst, lk_dct, lk_scr, lk_ref, fd_v, fd_f, tr_bl, tr_int, tr_non, tr_tup, tr_lst, tR_some, bR_some, vR_some, oI_some, gd_t, o_add, o_sub, o_mul, o_fdiv, o_mod, o_pow, o_addt, o_addl, o_adds, o_neg, c_eq, c_ne, c_lt, c_gt, c_le, c_ge, c_isn, c_notn, q_int, q_str, q_bl, q_map, i_tup, i_lst, ai_0, ai_1, ai_2, ai_3, ai_4, ai_5, ai_6, ai_7, ai_8, ai_9, ai_10, ai_11, bd_ok, bdd_ok, sat_ok, List.getElem?_cons_succ, List.getElem?_cons_zero, List.set_cons_succ, List.set_cons_zero, List.map_cons, List.map_nil, bd_bd, bdd_bd, bdd_bdd, bd_bdd, kc_eq, kd_eq, Int.reduceLT, Int.reduceLE, Int.reduceToNat, Int.reducePow, decide_true, decide_false, Bool.and_true, Bool.true_and, Bool.or_true, Bool.true_or, if_true, if_false, reduceCtorEq, andC_t, andC_f, orC_t, orC_f, Bool.not_true, Bool.not_false, ne_eq, not_true_eq_false, not_false_eq_true, Option.map_some, eq_self, compC_eq, compT_eq, compE_t, compE_f, wp_n, wp_c, evTs_n, evTs_1]
    refine iff_i (fun h2 => ?_) (fun h2 => ?_)
    · rw [if_neg (by omega), if_neg (by omega), if_neg (by omega)]
      simp only [exs_n, exs_c, cf_nx, cf_rt, cf_bk, cf_ct, ex_nm, setC_eq, ex_tp, ex_sb, asgC_eq, at_nm, at_tp, at_sb, ats_n, ats_c, ex_exp, ex_ret, ex_retN, ex_pass, ex_brk, ex_cont, ex_par, ex_iff, iffC_t, iffC_f, iffC_n, ex_for, forC_eq, turnC_eq, ev_con, ev_glo, ev_var, ev_tup, ev_lst, ev_bin, ev_neg, ev_cmp, ev_sub, ev_call, ev_prim, primC_eq, ev_meth, ev_and, ev_or, ev_not, ev_ife, ifeC_t, ifeC_f, ev_slc, ev_new, newC_f, ev_comp, evs_n, evs_c, evT_eq, endC_rt, endC_nx, lk_int, lk_bl, lk_str, lk_non, lk_tup, lk_lst, lk_dct, lk_scr, lk_ref, fd_v, fd_f, tr_bl, tr_int, tr_non, tr_tup, tr_lst, tR_some, bR_some, vR_some, oI_some, gd_t, o_add, o_sub, o_mul, o_fdiv, o_mod, o_pow, o_addt, o_addl, o_adds, o_neg, c_eq, c_ne, c_lt, c_gt, c_le, c_ge, c_isn, c_notn, q_int, q_str, q_bl, q_map, i_tup, i_lst, ai_0, ai_1, ai_2, ai_3, ai_4, ai_5, ai_6, ai_7, ai_8, ai_9, ai_10, ai_11, bd_ok, bdd_ok, sat_ok, List.getElem?_cons_succ, List.getElem?_cons_zero, List.set_cons_succ, List.set_cons_zero, List.map_cons, List.map_nil, bd_bd, bdd_bd, bdd_bdd, bd_bdd, kc_eq, kd_eq, Int.reduceLT, Int.reduceLE, Int.reduceToNat, Int.reducePow, decide_true, decide_false, Bool.and_true, Bool.true_and, Bool.or_true, Bool.true_or, if_true, if_false, reduceCtorEq, andC_t, andC_f, orC_t, orC_f, Bool.not_true, Bool.not_false, ne_eq, not_true_eq_false, not_false_eq_true, Option.map_some, eq_self, compC_eq, compT_eq, compE_t, compE_f, wp_n, wp_c, evTs_n, evTs_1]
      exact exit_p rfl rfl ⟨rfl, rfl⟩
    · simp only [exs_n, exs_c, cf_nx, cf_rt, cf_bk, cf_ct, ex_nm, setC_eq, ex_tp, ex_sb, asgC_eq, at_nm, at_tp, at_sb, ats_n, ats_c, ex_exp, ex_ret, ex_retN, ex_pass, ex_brk, ex_cont, ex_par, ex_iff, iffC_t, iffC_f, iffC_n, ex_for, forC_eq, turnC_eq, ev_con, ev_glo, ev_var, ev_tup, ev_lst, ev_bin, ev_neg, ev_cmp, ev_sub, ev_call, ev_prim, primC_eq, ev_meth, ev_and, ev_or, ev_not, ev_ife, ifeC_t, ifeC_f, ev_slc, ev_new, newC_f, ev_comp, evs_n, evs_c, evT_eq, endC_rt, endC_nx, lk_int, lk_bl, lk_str, lk_non, lk_tup, lk_lst, lk_dct, lk_scr, lk_ref, fd_v, fd_f, tr_bl, tr_int, tr_non, tr_tup, tr_lst, tR_some, bR_some, vR_some, oI_some, gd_t, o_add, o_sub, o_mul, o_fdiv, o_mod, o_pow, o_addt, o_addl, o_adds, o_neg, c_eq, c_ne, c_lt, c_gt, c_le, c_ge, c_isn, c_notn, q_int, q_str, q_bl, q_map, i_tup, i_lst, ai_0, ai_1, ai_2, ai_3, ai_4, ai_5, ai_6, ai_7, ai_8, ai_9, ai_10, ai_11, bd_ok, bdd_ok, sat_ok, List.getElem?_cons_succ, List.getElem?_cons_zero, List.set_cons_succ, List.set_cons_zero, List.map_cons, List.map_nil, bd_bd, bdd_bd, bdd_bdd, bd_bdd, kc_eq, kd_eq, Int.reduceLT, Int.reduceLE, Int.reduceToNat, Int.reducePow, decide_true, decide_false, Bool.and_true, Bool.true_and, Bool.or_true, Bool.true_or, if_true, if_false, reduceCtorEq, andC_t, andC_f, orC_t, orC_f, Bool.not_true, Bool.not_false, ne_eq, not_true_eq_false, not_false_eq_true, Option.map_some, eq_self, compC_eq, compT_eq, compE_t, compE_f, wp_n, wp_c, evTs_n, evTs_1, q_int1, g2]
      have hc : t % (i * p) - i * p + 3 = 0 ∨ t % (i * p) - i * p + 3 = 1 ∨ t % (i * p) - i * p + 3 = 2 := by omega
      rcases hc with hc | hc | hc
      · rw [hc, if_pos (by omega)]
        simp only [exs_n, exs_c, cf_nx, cf_rt, cf_bk, cf_ct, ex_nm, setC_eq, ex_tp, ex_sb, asgC_eq, at_nm, at_tp, at_sb, ats_n, ats_c, ex_exp, ex_ret, ex_retN, ex_pass, ex_brk, ex_cont, ex_par, ex_iff, iffC_t, iffC_f, iffC_n, ex_for, forC_eq, turnC_eq, ev_con, ev_glo, ev_var, ev_tup, ev_lst, ev_bin, ev_neg, ev_cmp, ev_sub, ev_call, ev_prim, primC_eq, ev_meth, ev_and, ev_or, ev_not, ev_ife, ifeC_t, ifeC_f, ev_slc, ev_new, newC_f, ev_comp, evs_n, evs_c, evT_eq, endC_rt, endC_nx, lk_int, lk_bl, lk_str, lk_non, lk_tup, lk_lst, lk_dct, lk_scr, lk_ref, fd_v, fd_f, tr_bl, tr_int, tr_non, tr_tup, tr_lst, tR_some, bR_some, vR_some, oI_some, gd_t, o_add, o_sub, o_mul, o_fdiv, o_mod, o_pow, o_addt, o_addl, o_adds, o_neg, c_eq, c_ne, c_lt, c_gt, c_le, c_ge, c_isn, c_notn, q_int, q_str, q_bl, q_map, i_tup, i_lst, ai_0, ai_1, ai_2, ai_3, ai_4, ai_5, ai_6, ai_7, ai_8, ai_9, ai_10, ai_11, bd_ok, bdd_ok, sat_ok, List.getElem?_cons_succ, List.getElem?_cons_zero, List.set_cons_succ, List.set_cons_zero, List.map_cons, List.map_nil, bd_bd, bdd_bd, bdd_bdd, bd_bdd, kc_eq, kd_eq, Int.reduceLT, Int.reduceLE, Int.reduceToNat, Int.reducePow, decide_true, decide_false, Bool.and_true, Bool.true_and, Bool.or_true, Bool.true_or, if_true, if_false, reduceCtorEq, andC_t, andC_f, orC_t, orC_f, Bool.not_true, Bool.not_false, ne_eq, not_true_eq_false, not_false_eq_true, Option.map_some, eq_self, compC_eq, compT_eq, compE_t, compE_f, wp_n, wp_c, evTs_n, evTs_1]
        exact exit_p rfl rfl ⟨rfl, rfl⟩
      · rw [hc, if_neg (by omega), if_pos (by omega)]
        have : i * p * (t / (i * p)) = t - t % (i * p) := by omega
        simp only [exs_n, exs_c, cf_nx, cf_rt, cf_bk, cf_ct, ex_nm, setC_eq, ex_tp, ex_sb, asgC_eq, at_nm, at_tp, at_sb, ats_n, ats_c, ex_exp, ex_ret, ex_retN, ex_pass, ex_brk, ex_cont, ex_par, ex_iff, iffC_t, iffC_f, iffC_n, ex_for, forC_eq, turnC_eq, ev_con, ev_glo, ev_var, ev_tup, ev_lst, ev_bin, ev_neg, ev_cmp, ev_sub, ev_call, ev_prim, primC_eq, ev_meth, ev_and, ev_or, ev_not, ev_ife, ifeC_t, ifeC_f, ev_slc, ev_new, newC_f, ev_comp, evs_n, evs_c, evT_eq, endC_rt, endC_nx, lk_int, lk_bl, lk_str, lk_non, lk_tup, lk_lst, lk_dct, lk_scr, lk_ref, fd_v, fd_f, tr_bl, tr_int, tr_non, tr_tup, tr_lst, tR_some, bR_some, vR_some, oI_some, gd_t, o_add, o_sub, o_mul, o_fdiv, o_mod, o_pow, o_addt, o_addl, o_adds, o_neg, c_eq, c_ne, c_lt, c_gt, c_le, c_ge, c_isn, c_notn, q_int, q_str, q_bl, q_map, i_tup, i_lst, ai_0, ai_1, ai_2, ai_3, ai_4, ai_5, ai_6, ai_7, ai_8, ai_9, ai_10, ai_11, bd_ok, bdd_ok, sat_ok, List.getElem?_cons_succ, List.getElem?_cons_zero, List.set_cons_succ, List.set_cons_zero, List.map_cons, List.map_nil, bd_bd, bdd_bd, bdd_bdd, bd_bdd, kc_eq, kd_eq, Int.reduceLT, Int.reduceLE, Int.reduceToNat, Int.reducePow, decide_true, decide_false, Bool.and_true, Bool.true_and, Bool.or_true, Bool.true_or, if_true, if_false, reduceCtorEq, andC_t, andC_f, orC_t, orC_f, Bool.not_true, Bool.not_false, ne_eq, not_true_eq_false, not_false_eq_true, Option.map_some, eq_self, compC_eq, compT_eq, compE_t, compE_f, wp_n, wp_c, evTs_n, evTs_1, this]
        exact exit_p rfl rfl ⟨rfl, rfl⟩
      · rw [hc, if_neg (by omega), if_neg (by omega), if_pos (by omega)]
        simp only [exs_n, exs_c, cf_nx, cf_rt, cf_bk, cf_ct, ex_nm, setC_eq, ex_tp, ex_sb, asgC_eq, at_nm, at_tp, at_sb, ats_n, ats_c, ex_exp, ex_ret, ex_retN, ex_pass, ex_brk, ex_cont, ex_par, ex_iff, iffC_t, iffC_f, iffC_n, ex_for, forC_eq, turnC_eq, ev_con, ev_glo, ev_var, ev_tup, ev_lst, ev_bin, ev_neg, ev_cmp, ev_sub, ev_call, ev_prim, primC_eq, ev_meth, ev_and, ev_or, ev_not, ev_ife, ifeC_t, ifeC_f, ev_slc, ev_new, newC_f, ev_comp, evs_n, evs_c, evT_eq, endC_rt, endC_nx, lk_int, lk_bl, lk_str, lk_non, lk_tup, lk_lst, lk_dct, lk_scr, lk_ref, fd_v, fd_f, tr_bl, tr_int, tr_non, tr_tup, tr_lst, tR_some, bR_some, vR_some, oI_some, gd_t, o_add, o_sub, o_mul, o_fdiv, o_mod, o_pow, o_addt, o_addl, o_adds, o_neg, c_eq, c_ne, c_lt, c_gt, c_le, c_ge, c_isn, c_notn, q_int, q_str, q_bl, q_map, i_tup, i_lst, ai_0, ai_1, ai_2, ai_3, ai_4, ai_5, ai_6, ai_7, ai_8, ai_9, ai_10, ai_11, bd_ok, bdd_ok, sat_ok, List.getElem?_cons_succ, List.getElem?_cons_zero, List.set_cons_succ, List.set_cons_zero, List.map_cons, List.map_nil, bd_bd, bdd_bd, bdd_bdd, bd_bdd, kc_eq, kd_eq, Int.reduceLT, Int.reduceLE, Int.reduceToNat, Int.reducePow, decide_true, decide_false, Bool.and_true, Bool.true_and, Bool.or_true, Bool.true_or, if_true, if_false, reduceCtorEq, andC_t, andC_f, orC_t, orC_f, Bool.not_true, Bool.not_false, ne_eq, not_true_eq_false, not_false_eq_true, Option.map_some, eq_self, compC_eq, compT_eq, compE_t, compE_f, wp_n, wp_c, evTs_n, evTs_1]
        exact exit_p rfl rfl ⟨rfl, rfl⟩
theorem first_ok (h : SysOk p i ps ls cs) : callF fs gl (k + 2) 4 [sysD p i ps ls cs, .int t] M = .ok (.v (.int (1 + ls.length + t * (ps.length + 1)))) M := by
  have := h.l2
  have g2 : inW ((ps.length : Int) + 1) = true := inW_i (by omega) (by omega)
  refine eq_sat (go (fn := ⟨2, 2, b_first_block⟩) (ρ := [some (sysD p i ps ls cs), some (.int t)]) rfl rfl rfl ?_)
  simp only [b_first_block, exs_n, exs_c, cf_nx, cf_rt, cf_bk, cf_ct, ex_nm, setC_eq, ex_tp, ex_sb, asgC_eq, at_nm, at_tp, at_sb, ats_n, ats_c, ex_exp, ex_ret, ex_retN, ex_pass, ex_brk, ex_cont, ex_par, ex_iff, iffC_t, iffC_f, iffC_n, ex_for, forC_eq, turnC_eq, ev_con, ev_glo, ev_var, ev_tup, ev_lst, ev_bin, ev_neg, ev_cmp, ev_sub, ev_call, ev_prim, primC_eq, ev_meth, ev_and, ev_or, ev_not, ev_ife, ifeC_t, ifeC_f, ev_slc, ev_new, newC_f, ev_comp, evs_n, evs_c, evT_eq, endC_rt, endC_nx, lk_int, lk_bl, lk_str, lk_non, lk_tup, lk_lst, lk_dct, lk_scr, lk_ref, fd_v, fd_f, tr_bl, tr_int, tr_non, tr_tup, tr_lst, tR_some, bR_some, vR_some, oI_some, gd_t, o_add, o_sub, o_mul, o_fdiv, o_mod, o_pow, o_addt, o_addl, o_adds, o_neg, c_eq, c_ne, c_lt, c_gt, c_le, c_ge, c_isn, c_notn, q_int, q_str, q_bl, q_map, i_tup, i_lst, ai_0, ai_1, ai_2, ai_3, ai_4, ai_5, ai_6, ai_7, ai_8, ai_9, ai_10, ai_11, bd_ok, bdd_ok, sat_ok, List.getElem?_cons_succ, List.getElem?_cons_zero, List.set_cons_succ, List.set_cons_zero, List.map_cons, List.map_nil, bd_bd, bdd_bd, bdd_bdd, bd_bdd, kc_eq, kd_eq, Int.reduceLT, Int.reduceLE, Int.reduceToNat, Int.reducePow, decide_true, decide_false, Bool.and_true, Bool.true_and, Bool.or_true, Bool.true_or, if_true, if_false, reduceCtorEq, andC_t, andC_f, orC_t, orC_f, Bool.not_true, Bool.not_false, ne_eq, not_true_eq_false, not_false_eq_true, Option.map_some, eq_self, compC_eq, compT_eq, compE_t, compE_f, wp_n, wp_c, evTs_n, evTs_1, lks, s6, parts_ok h, q_lent, g2]
  exact exit_p rfl rfl ⟨rfl, rfl⟩
theorem many_ok (h : SysOk p i ps ls cs) : callF fs gl (k + 3) 3 [sysD p i ps ls cs] M = .ok (.v (.int (1 + ls.length + 2 * (ps.length + 1)))) M := by
  refine eq_sat (go (fn := ⟨1, 1, b_many_blocks⟩) (ρ := [some (sysD p i ps ls cs)]) rfl rfl rfl ?_)
  simp only [b_many_blocks, exs_n, exs_c, cf_nx, cf_rt, cf_bk, cf_ct, ex_nm, setC_eq, ex_tp, ex_sb, asgC_eq, at_nm, at_tp, at_sb, ats_n, ats_c, ex_exp, ex_ret, ex_retN, ex_pass, ex_brk, ex_cont, ex_par, ex_iff, iffC_t, iffC_f, iffC_n, ex_for, forC_eq, turnC_eq, ev_con, ev_glo, ev_var, ev_tup, ev_lst, ev_bin, ev_neg, ev_cmp, ev_sub, ev_call, ev_prim, primC_eq, ev_meth, ev_and, ev_or, ev_not, ev_ife, ifeC_t, ifeC_f, ev_slc, ev_new, newC_f, ev_comp, evs_n, evs_c, evT_eq, endC_rt, endC_nx, lk_int, lk_bl, lk_str, lk_non, lk_tup, lk_lst, lk_dct, lk_scr, lk_ref, fd_v, fd_f, tr_bl, tr_int, tr_non, tr_tup, tr_lst, tR_some, bR_some, vR_some, oI_some, gd_t, o_add, o_sub, o_mul, o_fdiv, o_mod, o_pow, o_addt, o_addl, o_adds, o_neg, c_eq, c_ne, c_lt, c_gt, c_le, c_ge, c_isn, c_notn, q_int, q_str, q_bl, q_map, i_tup, i_lst, ai_0, ai_1, ai_2, ai_3, ai_4, ai_5, ai_6, ai_7, ai_8, ai_9, ai_10, ai_11, bd_ok, bdd_ok, sat_ok, List.getElem?_cons_succ, List.getElem?_cons_zero, List.set_cons_succ, List.set_cons_zero, List.map_cons, List.map_nil, bd_bd, bdd_bd, bdd_bdd, bd_bdd, kc_eq, kd_eq, Int.reduceLT, Int.reduceLE, Int.reduceToNat, Int.reducePow, decide_true, decide_false, Bool.and_true, Bool.true_and, Bool.or_true, Bool.true_or, if_true, if_false, reduceCtorEq, andC_t, andC_f, orC_t, orC_f, Bool.not_true, Bool.not_false, ne_eq, not_true_eq_false, not_false_eq_true, Option.map_some, eq_self, compC_eq, compT_eq, compE_t, compE_f, wp_n, wp_c, evTs_n, evTs_1, first_ok h]
  exact exit_p rfl rfl ⟨rfl, rfl⟩
end
end Lw
namespace Lw
open PySem PyI
section
variable {k : Nat} {M : Store} {p i t mark : Int} {ps ls cs : List D} {ks : List (Int × Int)}
def pd (q : Int × Int) : D := .tup [.int q.1, .int q.2]
def zl : List (Int × Int) → Int → Int
  | [], o => o
  | (b, m) :: r, o => zl r (if b = 0 then m else o)
def backV (c t mark : Int) (ks : List (Int × Int)) : Int := if t % c = c - 1 ∧ 0 < zl ks 0 then t - t % c else mark
theorem zl_no : ∀ {ks : List (Int × Int)} {o : Int}, (∀ q ∈ ks, q.1 ≠ 0) → zl ks o = o
  | [], _, _ => rfl
  | (b, m) :: r, o, h => by
    show zl r (if b = 0 then m else o) = o
    rw [if_neg (h (b, m) List.mem_cons_self)]
    exact zl_no fun q hq => h q (List.mem_cons_of_mem _ hq)
theorem zl_hit : ∀ {ks : List (Int × Int)} {m : Int}, (ks.map (·.1)).Nodup → (0, m) ∈ ks → ∀ o, zl ks o = m
  | [], _, _, h, _ => by cases h
  | (b, x) :: r, m, nd, h, o => by
    show zl r (if b = 0 then x else o) = m
    rw [List.map_cons, List.nodup_cons] at nd
    rcases List.mem_cons.mp h with e | h
    · cases e
      rw [if_pos rfl]
      exact zl_no fun q hq e => nd.1 (by rw [← e]; exact List.mem_map_of_mem (f := (·.1)) hq)
    · exact zl_hit nd.2 h _
theorem back_ok (h : SysOk p i ps ls cs) (nd : (ks.map (·.1)).Nodup) : callF fs gl (k + 2) 5 [sysD p i ps ls cs, .int t, .int mark, .tup (ks.map pd)] M = .ok (.v (.int (backV (i * p) t mark ks))) M := by
  obtain ⟨c1, c2⟩ := cyc h
  have g1 : (decide (0 < i * p)) = true := decide_eq_true (by omega)
  refine eq_sat (go (fn := ⟨4, 8, b_back_to⟩) (ρ := [some (sysD p i ps ls cs), some (.int t), some (.int mark), some (.tup (ks.map pd)), none, none, none, none]) rfl rfl rfl ?_)
  simp only [b_back_to, exs_n, exs_c, cf_nx, cf_rt, cf_bk, cf_ct, ex_nm, setC_eq, ex_tp, ex_sb, asgC_eq, at_nm, at_tp, at_sb, ats_n, ats_c, ex_exp, ex_ret, ex_retN, ex_pass, ex_brk, ex_cont, ex_par, ex_iff, iffC_t, iffC_f, iffC_n, ex_for, forC_eq, turnC_eq, ev_con, ev_glo, ev_var, ev_tup, ev_lst, ev_bin, ev_neg, ev_cmp, ev_sub, ev_call, ev_prim, primC_eq, ev_meth, ev_and, ev_or, ev_not, ev_ife, ifeC_t, ifeC_f, ev_slc, ev_new, newC_f, ev_comp, evs_n, evs_c, evT_eq, endC_rt, endC_nx, lk_int, lk_bl, lk_str, lk_non, lk_tup, lk_lst, lk_dct, lk_scr, lk_ref, fd_v, fd_f, tr_bl, tr_int, tr_non, tr_tup, tr_lst, tR_some, bR_some, vR_some, oI_some, gd_t, o_add, o_sub, o_mul, o_fdiv, o_mod, o_pow, o_addt, o_addl, o_adds, o_neg, c_eq, c_ne, c_lt, c_gt, c_le, c_ge, c_isn, c_notn, q_int, q_str, q_bl, q_map, i_tup, i_lst, ai_0, ai_1, ai_2, ai_3, ai_4, ai_5, ai_6, ai_7, ai_8, ai_9, ai_10, ai_11, bd_ok, bdd_ok, sat_ok, List.getElem?_cons_succ, List.getElem?_cons_zero, List.set_cons_succ, List.set_cons_zero, List.map_cons, List.map_nil, bd_bd, bdd_bd, bdd_bdd, bd_bdd, kc_eq, kd_eq, Int.reduceLT, Int.reduceLE, Int.reduceToNat, Int.reducePow, decide_true, decide_false, Bool.and_true, Bool.true_and, Bool.or_true, Bool.true_or, if_true, if_false, reduceCtorEq, andC_t, andC_f, orC_t, orC_f, Bool.not_true, Bool.not_false, ne_eq, not_true_eq_false, not_false_eq_true, Option.map_some, eq_self, compC_eq, compT_eq, compE_t, compE_f, wp_n, wp_c, evTs_n, evTs_1, lks, cycle_ok h, g1]
  unfold backV
  refine iff_i (fun h1 => ?_) (fun h1 => ?_)
  · simp only [exs_n, exs_c, cf_nx, cf_rt, cf_bk, cf_ct, ex_nm, setC_eq, ex_tp, ex_sb, asgC_eq, at_nm, at_tp, at_sb, ats_n, ats_c, ex_exp, ex_ret, ex_retN, ex_pass, ex_brk, ex_cont, ex_par, ex_iff, iffC_t, iffC_f, iffC_n, ex_for, forC_eq, turnC_eq, ev_con, ev_glo, ev_var, ev_tup, ev_lst, ev_bin, ev_neg, ev_cmp, ev_sub, ev_call, ev_prim, primC_eq, ev_meth, ev_and, ev_or, ev_not, ev_ife, ifeC_t, ifeC_f, ev_slc, ev_new, newC_f, ev_comp, evs_n, evs_c, evT_eq, endC_rt, endC_nx, lk_int, lk_bl, lk_str, lk_non, lk_tup, lk_lst, lk_dct, lk_scr, lk_ref, fd_v, fd_f, tr_bl, tr_int, tr_non, tr_tup, tr_lst, tR_some, bR_some, vR_some, oI_some, gd_t, o_add, o_sub, o_mul, o_fdiv, o_mod, o_pow, o_addt, o_addl, o_adds, o_neg, c_eq, c_ne, c_lt, c_gt, c_le, c_ge, c_isn, c_notn, q_int, q_str, q_bl, q_map, i_tup, i_lst, ai_0, ai_1, ai_2, ai_3, ai_4, ai_5, ai_6, ai_7, ai_8, ai_9, ai_10, ai_11, bd_ok, bdd_ok, sat_ok, List.getElem?_cons_succ, List.getElem?_cons_zero, List.set_cons_succ, List.set_cons_zero, List.map_cons, List.map_nil, bd_bd, bdd_bd, bdd_bdd, bd_bdd, kc_eq, kd_eq, Int.reduceLT, Int.reduceLE, Int.reduceToNat, Int.reducePow, decide_true, decide_false, Bool.and_true, Bool.true_and, Bool.or_true, Bool.true_or, if_true, if_false, reduceCtorEq, andC_t, andC_f, orC_t, orC_f, Bool.not_true, Bool.not_false, ne_eq, not_true_eq_false, not_false_eq_true, Option.map_some, eq_self, compC_eq, compT_eq, compE_t, compE_f, wp_n, wp_c, evTs_n, evTs_1, w_tup]
    let P : Fl → Store → Prop := fun f N => N = M ∧ ((0 < zl ks 0 ∧ f = .rt (.v (.int (t - t % (i * p))))) ∨ (¬ 0 < zl ks 0 ∧ ∃ a b, f = .nx [some (sysD p i ps ls cs), some (.int t), some (.int mark), some (.tup (ks.map pd)), some (.int (i * p)), some (.int (t % (i * p))), a, b]))
    refine sat_bd (P := P) (for_i (fun j ρ N => N = M ∧ (∀ n q, n < j → ks[n]? = some q → ¬ (q.1 = 0 ∧ 0 < q.2)) ∧ ∃ a b, ρ = [some (sysD p i ps ls cs), some (.int t), some (.int mark), some (.tup (ks.map pd)), some (.int (i * p)), some (.int (t % (i * p))), a, b])
      ⟨rfl, fun n q hn => by omega, none, none, rfl⟩ (fun _ _ _ _ _ => okG_n) (fun j ρ N d hd w => ?_) fun ρ N w => ?_) fun f N w => ?_
    · obtain ⟨rfl, hno, a, b, rfl⟩ := w
      rw [List.getElem?_map, Option.map_eq_some_iff] at hd
      obtain ⟨⟨b0, m0⟩, hq, rfl⟩ := hd
      have hmem := List.mem_of_getElem? hq
      unfold pd
      simp only [exs_n, exs_c, cf_nx, cf_rt, cf_bk, cf_ct, ex_nm, setC_eq, ex_tp, ex_sb, asgC_eq, at_nm, at_tp, at_sb, ats_n, ats_c, ex_exp, ex_ret, ex_retN, ex_pass, ex_brk, ex_cont, ex_par, ex_iff, iffC_t, iffC_f, iffC_n, ex_for, forC_eq, turnC_eq, ev_con, ev_glo, ev_var, ev_tup, ev_lst, ev_bin, ev_neg, ev_cmp, ev_sub, ev_call, ev_prim, primC_eq, ev_meth, ev_and, ev_or, ev_not, ev_ife, ifeC_t, ifeC_f, ev_slc, ev_new, newC_f, ev_comp, evs_n, evs_c, evT_eq, endC_rt, endC_nx, lk_int, lk_bl, lk_str, lk_non, lk_tup, lk_lst, lk_dct, lk_scr, lk_ref, fd_v, fd_f, tr_bl, tr_int, tr_non, tr_tup, tr_lst, tR_some, bR_some, vR_some, oI_some, gd_t, o_add, o_sub, o_mul, o_fdiv, o_mod, o_pow, o_addt, o_addl, o_adds, o_neg, c_eq, c_ne, c_lt, c_gt, c_le, c_ge, c_isn, c_notn, q_int, q_str, q_bl, q_map, i_tup, i_lst, ai_0, ai_1, ai_2, ai_3, ai_4, ai_5, ai_6, ai_7, ai_8, ai_9, ai_10, ai_11, bd_ok, bdd_ok, sat_ok, List.getElem?_cons_succ, List.getElem?_cons_zero, List.set_cons_succ, List.set_cons_zero, List.map_cons, List.map_nil, bd_bd, bdd_bd, bdd_bdd, bd_bdd, kc_eq, kd_eq, Int.reduceLT, Int.reduceLE, Int.reduceToNat, Int.reducePow, decide_true, decide_false, Bool.and_true, Bool.true_and, Bool.or_true, Bool.true_or, if_true, if_false, reduceCtorEq, andC_t, andC_f, orC_t, orC_f, Bool.not_true, Bool.not_false, ne_eq, not_true_eq_false, not_false_eq_true, Option.map_some, eq_self, compC_eq, compT_eq, compE_t, compE_f, wp_n, wp_c, evTs_n, evTs_1]
      have nx : ¬ (b0 = 0 ∧ 0 < m0) → ∀ n q, n < j + 1 → ks[n]? = some q → ¬ (q.1 = 0 ∧ 0 < q.2) := fun hn n q hlt e => by
        by_cases hj : n = j
        · subst hj
          rw [hq] at e; cases e
          exact hn
        · exact hno n q (by omega) e
      by_cases hb : b0 = 0
      · rw [decide_eq_true hb]
        simp only [exs_n, exs_c, cf_nx, cf_rt, cf_bk, cf_ct, ex_nm, setC_eq, ex_tp, ex_sb, asgC_eq, at_nm, at_tp, at_sb, ats_n, ats_c, ex_exp, ex_ret, ex_retN, ex_pass, ex_brk, ex_cont, ex_par, ex_iff, iffC_t, iffC_f, iffC_n, ex_for, forC_eq, turnC_eq, ev_con, ev_glo, ev_var, ev_tup, ev_lst, ev_bin, ev_neg, ev_cmp, ev_sub, ev_call, ev_prim, primC_eq, ev_meth, ev_and, ev_or, ev_not, ev_ife, ifeC_t, ifeC_f, ev_slc, ev_new, newC_f, ev_comp, evs_n, evs_c, evT_eq, endC_rt, endC_nx, lk_int, lk_bl, lk_str, lk_non, lk_tup, lk_lst, lk_dct, lk_scr, lk_ref, fd_v, fd_f, tr_bl, tr_int, tr_non, tr_tup, tr_lst, tR_some, bR_some, vR_some, oI_some, gd_t, o_add, o_sub, o_mul, o_fdiv, o_mod, o_pow, o_addt, o_addl, o_adds, o_neg, c_eq, c_ne, c_lt, c_gt, c_le, c_ge, c_isn, c_notn, q_int, q_str, q_bl, q_map, i_tup, i_lst, ai_0, ai_1, ai_2, ai_3, ai_4, ai_5, ai_6, ai_7, ai_8, ai_9, ai_10, ai_11, bd_ok, bdd_ok, sat_ok, List.getElem?_cons_succ, List.getElem?_cons_zero, List.set_cons_succ, List.set_cons_zero, List.map_cons, List.map_nil, bd_bd, bdd_bd, bdd_bdd, bd_bdd, kc_eq, kd_eq, Int.reduceLT, Int.reduceLE, Int.reduceToNat, Int.reducePow, decide_true, decide_false, Bool.and_true, Bool.true_and, Bool.or_true, Bool.true_or, if_true, if_false, reduceCtorEq, andC_t, andC_f, orC_t, orC_f, Bool.not_true, Bool.not_false, ne_eq, not_true_eq_false, not_false_eq_true, Option.map_some, eq_self, compC_eq, compT_eq, compE_t, compE_f, wp_n, wp_c, evTs_n, evTs_1]
        refine iff_i (fun h3 => ?_) (fun h3 => ?_)
        · simp only [exs_n, exs_c, cf_nx, cf_rt, cf_bk, cf_ct, ex_nm, setC_eq, ex_tp, ex_sb, asgC_eq, at_nm, at_tp, at_sb, ats_n, ats_c, ex_exp, ex_ret, ex_retN, ex_pass, ex_brk, ex_cont, ex_par, ex_iff, iffC_t, iffC_f, iffC_n, ex_for, forC_eq, turnC_eq, ev_con, ev_glo, ev_var, ev_tup, ev_lst, ev_bin, ev_neg, ev_cmp, ev_sub, ev_call, ev_prim, primC_eq, ev_meth, ev_and, ev_or, ev_not, ev_ife, ifeC_t, ifeC_f, ev_slc, ev_new, newC_f, ev_comp, evs_n, evs_c, evT_eq, endC_rt, endC_nx, lk_int, lk_bl, lk_str, lk_non, lk_tup, lk_lst, lk_dct, lk_scr, lk_ref, fd_v, fd_f, tr_bl, tr_int, tr_non, tr_tup, tr_lst, tR_some, bR_some, vR_some, oI_some, gd_t, o_add, o_sub, o_mul, o_fdiv, o_mod, o_pow, o_addt, o_addl, o_adds, o_neg, c_eq, c_ne, c_lt, c_gt, c_le, c_ge, c_isn, c_notn, q_int, q_str, q_bl, q_map, i_tup, i_lst, ai_0, ai_1, ai_2, ai_3, ai_4, ai_5, ai_6, ai_7, ai_8, ai_9, ai_10, ai_11, bd_ok, bdd_ok, sat_ok, List.getElem?_cons_succ, List.getElem?_cons_zero, List.set_cons_succ, List.set_cons_zero, List.map_cons, List.map_nil, bd_bd, bdd_bd, bdd_bdd, bd_bdd, kc_eq, kd_eq, Int.reduceLT, Int.reduceLE, Int.reduceToNat, Int.reducePow, decide_true, decide_false, Bool.and_true, Bool.true_and, Bool.or_true, Bool.true_or, if_true, if_false, reduceCtorEq, andC_t, andC_f, orC_t, orC_f, Bool.not_true, Bool.not_false, ne_eq, not_true_eq_false, not_false_eq_true, Option.map_some, eq_self, compC_eq, compT_eq, compE_t, compE_f, wp_n, wp_c, evTs_n, evTs_1]
          refine ⟨by trivial, .inl ⟨?_, rfl⟩⟩
          subst hb
          rw [zl_hit nd hmem]
          exact h3
        · simp only [exs_n, exs_c, cf_nx, cf_rt, cf_bk, cf_ct, ex_nm, setC_eq, ex_tp, ex_sb, asgC_eq, at_nm, at_tp, at_sb, ats_n, ats_c, ex_exp, ex_ret, ex_retN, ex_pass, ex_brk, ex_cont, ex_par, ex_iff, iffC_t, iffC_f, iffC_n, ex_for, forC_eq, turnC_eq, ev_con, ev_glo, ev_var, ev_tup, ev_lst, ev_bin, ev_neg, ev_cmp, ev_sub, ev_call, ev_prim, primC_eq, ev_meth, ev_and, ev_or, ev_not, ev_ife, ifeC_t, ifeC_f, ev_slc, ev_new, newC_f, ev_comp, evs_n, evs_c, evT_eq, endC_rt, endC_nx, lk_int, lk_bl, lk_str, lk_non, lk_tup, lk_lst, lk_dct, lk_scr, lk_ref, fd_v, fd_f, tr_bl, tr_int, tr_non, tr_tup, tr_lst, tR_some, bR_some, vR_some, oI_some, gd_t, o_add, o_sub, o_mul, o_fdiv, o_mod, o_pow, o_addt, o_addl, o_adds, o_neg, c_eq, c_ne, c_lt, c_gt, c_le, c_ge, c_isn, c_notn, q_int, q_str, q_bl, q_map, i_tup, i_lst, ai_0, ai_1, ai_2, ai_3, ai_4, ai_5, ai_6, ai_7, ai_8, ai_9, ai_10, ai_11, bd_ok, bdd_ok, sat_ok, List.getElem?_cons_succ, List.getElem?_cons_zero, List.set_cons_succ, List.set_cons_zero, List.map_cons, List.map_nil, bd_bd, bdd_bd, bdd_bdd, bd_bdd, kc_eq, kd_eq, Int.reduceLT, Int.reduceLE, Int.reduceToNat, Int.reducePow, decide_true, decide_false, Bool.and_true, Bool.true_and, Bool.or_true, Bool.true_or, if_true, if_false, reduceCtorEq, andC_t, andC_f, orC_t, orC_f, Bool.not_true, Bool.not_false, ne_eq, not_true_eq_false, not_false_eq_true, Option.map_some, eq_self, compC_eq, compT_eq, compE_t, compE_f, wp_n, wp_c, evTs_n, evTs_1]
          exact ⟨by trivial, nx (fun z => h3 z.2), _, _, rfl⟩
      · rw [decide_eq_false hb]
        simp only [exs_n, exs_c, cf_nx, cf_rt, cf_bk, cf_ct, ex_nm, setC_eq, ex_tp, ex_sb, asgC_eq, at_nm, at_tp, at_sb, ats_n, ats_c, ex_exp, ex_ret, ex_retN, ex_pass, ex_brk, ex_cont, ex_par, ex_iff, iffC_t, iffC_f, iffC_n, ex_for, forC_eq, turnC_eq, ev_con, ev_glo, ev_var, ev_tup, ev_lst, ev_bin, ev_neg, ev_cmp, ev_sub, ev_call, ev_prim, primC_eq, ev_meth, ev_and, ev_or, ev_not, ev_ife, ifeC_t, ifeC_f, ev_slc, ev_new, newC_f, ev_comp, evs_n, evs_c, evT_eq, endC_rt, endC_nx, lk_int, lk_bl, lk_str, lk_non, lk_tup, lk_lst, lk_dct, lk_scr, lk_ref, fd_v, fd_f, tr_bl, tr_int, tr_non, tr_tup, tr_lst, tR_some, bR_some, vR_some, oI_some, gd_t, o_add, o_sub, o_mul, o_fdiv, o_mod, o_pow, o_addt, o_addl, o_adds, o_neg, c_eq, c_ne, c_lt, c_gt, c_le, c_ge, c_isn, c_notn, q_int, q_str, q_bl, q_map, i_tup, i_lst, ai_0, ai_1, ai_2, ai_3, ai_4, ai_5, ai_6, ai_7, ai_8, ai_9, ai_10, ai_11, bd_ok, bdd_ok, sat_ok, List.getElem?_cons_succ, List.getElem?_cons_zero, List.set_cons_succ, List.set_cons_zero, List.map_cons, List.map_nil, bd_bd, bdd_bd, bdd_bdd, bd_bdd, kc_eq, kd_eq, Int.reduceLT, Int.reduceLE, Int.reduceToNat, Int.reducePow, decide_true, decide_false, Bool.and_true, Bool.true_and, Bool.or_true, Bool.true_or, if_true, if_false, reduceCtorEq, andC_t, andC_f, orC_t, orC_f, Bool.not_true, Bool.not_false, ne_eq, not_true_eq_false, not_false_eq_true, Option.map_some, eq_self, compC_eq, compT_eq, compE_t, compE_f, wp_n, wp_c, evTs_n, evTs_1]
        exact ⟨by trivial, nx (fun z => hb z.1), _, _, rfl⟩
    · obtain ⟨rfl, hno, a, b, rfl⟩ := w
      refine ⟨rfl, .inr ⟨fun hz => ?_, _, _, rfl⟩⟩
      by_cases hex : ∃ q ∈ ks, q.1 = 0
      · obtain ⟨⟨q1, q2⟩, hq, e⟩ := hex
        have e : q1 = 0 := e
        subst e
        rw [zl_hit nd hq] at hz
        obtain ⟨n, hn⟩ := List.mem_iff_getElem?.mp hq
        have hlt := (List.getElem?_eq_some_iff.mp hn).1
        exact hno n _ (by rw [List.length_map]; exact hlt) hn ⟨rfl, hz⟩
      · rw [zl_no fun q hq e => hex ⟨q, hq, e⟩] at hz
        omega
    · obtain ⟨rfl, ⟨hz, rfl⟩ | ⟨hz, a, b, rfl⟩⟩ := w
      · rw [if_pos ⟨h1, hz⟩]
        simp only [exs_n, exs_c, cf_nx, cf_rt, cf_bk, cf_ct, ex_nm, setC_eq, ex_tp, ex_sb, asgC_eq, at_nm, at_tp, at_sb, ats_n, ats_c, ex_exp, ex_ret, ex_retN, ex_pass, ex_brk, ex_cont, ex_par, ex_iff, iffC_t, iffC_f, iffC_n, ex_for, forC_eq, turnC_eq, ev_con, ev_glo, ev_var, ev_tup, ev_lst, ev_bin, ev_neg, ev_cmp, ev_sub, ev_call, ev_prim, primC_eq, ev_meth, ev_and, ev_or, ev_not, ev_ife, ifeC_t, ifeC_f, ev_slc, ev_new, newC_f, ev_comp, evs_n, evs_c, evT_eq, endC_rt, endC_nx, lk_int, lk_bl, lk_str, lk_non, lk_tup, lk_lst, lk_dct, lk_scr, lk_ref, fd_v, fd_f, tr_bl, tr_int, tr_non, tr_tup, tr_lst, tR_some, bR_some, vR_some, oI_some, gd_t, o_add, o_sub, o_mul, o_fdiv, o_mod, o_pow, o_addt, o_addl, o_adds, o_neg, c_eq, c_ne, c_lt, c_gt, c_le, c_ge, c_isn, c_notn, q_int, q_str, q_bl, q_map, i_tup, i_lst, ai_0, ai_1, ai_2, ai_3, ai_4, ai_5, ai_6, ai_7, ai_8, ai_9, ai_10, ai_11, bd_ok, bdd_ok, sat_ok, List.getElem?_cons_succ, List.getElem?_cons_zero, List.set_cons_succ, List.set_cons_zero, List.map_cons, List.map_nil, bd_bd, bdd_bd, bdd_bdd, bd_bdd, kc_eq, kd_eq, Int.reduceLT, Int.reduceLE, Int.reduceToNat, Int.reducePow, decide_true, decide_false, Bool.and_true, Bool.true_and, Bool.or_true, Bool.true_or, if_true, if_false, reduceCtorEq, andC_t, andC_f, orC_t, orC_f, Bool.not_true, Bool.not_false, ne_eq, not_true_eq_false, not_false_eq_true, Option.map_some, eq_self, compC_eq, compT_eq, compE_t, compE_f, wp_n, wp_c, evTs_n, evTs_1]
        exact exit_p rfl rfl ⟨rfl, rfl⟩
      · rw [if_neg fun z => hz z.2]
        simp only [exs_n, exs_c, cf_nx, cf_rt, cf_bk, cf_ct, ex_nm, setC_eq, ex_tp, ex_sb, asgC_eq, at_nm, at_tp, at_sb, ats_n, ats_c, ex_exp, ex_ret, ex_retN, ex_pass, ex_brk, ex_cont, ex_par, ex_iff, iffC_t, iffC_f, iffC_n, ex_for, forC_eq, turnC_eq, ev_con, ev_glo, ev_var, ev_tup, ev_lst, ev_bin, ev_neg, ev_cmp, ev_sub, ev_call, ev_prim, primC_eq, ev_meth, ev_and, ev_or, ev_not, ev_ife, ifeC_t, ifeC_f, ev_slc, ev_new, newC_f, ev_comp, evs_n, evs_c, evT_eq, endC_rt, endC_nx, lk_int, lk_bl, lk_str, lk_non, lk_tup, lk_lst, lk_dct, lk_scr, lk_ref, fd_v, fd_f, tr_bl, tr_int, tr_non, tr_tup, tr_lst, tR_some, bR_some, vR_some, oI_some, gd_t, o_add, o_sub, o_mul, o_fdiv, o_mod, o_pow, o_addt, o_addl, o_adds, o_neg, c_eq, c_ne, c_lt, c_gt, c_le, c_ge, c_isn, c_notn, q_int, q_str, q_bl, q_map, i_tup, i_lst, ai_0, ai_1, ai_2, ai_3, ai_4, ai_5, ai_6, ai_7, ai_8, ai_9, ai_10, ai_11, bd_ok, bdd_ok, sat_ok, List.getElem?_cons_succ, List.getElem?_cons_zero, List.set_cons_succ, List.set_cons_zero, List.map_cons, List.map_nil, bd_bd, bdd_bd, bdd_bdd, bd_bdd, kc_eq, kd_eq, Int.reduceLT, Int.reduceLE, Int.reduceToNat, Int.reducePow, decide_true, decide_false, Bool.and_true, Bool.true_and, Bool.or_true, Bool.true_or, if_true, if_false, reduceCtorEq, andC_t, andC_f, orC_t, orC_f, Bool.not_true, Bool.not_false, ne_eq, not_true_eq_false, not_false_eq_true, Option.map_some, eq_self, compC_eq, compT_eq, compE_t, compE_f, wp_n, wp_c, evTs_n, evTs_1]
        exact exit_p rfl rfl ⟨rfl, rfl⟩
  · rw [if_neg fun z => h1 z.1]
    simp only [exs_n, exs_c, cf_nx, cf_rt, cf_bk, cf_ct, ex_nm, setC_eq, ex_tp, ex_sb, asgC_eq, at_nm, at_tp, at_sb, ats_n, ats_c, ex_exp, ex_ret, ex_retN, ex_pass, ex_brk, ex_cont, ex_par, ex_iff, iffC_t, iffC_f, iffC_n, ex_for, forC_eq, turnC_eq, ev_con, ev_glo, ev_var, ev_tup, ev_lst, ev_bin, ev_neg, ev_cmp, ev_sub, ev_call, ev_prim, primC_eq, ev_meth, ev_and, ev_or, ev_not, ev_ife, ifeC_t, ifeC_f, ev_slc, ev_new, newC_f, ev_comp, evs_n, evs_c, evT_eq, endC_rt, endC_nx, lk_int, lk_bl, lk_str, lk_non, lk_tup, lk_lst, lk_dct, lk_scr, lk_ref, fd_v, fd_f, tr_bl, tr_int, tr_non, tr_tup, tr_lst, tR_some, bR_some, vR_some, oI_some, gd_t, o_add, o_sub, o_mul, o_fdiv, o_mod, o_pow, o_addt, o_addl, o_adds, o_neg, c_eq, c_ne, c_lt, c_gt, c_le, c_ge, c_isn, c_notn, q_int, q_str, q_bl, q_map, i_tup, i_lst, ai_0, ai_1, ai_2, ai_3, ai_4, ai_5, ai_6, ai_7, ai_8, ai_9, ai_10, ai_11, bd_ok, bdd_ok, sat_ok, List.getElem?_cons_succ, List.getElem?_cons_zero, List.set_cons_succ, List.set_cons_zero, List.map_cons, List.map_nil, bd_bd, bdd_bd, bdd_bdd, bd_bdd, kc_eq, kd_eq, Int.reduceLT, Int.reduceLE, Int.reduceToNat, Int.reducePow, decide_true, decide_false, Bool.and_true, Bool.true_and, Bool.or_true, Bool.true_or, if_true, if_false, reduceCtorEq, andC_t, andC_f, orC_t, orC_f, Bool.not_true, Bool.not_false, ne_eq, not_true_eq_false, not_false_eq_true, Option.map_some, eq_self, compC_eq, compT_eq, compE_t, compE_f, wp_n, wp_c, evTs_n, evTs_1]
    exact exit_p rfl rfl ⟨rfl, rfl⟩
theorem pairs_pd : ∀ ks : List (Int × Int), pairsOf (ks.map pd) = some (ks.map fun q => (.inl q.1, .int q.2))
  | [] => rfl
  | (a, b) :: r => by
    show (toKey (.int a)).bind (fun k => (pairsOf (r.map pd)).map fun r => (k, D.int b) :: r) = _
    rw [pairs_pd r] <;> rfl
theorem last_pd : ∀ (ks : List (Int × Int)) (o : Option D) (z : Int), (o = none ∧ z = 0 ∨ o = some (.int z)) → (lastv (.inl 0) (ks.map fun q => ((.inl q.1 : Key), D.int q.2)) o).getD (.int 0) = .int (zl ks z)
  | [], o, z, h => by
    rcases h with ⟨rfl, rfl⟩ | rfl <;> rfl
  | (a, b) :: r, o, z, h => by
    show (lastv (.inl 0) (r.map fun q => ((.inl q.1 : Key), D.int q.2)) (if (Sum.inl a : Key) = .inl 0 then some (D.int b) else o)).getD (.int 0) = .int (zl r (if a = 0 then b else z))
    by_cases ha : a = 0
    · subst ha
      rw [if_pos rfl, if_pos rfl]
      exact last_pd r _ _ (.inr rfl)
    · rw [if_neg (fun e => ha (Sum.inl.inj e)), if_neg ha]
      exact last_pd r _ _ h
theorem succ_mod {c t : Int} (hc : 1 ≤ c) : (t + 1) % c = 0 ↔ t % c = c - 1 := by
  have hlo := Int.emod_nonneg t (b := c) (by omega)
  have hhi := Int.emod_lt_of_pos t (b := c) (by omega)
  have e : (t + 1) % c = (t % c + 1) % c := by
    rw [Int.add_emod, Int.add_emod (t % c) 1 c, Int.emod_emod]
  rw [e]
  constructor
  · intro h
    by_cases hl : t % c + 1 < c
    · rw [Int.emod_eq_of_lt (by omega) hl] at h
      omega
    · omega
  · intro h
    rw [show t % c + 1 = c by omega, Int.emod_self]
theorem dback_ok (h : SysOk p i ps ls cs) : callF fs gl (k + 1) 15 [sysD p i ps ls cs, .int t, .int mark, .tup (ks.map pd)] M = .ok (.v (.int (backV (i * p) t mark ks))) M := by
  obtain ⟨c1, c2⟩ := cyc h
  have e : p * i = i * p := Int.mul_comm _ _
  have gp : inW p = true := inW_i (by have := h.p1; omega) (by have := h.p2; omega)
  have g1 : (decide (0 < i * p)) = true := decide_eq_true (by omega)
  refine eq_sat (go (fn := ⟨4, 6, b__law_d_back⟩) (ρ := [some (sysD p i ps ls cs), some (.int t), some (.int mark), some (.tup (ks.map pd)), none, none]) rfl rfl rfl ?_)
  simp only [b__law_d_back, exs_n, exs_c, cf_nx, cf_rt, cf_bk, cf_ct, ex_nm, setC_eq, ex_tp, ex_sb, asgC_eq, at_nm, at_tp, at_sb, ats_n, ats_c, ex_exp, ex_ret, ex_retN, ex_pass, ex_brk, ex_cont, ex_par, ex_iff, iffC_t, iffC_f, iffC_n, ex_for, forC_eq, turnC_eq, ev_con, ev_glo, ev_var, ev_tup, ev_lst, ev_bin, ev_neg, ev_cmp, ev_sub, ev_call, ev_prim, primC_eq, ev_meth, ev_and, ev_or, ev_not, ev_ife, ifeC_t, ifeC_f, ev_slc, ev_new, newC_f, ev_comp, evs_n, evs_c, evT_eq, endC_rt, endC_nx, lk_int, lk_bl, lk_str, lk_non, lk_tup, lk_lst, lk_dct, lk_scr, lk_ref, fd_v, fd_f, tr_bl, tr_int, tr_non, tr_tup, tr_lst, tR_some, bR_some, vR_some, oI_some, gd_t, o_add, o_sub, o_mul, o_fdiv, o_mod, o_pow, o_addt, o_addl, o_adds, o_neg, c_eq, c_ne, c_lt, c_gt, c_le, c_ge, c_isn, c_notn, q_int, q_str, q_bl, q_map, i_tup, i_lst, ai_0, ai_1, ai_2, ai_3, ai_4, ai_5, ai_6, ai_7, ai_8, ai_9, ai_10, ai_11, bd_ok, bdd_ok, sat_ok, List.getElem?_cons_succ, List.getElem?_cons_zero, List.set_cons_succ, List.set_cons_zero, List.map_cons, List.map_nil, bd_bd, bdd_bd, bdd_bdd, bd_bdd, kc_eq, kd_eq, Int.reduceLT, Int.reduceLE, Int.reduceToNat, Int.reducePow, decide_true, decide_false, Bool.and_true, Bool.true_and, Bool.or_true, Bool.true_or, if_true, if_false, reduceCtorEq, andC_t, andC_f, orC_t, orC_f, Bool.not_true, Bool.not_false, ne_eq, not_true_eq_false, not_false_eq_true, Option.map_some, eq_self, compC_eq, compT_eq, compE_t, compE_f, wp_n, wp_c, evTs_n, evTs_1, lks, s0, s1, e, gp, g1, Bool.true_or, q_listt, q_dict (pairs_pd ks), k_get2, m_get2 (q' := .inl 0) (show toKey (.int 0) = some (.inl 0) from rfl), dlook_merge (ks := []) (vs := []) rfl, q_int1]
  rw [last_pd ks (dlook [] [] (.inl 0)) 0 (.inl ⟨rfl, rfl⟩)]
  unfold backV
  by_cases hm : t % (i * p) = i * p - 1
  · rw [decide_eq_true ((succ_mod c1).mpr hm)]
    simp only [exs_n, exs_c, cf_nx, cf_rt, cf_bk, cf_ct, ex_nm, setC_eq, ex_tp, ex_sb, asgC_eq, at_nm, at_tp, at_sb, ats_n, ats_c, ex_exp, ex_ret, ex_retN, ex_pass, ex_brk, ex_cont, ex_par, ex_iff, iffC_t, iffC_f, iffC_n, ex_for, forC_eq, turnC_eq, ev_con, ev_glo, ev_var, ev_tup, ev_lst, ev_bin, ev_neg, ev_cmp, ev_sub, ev_call, ev_prim, primC_eq, ev_meth, ev_and, ev_or, ev_not, ev_ife, ifeC_t, ifeC_f, ev_slc, ev_new, newC_f, ev_comp, evs_n, evs_c, evT_eq, endC_rt, endC_nx, lk_int, lk_bl, lk_str, lk_non, lk_tup, lk_lst, lk_dct, lk_scr, lk_ref, fd_v, fd_f, tr_bl, tr_int, tr_non, tr_tup, tr_lst, tR_some, bR_some, vR_some, oI_some, gd_t, o_add, o_sub, o_mul, o_fdiv, o_mod, o_pow, o_addt, o_addl, o_adds, o_neg, c_eq, c_ne, c_lt, c_gt, c_le, c_ge, c_isn, c_notn, q_int, q_str, q_bl, q_map, i_tup, i_lst, ai_0, ai_1, ai_2, ai_3, ai_4, ai_5, ai_6, ai_7, ai_8, ai_9, ai_10, ai_11, bd_ok, bdd_ok, sat_ok, List.getElem?_cons_succ, List.getElem?_cons_zero, List.set_cons_succ, List.set_cons_zero, List.map_cons, List.map_nil, bd_bd, bdd_bd, bdd_bdd, bd_bdd, kc_eq, kd_eq, Int.reduceLT, Int.reduceLE, Int.reduceToNat, Int.reducePow, decide_true, decide_false, Bool.and_true, Bool.true_and, Bool.or_true, Bool.true_or, if_true, if_false, reduceCtorEq, andC_t, andC_f, orC_t, orC_f, Bool.not_true, Bool.not_false, ne_eq, not_true_eq_false, not_false_eq_true, Option.map_some, eq_self, compC_eq, compT_eq, compE_t, compE_f, wp_n, wp_c, evTs_n, evTs_1]
    refine iff_i (fun h3 => ?_) (fun h3 => ?_)
    · rw [if_pos ⟨hm, h3⟩]
      have : t + 1 - i * p = t - t % (i * p) := by omega
      simp only [exs_n, exs_c, cf_nx, cf_rt, cf_bk, cf_ct, ex_nm, setC_eq, ex_tp, ex_sb, asgC_eq, at_nm, at_tp, at_sb, ats_n, ats_c, ex_exp, ex_ret, ex_retN, ex_pass, ex_brk, ex_cont, ex_par, ex_iff, iffC_t, iffC_f, iffC_n, ex_for, forC_eq, turnC_eq, ev_con, ev_glo, ev_var, ev_tup, ev_lst, ev_bin, ev_neg, ev_cmp, ev_sub, ev_call, ev_prim, primC_eq, ev_meth, ev_and, ev_or, ev_not, ev_ife, ifeC_t, ifeC_f, ev_slc, ev_new, newC_f, ev_comp, evs_n, evs_c, evT_eq, endC_rt, endC_nx, lk_int, lk_bl, lk_str, lk_non, lk_tup, lk_lst, lk_dct, lk_scr, lk_ref, fd_v, fd_f, tr_bl, tr_int, tr_non, tr_tup, tr_lst, tR_some, bR_some, vR_some, oI_some, gd_t, o_add, o_sub, o_mul, o_fdiv, o_mod, o_pow, o_addt, o_addl, o_adds, o_neg, c_eq, c_ne, c_lt, c_gt, c_le, c_ge, c_isn, c_notn, q_int, q_str, q_bl, q_map, i_tup, i_lst, ai_0, ai_1, ai_2, ai_3, ai_4, ai_5, ai_6, ai_7, ai_8, ai_9, ai_10, ai_11, bd_ok, bdd_ok, sat_ok, List.getElem?_cons_succ, List.getElem?_cons_zero, List.set_cons_succ, List.set_cons_zero, List.map_cons, List.map_nil, bd_bd, bdd_bd, bdd_bdd, bd_bdd, kc_eq, kd_eq, Int.reduceLT, Int.reduceLE, Int.reduceToNat, Int.reducePow, decide_true, decide_false, Bool.and_true, Bool.true_and, Bool.or_true, Bool.true_or, if_true, if_false, reduceCtorEq, andC_t, andC_f, orC_t, orC_f, Bool.not_true, Bool.not_false, ne_eq, not_true_eq_false, not_false_eq_true, Option.map_some, eq_self, compC_eq, compT_eq, compE_t, compE_f, wp_n, wp_c, evTs_n, evTs_1, this]
      exact exit_p rfl rfl ⟨rfl, rfl⟩
    · rw [if_neg fun z => h3 z.2]
      simp only [exs_n, exs_c, cf_nx, cf_rt, cf_bk, cf_ct, ex_nm, setC_eq, ex_tp, ex_sb, asgC_eq, at_nm, at_tp, at_sb, ats_n, ats_c, ex_exp, ex_ret, ex_retN, ex_pass, ex_brk, ex_cont, ex_par, ex_iff, iffC_t, iffC_f, iffC_n, ex_for, forC_eq, turnC_eq, ev_con, ev_glo, ev_var, ev_tup, ev_lst, ev_bin, ev_neg, ev_cmp, ev_sub, ev_call, ev_prim, primC_eq, ev_meth, ev_and, ev_or, ev_not, ev_ife, ifeC_t, ifeC_f, ev_slc, ev_new, newC_f, ev_comp, evs_n, evs_c, evT_eq, endC_rt, endC_nx, lk_int, lk_bl, lk_str, lk_non, lk_tup, lk_lst, lk_dct, lk_scr, lk_ref, fd_v, fd_f, tr_bl, tr_int, tr_non, tr_tup, tr_lst, tR_some, bR_some, vR_some, oI_some, gd_t, o_add, o_sub, o_mul, o_fdiv, o_mod, o_pow, o_addt, o_addl, o_adds, o_neg, c_eq, c_ne, c_lt, c_gt, c_le, c_ge, c_isn, c_notn, q_int, q_str, q_bl, q_map, i_tup, i_lst, ai_0, ai_1, ai_2, ai_3, ai_4, ai_5, ai_6, ai_7, ai_8, ai_9, ai_10, ai_11, bd_ok, bdd_ok, sat_ok, List.getElem?_cons_succ, List.getElem?_cons_zero, List.set_cons_succ, List.set_cons_zero, List.map_cons, List.map_nil, bd_bd, bdd_bd, bdd_bdd, bd_bdd, kc_eq, kd_eq, Int.reduceLT, Int.reduceLE, Int.reduceToNat, Int.reducePow, decide_true, decide_false, Bool.and_true, Bool.true_and, Bool.or_true, Bool.true_or, if_true, if_false, reduceCtorEq, andC_t, andC_f, orC_t, orC_f, Bool.not_true, Bool.not_false, ne_eq, not_true_eq_false, not_false_eq_true, Option.map_some, eq_self, compC_eq, compT_eq, compE_t, compE_f, wp_n, wp_c, evTs_n, evTs_1]
      exact exit_p rfl rfl ⟨rfl, rfl⟩
  · rw [decide_eq_false fun z => hm ((succ_mod c1).mp z), if_neg fun z => hm z.1]
    simp only [exs_n, exs_c, cf_nx, cf_rt, cf_bk, cf_ct, ex_nm, setC_eq, ex_tp, ex_sb, asgC_eq, at_nm, at_tp, at_sb, ats_n, ats_c, ex_exp, ex_ret, ex_retN, ex_pass, ex_brk, ex_cont, ex_par, ex_iff, iffC_t, iffC_f, iffC_n, ex_for, forC_eq, turnC_eq, ev_con, ev_glo, ev_var, ev_tup, ev_lst, ev_bin, ev_neg, ev_cmp, ev_sub, ev_call, ev_prim, primC_eq, ev_meth, ev_and, ev_or, ev_not, ev_ife, ifeC_t, ifeC_f, ev_slc, ev_new, newC_f, ev_comp, evs_n, evs_c, evT_eq, endC_rt, endC_nx, lk_int, lk_bl, lk_str, lk_non, lk_tup, lk_lst, lk_dct, lk_scr, lk_ref, fd_v, fd_f, tr_bl, tr_int, tr_non, tr_tup, tr_lst, tR_some, bR_some, vR_some, oI_some, gd_t, o_add, o_sub, o_mul, o_fdiv, o_mod, o_pow, o_addt, o_addl, o_adds, o_neg, c_eq, c_ne, c_lt, c_gt, c_le, c_ge, c_isn, c_notn, q_int, q_str, q_bl, q_map, i_tup, i_lst, ai_0, ai_1, ai_2, ai_3, ai_4, ai_5, ai_6, ai_7, ai_8, ai_9, ai_10, ai_11, bd_ok, bdd_ok, sat_ok, List.getElem?_cons_succ, List.getElem?_cons_zero, List.set_cons_succ, List.set_cons_zero, List.map_cons, List.map_nil, bd_bd, bdd_bd, bdd_bdd, bd_bdd, kc_eq, kd_eq, Int.reduceLT, Int.reduceLE, Int.reduceToNat, Int.reducePow, decide_true, decide_false, Bool.and_true, Bool.true_and, Bool.or_true, Bool.true_or, if_true, if_false, reduceCtorEq, andC_t, andC_f, orC_t, orC_f, Bool.not_true, Bool.not_false, ne_eq, not_true_eq_false, not_false_eq_true, Option.map_some, eq_self, compC_eq, compT_eq, compE_t, compE_f, wp_n, wp_c, evTs_n, evTs_1]
    exact exit_p rfl rfl ⟨rfl, rfl⟩
end
end Lw
namespace Lw
open PySem PyI
section
variable {k : Nat} {M : Store} {p i t mark : Int} {ps ls cs : List D} {ks : List (Int × Int)} {Q : FV → Store → Prop} {tp n m : Int} {ns : List Int} {r : Nat}
def gP : D → D
  | .int j => .str (Str.ofString "p" ++ Str.ofString (toString j))
  | _ => .non
def gL : D → D
  | .int j => .tup [.str (Str.ofString "l" ++ Str.ofString (toString j)), .non, .int 0]
  | _ => .non
def gC : D → D
  | .int j => .tup [.int j, .int 0, .tup [.str "time", .int j, .int 1], .str "", .int 0]
  | _ => .non
theorem str_small : ∀ j : Nat, j < 24 → (decide ((Str.ofString "p").length + (Str.ofString (toString (j : Int))).length ≤ sl)) = true := by decide +kernel
theorem str_small' : ∀ j : Nat, j < 24 → (decide ((Str.ofString "l").length + (Str.ofString (toString (j : Int))).length ≤ sl)) = true := by decide +kernel
theorem scps_map {g : D → D} (h : ∀ d, (g d).scp 0 = true) : ∀ l : List D, D.scps 0 (l.map g) = true
  | [] => rfl
  | a :: l => by simp [D.scps, h a, scps_map h l]
theorem made_sat {A B : Int} (hA0 : 0 ≤ A) (ha : A ≤ 20) (hB0 : 0 ≤ B) (hb : B ≤ 20) (q : ∀ ps ls cs : List D, (ps.length : Int) = A → (ls.length : Int) = B → D.scps 0 ps = true → D.scps 0 ls = true → D.scps 0 cs = true → Q (.v (sysD p i ps ls cs)) M) : (callF fs gl (k + 1) 11 [.int p, .int i, .int A, .int B] M).sat Q := by
  obtain ⟨a, rfl⟩ := Int.eq_ofNat_of_zero_le hA0
  obtain ⟨b, rfl⟩ := Int.eq_ofNat_of_zero_le hB0
  have ga : inR (a : Int) = true := inR_i (by omega) (by omega)
  have gb : inR (b : Int) = true := inR_i (by omega) (by omega)
  have hsl : sl = 16777216 := rfl
  refine go (fn := ⟨4, 8, b__law_d_made⟩) (ρ := [some (.int p), some (.int i), some (.int a), some (.int b), none, none, none, none]) rfl rfl rfl ?_
  simp only [b__law_d_made, exs_n, exs_c, cf_nx, cf_rt, cf_bk, cf_ct, ex_nm, setC_eq, ex_tp, ex_sb, asgC_eq, at_nm, at_tp, at_sb, ats_n, ats_c, ex_exp, ex_ret, ex_retN, ex_pass, ex_brk, ex_cont, ex_par, ex_iff, iffC_t, iffC_f, iffC_n, ex_for, forC_eq, turnC_eq, ev_con, ev_glo, ev_var, ev_tup, ev_lst, ev_bin, ev_neg, ev_cmp, ev_sub, ev_call, ev_prim, primC_eq, ev_meth, ev_and, ev_or, ev_not, ev_ife, ifeC_t, ifeC_f, ev_slc, ev_new, newC_f, ev_comp, evs_n, evs_c, evT_eq, endC_rt, endC_nx, lk_int, lk_bl, lk_str, lk_non, lk_tup, lk_lst, lk_dct, lk_scr, lk_ref, fd_v, fd_f, tr_bl, tr_int, tr_non, tr_tup, tr_lst, tR_some, bR_some, vR_some, oI_some, gd_t, o_add, o_sub, o_mul, o_fdiv, o_mod, o_pow, o_addt, o_addl, o_adds, o_neg, c_eq, c_ne, c_lt, c_gt, c_le, c_ge, c_isn, c_notn, q_int, q_str, q_bl, q_map, i_tup, i_lst, ai_0, ai_1, ai_2, ai_3, ai_4, ai_5, ai_6, ai_7, ai_8, ai_9, ai_10, ai_11, bd_ok, bdd_ok, sat_ok, List.getElem?_cons_succ, List.getElem?_cons_zero, List.set_cons_succ, List.set_cons_zero, List.map_cons, List.map_nil, bd_bd, bdd_bd, bdd_bdd, bd_bdd, kc_eq, kd_eq, Int.reduceLT, Int.reduceLE, Int.reduceToNat, Int.reducePow, decide_true, decide_false, Bool.and_true, Bool.true_and, Bool.or_true, Bool.true_or, if_true, if_false, reduceCtorEq, andC_t, andC_f, orC_t, orC_f, Bool.not_true, Bool.not_false, ne_eq, not_true_eq_false, not_false_eq_true, Option.map_some, eq_self, compC_eq, compT_eq, compE_t, compE_f, wp_n, wp_c, evTs_n, evTs_1, w_rng1, ga]
  refine comp_map gP (fun d hd => ?_) (by rw [rng_len]; omega) okG_n ?_
  · obtain ⟨j, rfl, hj⟩ := rng_mem hd
    have gj : inW (j : Int) = true := inW_i (by omega) (by omega)
    simp only [exs_n, exs_c, cf_nx, cf_rt, cf_bk, cf_ct, ex_nm, setC_eq, ex_tp, ex_sb, asgC_eq, at_nm, at_tp, at_sb, ats_n, ats_c, ex_exp, ex_ret, ex_retN, ex_pass, ex_brk, ex_cont, ex_par, ex_iff, iffC_t, iffC_f, iffC_n, ex_for, forC_eq, turnC_eq, ev_con, ev_glo, ev_var, ev_tup, ev_lst, ev_bin, ev_neg, ev_cmp, ev_sub, ev_call, ev_prim, primC_eq, ev_meth, ev_and, ev_or, ev_not, ev_ife, ifeC_t, ifeC_f, ev_slc, ev_new, newC_f, ev_comp, evs_n, evs_c, evT_eq, endC_rt, endC_nx, lk_int, lk_bl, lk_str, lk_non, lk_tup, lk_lst, lk_dct, lk_scr, lk_ref, fd_v, fd_f, tr_bl, tr_int, tr_non, tr_tup, tr_lst, tR_some, bR_some, vR_some, oI_some, gd_t, o_add, o_sub, o_mul, o_fdiv, o_mod, o_pow, o_addt, o_addl, o_adds, o_neg, c_eq, c_ne, c_lt, c_gt, c_le, c_ge, c_isn, c_notn, q_int, q_str, q_bl, q_map, i_tup, i_lst, ai_0, ai_1, ai_2, ai_3, ai_4, ai_5, ai_6, ai_7, ai_8, ai_9, ai_10, ai_11, bd_ok, bdd_ok, sat_ok, List.getElem?_cons_succ, List.getElem?_cons_zero, List.set_cons_succ, List.set_cons_zero, List.map_cons, List.map_nil, bd_bd, bdd_bd, bdd_bdd, bd_bdd, kc_eq, kd_eq, Int.reduceLT, Int.reduceLE, Int.reduceToNat, Int.reducePow, decide_true, decide_false, Bool.and_true, Bool.true_and, Bool.or_true, Bool.true_or, if_true, if_false, reduceCtorEq, andC_t, andC_f, orC_t, orC_f, Bool.not_true, Bool.not_false, ne_eq, not_true_eq_false, not_false_eq_true, Option.map_some, eq_self, compC_eq, compT_eq, compE_t, compE_f, wp_n, wp_c, evTs_n, evTs_1, q_str1, gj, str_small j (by omega)]
    exact ⟨by trivial, by trivial⟩
  simp only [exs_n, exs_c, cf_nx, cf_rt, cf_bk, cf_ct, ex_nm, setC_eq, ex_tp, ex_sb, asgC_eq, at_nm, at_tp, at_sb, ats_n, ats_c, ex_exp, ex_ret, ex_retN, ex_pass, ex_brk, ex_cont, ex_par, ex_iff, iffC_t, iffC_f, iffC_n, ex_for, forC_eq, turnC_eq, ev_con, ev_glo, ev_var, ev_tup, ev_lst, ev_bin, ev_neg, ev_cmp, ev_sub, ev_call, ev_prim, primC_eq, ev_meth, ev_and, ev_or, ev_not, ev_ife, ifeC_t, ifeC_f, ev_slc, ev_new, newC_f, ev_comp, evs_n, evs_c, evT_eq, endC_rt, endC_nx, lk_int, lk_bl, lk_str, lk_non, lk_tup, lk_lst, lk_dct, lk_scr, lk_ref, fd_v, fd_f, tr_bl, tr_int, tr_non, tr_tup, tr_lst, tR_some, bR_some, vR_some, oI_some, gd_t, o_add, o_sub, o_mul, o_fdiv, o_mod, o_pow, o_addt, o_addl, o_adds, o_neg, c_eq, c_ne, c_lt, c_gt, c_le, c_ge, c_isn, c_notn, q_int, q_str, q_bl, q_map, i_tup, i_lst, ai_0, ai_1, ai_2, ai_3, ai_4, ai_5, ai_6, ai_7, ai_8, ai_9, ai_10, ai_11, bd_ok, bdd_ok, sat_ok, List.getElem?_cons_succ, List.getElem?_cons_zero, List.set_cons_succ, List.set_cons_zero, List.map_cons, List.map_nil, bd_bd, bdd_bd, bdd_bdd, bd_bdd, kc_eq, kd_eq, Int.reduceLT, Int.reduceLE, Int.reduceToNat, Int.reducePow, decide_true, decide_false, Bool.and_true, Bool.true_and, Bool.or_true, Bool.true_or, if_true, if_false, reduceCtorEq, andC_t, andC_f, orC_t, orC_f, Bool.not_true, Bool.not_false, ne_eq, not_true_eq_false, not_false_eq_true, Option.map_some, eq_self, compC_eq, compT_eq, compE_t, compE_f, wp_n, wp_c, evTs_n, evTs_1, q_tuple, w_rng1, gb]
  refine comp_map gL (fun d hd => ?_) (by rw [rng_len]; omega) okG_n ?_
  · obtain ⟨j, rfl, hj⟩ := rng_mem hd
    have gj : inW (j : Int) = true := inW_i (by omega) (by omega)
    simp only [exs_n, exs_c, cf_nx, cf_rt, cf_bk, cf_ct, ex_nm, setC_eq, ex_tp, ex_sb, asgC_eq, at_nm, at_tp, at_sb, ats_n, ats_c, ex_exp, ex_ret, ex_retN, ex_pass, ex_brk, ex_cont, ex_par, ex_iff, iffC_t, iffC_f, iffC_n, ex_for, forC_eq, turnC_eq, ev_con, ev_glo, ev_var, ev_tup, ev_lst, ev_bin, ev_neg, ev_cmp, ev_sub, ev_call, ev_prim, primC_eq, ev_meth, ev_and, ev_or, ev_not, ev_ife, ifeC_t, ifeC_f, ev_slc, ev_new, newC_f, ev_comp, evs_n, evs_c, evT_eq, endC_rt, endC_nx, lk_int, lk_bl, lk_str, lk_non, lk_tup, lk_lst, lk_dct, lk_scr, lk_ref, fd_v, fd_f, tr_bl, tr_int, tr_non, tr_tup, tr_lst, tR_some, bR_some, vR_some, oI_some, gd_t, o_add, o_sub, o_mul, o_fdiv, o_mod, o_pow, o_addt, o_addl, o_adds, o_neg, c_eq, c_ne, c_lt, c_gt, c_le, c_ge, c_isn, c_notn, q_int, q_str, q_bl, q_map, i_tup, i_lst, ai_0, ai_1, ai_2, ai_3, ai_4, ai_5, ai_6, ai_7, ai_8, ai_9, ai_10, ai_11, bd_ok, bdd_ok, sat_ok, List.getElem?_cons_succ, List.getElem?_cons_zero, List.set_cons_succ, List.set_cons_zero, List.map_cons, List.map_nil, bd_bd, bdd_bd, bdd_bdd, bd_bdd, kc_eq, kd_eq, Int.reduceLT, Int.reduceLE, Int.reduceToNat, Int.reducePow, decide_true, decide_false, Bool.and_true, Bool.true_and, Bool.or_true, Bool.true_or, if_true, if_false, reduceCtorEq, andC_t, andC_f, orC_t, orC_f, Bool.not_true, Bool.not_false, ne_eq, not_true_eq_false, not_false_eq_true, Option.map_some, eq_self, compC_eq, compT_eq, compE_t, compE_f, wp_n, wp_c, evTs_n, evTs_1, q_str1, gj, str_small' j (by omega)]
    exact ⟨by trivial, by trivial⟩
  simp only [exs_n, exs_c, cf_nx, cf_rt, cf_bk, cf_ct, ex_nm, setC_eq, ex_tp, ex_sb, asgC_eq, at_nm, at_tp, at_sb, ats_n, ats_c, ex_exp, ex_ret, ex_retN, ex_pass, ex_brk, ex_cont, ex_par, ex_iff, iffC_t, iffC_f, iffC_n, ex_for, forC_eq, turnC_eq, ev_con, ev_glo, ev_var, ev_tup, ev_lst, ev_bin, ev_neg, ev_cmp, ev_sub, ev_call, ev_prim, primC_eq, ev_meth, ev_and, ev_or, ev_not, ev_ife, ifeC_t, ifeC_f, ev_slc, ev_new, newC_f, ev_comp, evs_n, evs_c, evT_eq, endC_rt, endC_nx, lk_int, lk_bl, lk_str, lk_non, lk_tup, lk_lst, lk_dct, lk_scr, lk_ref, fd_v, fd_f, tr_bl, tr_int, tr_non, tr_tup, tr_lst, tR_some, bR_some, vR_some, oI_some, gd_t, o_add, o_sub, o_mul, o_fdiv, o_mod, o_pow, o_addt, o_addl, o_adds, o_neg, c_eq, c_ne, c_lt, c_gt, c_le, c_ge, c_isn, c_notn, q_int, q_str, q_bl, q_map, i_tup, i_lst, ai_0, ai_1, ai_2, ai_3, ai_4, ai_5, ai_6, ai_7, ai_8, ai_9, ai_10, ai_11, bd_ok, bdd_ok, sat_ok, List.getElem?_cons_succ, List.getElem?_cons_zero, List.set_cons_succ, List.set_cons_zero, List.map_cons, List.map_nil, bd_bd, bdd_bd, bdd_bdd, bd_bdd, kc_eq, kd_eq, Int.reduceLT, Int.reduceLE, Int.reduceToNat, Int.reducePow, decide_true, decide_false, Bool.and_true, Bool.true_and, Bool.or_true, Bool.true_or, if_true, if_false, reduceCtorEq, andC_t, andC_f, orC_t, orC_f, Bool.not_true, Bool.not_false, ne_eq, not_true_eq_false, not_false_eq_true, Option.map_some, eq_self, compC_eq, compT_eq, compE_t, compE_f, wp_n, wp_c, evTs_n, evTs_1, q_tuple, w_rng1, ga]
  refine comp_map gC (fun d hd => ?_) (by rw [rng_len]; omega) okG_n ?_
  · obtain ⟨j, rfl, hj⟩ := rng_mem hd
    simp only [exs_n, exs_c, cf_nx, cf_rt, cf_bk, cf_ct, ex_nm, setC_eq, ex_tp, ex_sb, asgC_eq, at_nm, at_tp, at_sb, ats_n, ats_c, ex_exp, ex_ret, ex_retN, ex_pass, ex_brk, ex_cont, ex_par, ex_iff, iffC_t, iffC_f, iffC_n, ex_for, forC_eq, turnC_eq, ev_con, ev_glo, ev_var, ev_tup, ev_lst, ev_bin, ev_neg, ev_cmp, ev_sub, ev_call, ev_prim, primC_eq, ev_meth, ev_and, ev_or, ev_not, ev_ife, ifeC_t, ifeC_f, ev_slc, ev_new, newC_f, ev_comp, evs_n, evs_c, evT_eq, endC_rt, endC_nx, lk_int, lk_bl, lk_str, lk_non, lk_tup, lk_lst, lk_dct, lk_scr, lk_ref, fd_v, fd_f, tr_bl, tr_int, tr_non, tr_tup, tr_lst, tR_some, bR_some, vR_some, oI_some, gd_t, o_add, o_sub, o_mul, o_fdiv, o_mod, o_pow, o_addt, o_addl, o_adds, o_neg, c_eq, c_ne, c_lt, c_gt, c_le, c_ge, c_isn, c_notn, q_int, q_str, q_bl, q_map, i_tup, i_lst, ai_0, ai_1, ai_2, ai_3, ai_4, ai_5, ai_6, ai_7, ai_8, ai_9, ai_10, ai_11, bd_ok, bdd_ok, sat_ok, List.getElem?_cons_succ, List.getElem?_cons_zero, List.set_cons_succ, List.set_cons_zero, List.map_cons, List.map_nil, bd_bd, bdd_bd, bdd_bdd, bd_bdd, kc_eq, kd_eq, Int.reduceLT, Int.reduceLE, Int.reduceToNat, Int.reducePow, decide_true, decide_false, Bool.and_true, Bool.true_and, Bool.or_true, Bool.true_or, if_true, if_false, reduceCtorEq, andC_t, andC_f, orC_t, orC_f, Bool.not_true, Bool.not_false, ne_eq, not_true_eq_false, not_false_eq_true, Option.map_some, eq_self, compC_eq, compT_eq, compE_t, compE_f, wp_n, wp_c, evTs_n, evTs_1]
    exact ⟨by trivial, by trivial⟩
  simp only [exs_n, exs_c, cf_nx, cf_rt, cf_bk, cf_ct, ex_nm, setC_eq, ex_tp, ex_sb, asgC_eq, at_nm, at_tp, at_sb, ats_n, ats_c, ex_exp, ex_ret, ex_retN, ex_pass, ex_brk, ex_cont, ex_par, ex_iff, iffC_t, iffC_f, iffC_n, ex_for, forC_eq, turnC_eq, ev_con, ev_glo, ev_var, ev_tup, ev_lst, ev_bin, ev_neg, ev_cmp, ev_sub, ev_call, ev_prim, primC_eq, ev_meth, ev_and, ev_or, ev_not, ev_ife, ifeC_t, ifeC_f, ev_slc, ev_new, newC_f, ev_comp, evs_n, evs_c, evT_eq, endC_rt, endC_nx, lk_int, lk_bl, lk_str, lk_non, lk_tup, lk_lst, lk_dct, lk_scr, lk_ref, fd_v, fd_f, tr_bl, tr_int, tr_non, tr_tup, tr_lst, tR_some, bR_some, vR_some, oI_some, gd_t, o_add, o_sub, o_mul, o_fdiv, o_mod, o_pow, o_addt, o_addl, o_adds, o_neg, c_eq, c_ne, c_lt, c_gt, c_le, c_ge, c_isn, c_notn, q_int, q_str, q_bl, q_map, i_tup, i_lst, ai_0, ai_1, ai_2, ai_3, ai_4, ai_5, ai_6, ai_7, ai_8, ai_9, ai_10, ai_11, bd_ok, bdd_ok, sat_ok, List.getElem?_cons_succ, List.getElem?_cons_zero, List.set_cons_succ, List.set_cons_zero, List.map_cons, List.map_nil, bd_bd, bdd_bd, bdd_bdd, bd_bdd, kc_eq, kd_eq, Int.reduceLT, Int.reduceLE, Int.reduceToNat, Int.reducePow, decide_true, decide_false, Bool.and_true, Bool.true_and, Bool.or_true, Bool.true_or, if_true, if_false, reduceCtorEq, andC_t, andC_f, orC_t, orC_f, Bool.not_true, Bool.not_false, ne_eq, not_true_eq_false, not_false_eq_true, Option.map_some, eq_self, compC_eq, compT_eq, compE_t, compE_f, wp_n, wp_c, evTs_n, evTs_1, q_tuple]
  have h1 := scps_map (g := gP) (fun d => by cases d <;> rfl) (rngD 0 a)
  have h2 := scps_map (g := gL) (fun d => by cases d <;> rfl) (rngD 0 b)
  have h3 := scps_map (g := gC) (fun d => by cases d <;> rfl) (rngD 0 a)
  refine exit_p rfl (scp_mono (Nat.zero_le _) _ ?_) (q _ _ _ (by rw [List.length_map, rng_len]) (by rw [List.length_map, rng_len]) h1 h2 h3)
  simp [D.scp, D.scps, h1, h2, h3]
def IsSys (d : D) : Prop := ∃ p i ps ls cs, d = sysD p i ps ls cs ∧ SysOk p i ps ls cs ∧ ps.length ≤ 6 ∧ ls.length ≤ 4 ∧ p ≤ 12 ∧ i ≤ 16
theorem sys_scp (h : SysOk p i ps ls cs) {L : Nat} : (sysD p i ps ls cs).scp L = true := by
  refine scp_mono (Nat.zero_le _) _ ?_
  simp [sysD, D.scp, D.scps, h.s1, h.s2, h.s3]
theorem bare_sat (hM : M[r]? = some (TapeD ns tp n m)) (hp : 0 ≤ tp) (hn : 0 ≤ n) (q : ∀ d p' n' m', IsSys d → 0 ≤ p' → 0 ≤ n' → Q (.v d) (M.set r (TapeD ns p' n' m'))) : (callF fs gl (k + 2) 12 [.ref r] M).sat Q := by
  have ht : r < M.length := (List.getElem?_eq_some_iff.mp hM).1
  have hs : ∀ d : D, (M.set r d)[r]? = some d := fun d => List.getElem?_set_self ht
  refine go (fn := ⟨1, 5, b__law_d_bare⟩) (ρ := [some (.ref r), none, none, none, none]) rfl rfl rfl ?_
  simp only [b__law_d_bare, exs_n, exs_c, cf_nx, cf_rt, cf_bk, cf_ct, ex_nm, setC_eq, ex_tp, ex_sb, asgC_eq, at_nm, at_tp, at_sb, ats_n, ats_c, ex_exp, ex_ret, ex_retN, ex_pass, ex_brk, ex_cont, ex_par, ex_iff, iffC_t, iffC_f, iffC_n, ex_for, forC_eq, turnC_eq, ev_con, ev_glo, ev_var, ev_tup, ev_lst, ev_bin, ev_neg, ev_cmp, ev_sub, ev_call, ev_prim, primC_eq, ev_meth, ev_and, ev_or, ev_not, ev_ife, ifeC_t, ifeC_f, ev_slc, ev_new, newC_f, ev_comp, evs_n, evs_c, evT_eq, endC_rt, endC_nx, lk_int, lk_bl, lk_str, lk_non, lk_tup, lk_lst, lk_dct, lk_scr, lk_ref, fd_v, fd_f, tr_bl, tr_int, tr_non, tr_tup, tr_lst, tR_some, bR_some, vR_some, oI_some, gd_t, o_add, o_sub, o_mul, o_fdiv, o_mod, o_pow, o_addt, o_addl, o_adds, o_neg, c_eq, c_ne, c_lt, c_gt, c_le, c_ge, c_isn, c_notn, q_int, q_str, q_bl, q_map, i_tup, i_lst, ai_0, ai_1, ai_2, ai_3, ai_4, ai_5, ai_6, ai_7, ai_8, ai_9, ai_10, ai_11, bd_ok, bdd_ok, sat_ok, List.getElem?_cons_succ, List.getElem?_cons_zero, List.set_cons_succ, List.set_cons_zero, List.map_cons, List.map_nil, bd_bd, bdd_bd, bdd_bdd, bd_bdd, kc_eq, kd_eq, Int.reduceLT, Int.reduceLE, Int.reduceToNat, Int.reducePow, decide_true, decide_false, Bool.and_true, Bool.true_and, Bool.or_true, Bool.true_or, if_true, if_false, reduceCtorEq, andC_t, andC_f, orC_t, orC_f, Bool.not_true, Bool.not_false, ne_eq, not_true_eq_false, not_false_eq_true, Option.map_some, eq_self, compC_eq, compT_eq, compE_t, compE_f, wp_n, wp_c, evTs_n, evTs_1]
  refine sat_bddq (draw_sat f_draw hM hp hn (by omega) fun x p1 n1 m1 hx0 hx1 hp1 hn1 => ?_)
  simp only [exs_n, exs_c, cf_nx, cf_rt, cf_bk, cf_ct, ex_nm, setC_eq, ex_tp, ex_sb, asgC_eq, at_nm, at_tp, at_sb, ats_n, ats_c, ex_exp, ex_ret, ex_retN, ex_pass, ex_brk, ex_cont, ex_par, ex_iff, iffC_t, iffC_f, iffC_n, ex_for, forC_eq, turnC_eq, ev_con, ev_glo, ev_var, ev_tup, ev_lst, ev_bin, ev_neg, ev_cmp, ev_sub, ev_call, ev_prim, primC_eq, ev_meth, ev_and, ev_or, ev_not, ev_ife, ifeC_t, ifeC_f, ev_slc, ev_new, newC_f, ev_comp, evs_n, evs_c, evT_eq, endC_rt, endC_nx, lk_int, lk_bl, lk_str, lk_non, lk_tup, lk_lst, lk_dct, lk_scr, lk_ref, fd_v, fd_f, tr_bl, tr_int, tr_non, tr_tup, tr_lst, tR_some, bR_some, vR_some, oI_some, gd_t, o_add, o_sub, o_mul, o_fdiv, o_mod, o_pow, o_addt, o_addl, o_adds, o_neg, c_eq, c_ne, c_lt, c_gt, c_le, c_ge, c_isn, c_notn, q_int, q_str, q_bl, q_map, i_tup, i_lst, ai_0, ai_1, ai_2, ai_3, ai_4, ai_5, ai_6, ai_7, ai_8, ai_9, ai_10, ai_11, bd_ok, bdd_ok, sat_ok, List.getElem?_cons_succ, List.getElem?_cons_zero, List.set_cons_succ, List.set_cons_zero, List.map_cons, List.map_nil, bd_bd, bdd_bd, bdd_bdd, bd_bdd, kc_eq, kd_eq, Int.reduceLT, Int.reduceLE, Int.reduceToNat, Int.reducePow, decide_true, decide_false, Bool.and_true, Bool.true_and, Bool.or_true, Bool.true_or, if_true, if_false, reduceCtorEq, andC_t, andC_f, orC_t, orC_f, Bool.not_true, Bool.not_false, ne_eq, not_true_eq_false, not_false_eq_true, Option.map_some, eq_self, compC_eq, compT_eq, compE_t, compE_f, wp_n, wp_c, evTs_n, evTs_1]
  refine sat_bddq (draw_sat f_draw (hs _) hp1 hn1 (by omega) fun y p2 n2 m2 hy0 hy1 hp2 hn2 => ?_)
  simp only [exs_n, exs_c, cf_nx, cf_rt, cf_bk, cf_ct, ex_nm, setC_eq, ex_tp, ex_sb, asgC_eq, at_nm, at_tp, at_sb, ats_n, ats_c, ex_exp, ex_ret, ex_retN, ex_pass, ex_brk, ex_cont, ex_par, ex_iff, iffC_t, iffC_f, iffC_n, ex_for, forC_eq, turnC_eq, ev_con, ev_glo, ev_var, ev_tup, ev_lst, ev_bin, ev_neg, ev_cmp, ev_sub, ev_call, ev_prim, primC_eq, ev_meth, ev_and, ev_or, ev_not, ev_ife, ifeC_t, ifeC_f, ev_slc, ev_new, newC_f, ev_comp, evs_n, evs_c, evT_eq, endC_rt, endC_nx, lk_int, lk_bl, lk_str, lk_non, lk_tup, lk_lst, lk_dct, lk_scr, lk_ref, fd_v, fd_f, tr_bl, tr_int, tr_non, tr_tup, tr_lst, tR_some, bR_some, vR_some, oI_some, gd_t, o_add, o_sub, o_mul, o_fdiv, o_mod, o_pow, o_addt, o_addl, o_adds, o_neg, c_eq, c_ne, c_lt, c_gt, c_le, c_ge, c_isn, c_notn, q_int, q_str, q_bl, q_map, i_tup, i_lst, ai_0, ai_1, ai_2, ai_3, ai_4, ai_5, ai_6, ai_7, ai_8, ai_9, ai_10, ai_11, bd_ok, bdd_ok, sat_ok, List.getElem?_cons_succ, List.getElem?_cons_zero, List.set_cons_succ, List.set_cons_zero, List.map_cons, List.map_nil, bd_bd, bdd_bd, bdd_bdd, bd_bdd, kc_eq, kd_eq, Int.reduceLT, Int.reduceLE, Int.reduceToNat, Int.reducePow, decide_true, decide_false, Bool.and_true, Bool.true_and, Bool.or_true, Bool.true_or, if_true, if_false, reduceCtorEq, andC_t, andC_f, orC_t, orC_f, Bool.not_true, Bool.not_false, ne_eq, not_true_eq_false, not_false_eq_true, Option.map_some, eq_self, compC_eq, compT_eq, compE_t, compE_f, wp_n, wp_c, evTs_n, evTs_1, List.set_set]
  obtain ⟨a, rfl⟩ := Int.eq_ofNat_of_zero_le hx0
  obtain ⟨b, rfl⟩ := Int.eq_ofNat_of_zero_le hy0
  rw [gd_p (by rw [decide_eq_true (by omega), inW_i (by omega) (by omega)] <;> rfl)]
  simp only [exs_n, exs_c, cf_nx, cf_rt, cf_bk, cf_ct, ex_nm, setC_eq, ex_tp, ex_sb, asgC_eq, at_nm, at_tp, at_sb, ats_n, ats_c, ex_exp, ex_ret, ex_retN, ex_pass, ex_brk, ex_cont, ex_par, ex_iff, iffC_t, iffC_f, iffC_n, ex_for, forC_eq, turnC_eq, ev_con, ev_glo, ev_var, ev_tup, ev_lst, ev_bin, ev_neg, ev_cmp, ev_sub, ev_call, ev_prim, primC_eq, ev_meth, ev_and, ev_or, ev_not, ev_ife, ifeC_t, ifeC_f, ev_slc, ev_new, newC_f, ev_comp, evs_n, evs_c, evT_eq, endC_rt, endC_nx, lk_int, lk_bl, lk_str, lk_non, lk_tup, lk_lst, lk_dct, lk_scr, lk_ref, fd_v, fd_f, tr_bl, tr_int, tr_non, tr_tup, tr_lst, tR_some, bR_some, vR_some, oI_some, gd_t, o_add, o_sub, o_mul, o_fdiv, o_mod, o_pow, o_addt, o_addl, o_adds, o_neg, c_eq, c_ne, c_lt, c_gt, c_le, c_ge, c_isn, c_notn, q_int, q_str, q_bl, q_map, i_tup, i_lst, ai_0, ai_1, ai_2, ai_3, ai_4, ai_5, ai_6, ai_7, ai_8, ai_9, ai_10, ai_11, bd_ok, bdd_ok, sat_ok, List.getElem?_cons_succ, List.getElem?_cons_zero, List.set_cons_succ, List.set_cons_zero, List.map_cons, List.map_nil, bd_bd, bdd_bd, bdd_bdd, bd_bdd, kc_eq, kd_eq, Int.reduceLT, Int.reduceLE, Int.reduceToNat, Int.reducePow, decide_true, decide_false, Bool.and_true, Bool.true_and, Bool.or_true, Bool.true_or, if_true, if_false, reduceCtorEq, andC_t, andC_f, orC_t, orC_f, Bool.not_true, Bool.not_false, ne_eq, not_true_eq_false, not_false_eq_true, Option.map_some, eq_self, compC_eq, compT_eq, compE_t, compE_f, wp_n, wp_c, evTs_n, evTs_1, List.set_set]
  generalize hl : ((1 + (a : Int) + 3 + (1 + (a : Int) + b)) / (1 + (a : Int) + b)) = l
  have hl1 : 1 ≤ l := by
    rw [← hl]
    exact (Int.le_ediv_iff_mul_le (by omega)).mpr (by omega)
  have hl2 : l ≤ 10 := by
    rw [← hl]
    have : (1 + (a : Int) + 3 + (1 + (a : Int) + b)) / (1 + (a : Int) + b) < 11 := Int.ediv_lt_of_lt_mul (by omega) (by omega)
    omega
  refine sat_bddq (draw_sat f_draw (hs _) hp2 hn2 (by omega) fun z p3 n3 m3 hz0 hz1 hp3 hn3 => ?_)
  simp only [exs_n, exs_c, cf_nx, cf_rt, cf_bk, cf_ct, ex_nm, setC_eq, ex_tp, ex_sb, asgC_eq, at_nm, at_tp, at_sb, ats_n, ats_c, ex_exp, ex_ret, ex_retN, ex_pass, ex_brk, ex_cont, ex_par, ex_iff, iffC_t, iffC_f, iffC_n, ex_for, forC_eq, turnC_eq, ev_con, ev_glo, ev_var, ev_tup, ev_lst, ev_bin, ev_neg, ev_cmp, ev_sub, ev_call, ev_prim, primC_eq, ev_meth, ev_and, ev_or, ev_not, ev_ife, ifeC_t, ifeC_f, ev_slc, ev_new, newC_f, ev_comp, evs_n, evs_c, evT_eq, endC_rt, endC_nx, lk_int, lk_bl, lk_str, lk_non, lk_tup, lk_lst, lk_dct, lk_scr, lk_ref, fd_v, fd_f, tr_bl, tr_int, tr_non, tr_tup, tr_lst, tR_some, bR_some, vR_some, oI_some, gd_t, o_add, o_sub, o_mul, o_fdiv, o_mod, o_pow, o_addt, o_addl, o_adds, o_neg, c_eq, c_ne, c_lt, c_gt, c_le, c_ge, c_isn, c_notn, q_int, q_str, q_bl, q_map, i_tup, i_lst, ai_0, ai_1, ai_2, ai_3, ai_4, ai_5, ai_6, ai_7, ai_8, ai_9, ai_10, ai_11, bd_ok, bdd_ok, sat_ok, List.getElem?_cons_succ, List.getElem?_cons_zero, List.set_cons_succ, List.set_cons_zero, List.map_cons, List.map_nil, bd_bd, bdd_bd, bdd_bdd, bd_bdd, kc_eq, kd_eq, Int.reduceLT, Int.reduceLE, Int.reduceToNat, Int.reducePow, decide_true, decide_false, Bool.and_true, Bool.true_and, Bool.or_true, Bool.true_or, if_true, if_false, reduceCtorEq, andC_t, andC_f, orC_t, orC_f, Bool.not_true, Bool.not_false, ne_eq, not_true_eq_false, not_false_eq_true, Option.map_some, eq_self, compC_eq, compT_eq, compE_t, compE_f, wp_n, wp_c, evTs_n, evTs_1, List.set_set]
  refine sat_bddq (draw_sat f_draw (hs _) hp3 hn3 (by omega) fun w p4 n4 m4 hw0 hw1 hp4 hn4 => ?_)
  simp only [exs_n, exs_c, cf_nx, cf_rt, cf_bk, cf_ct, ex_nm, setC_eq, ex_tp, ex_sb, asgC_eq, at_nm, at_tp, at_sb, ats_n, ats_c, ex_exp, ex_ret, ex_retN, ex_pass, ex_brk, ex_cont, ex_par, ex_iff, iffC_t, iffC_f, iffC_n, ex_for, forC_eq, turnC_eq, ev_con, ev_glo, ev_var, ev_tup, ev_lst, ev_bin, ev_neg, ev_cmp, ev_sub, ev_call, ev_prim, primC_eq, ev_meth, ev_and, ev_or, ev_not, ev_ife, ifeC_t, ifeC_f, ev_slc, ev_new, newC_f, ev_comp, evs_n, evs_c, evT_eq, endC_rt, endC_nx, lk_int, lk_bl, lk_str, lk_non, lk_tup, lk_lst, lk_dct, lk_scr, lk_ref, fd_v, fd_f, tr_bl, tr_int, tr_non, tr_tup, tr_lst, tR_some, bR_some, vR_some, oI_some, gd_t, o_add, o_sub, o_mul, o_fdiv, o_mod, o_pow, o_addt, o_addl, o_adds, o_neg, c_eq, c_ne, c_lt, c_gt, c_le, c_ge, c_isn, c_notn, q_int, q_str, q_bl, q_map, i_tup, i_lst, ai_0, ai_1, ai_2, ai_3, ai_4, ai_5, ai_6, ai_7, ai_8, ai_9, ai_10, ai_11, bd_ok, bdd_ok, sat_ok, List.getElem?_cons_succ, List.getElem?_cons_zero, List.set_cons_succ, List.set_cons_zero, List.map_cons, List.map_nil, bd_bd, bdd_bd, bdd_bdd, bd_bdd, kc_eq, kd_eq, Int.reduceLT, Int.reduceLE, Int.reduceToNat, Int.reducePow, decide_true, decide_false, Bool.and_true, Bool.true_and, Bool.or_true, Bool.true_or, if_true, if_false, reduceCtorEq, andC_t, andC_f, orC_t, orC_f, Bool.not_true, Bool.not_false, ne_eq, not_true_eq_false, not_false_eq_true, Option.map_some, eq_self, compC_eq, compT_eq, compE_t, compE_f, wp_n, wp_c, evTs_n, evTs_1, List.set_set]
  have hw : w = 0 ∨ w = 1 ∨ w = 2 := by omega
  rcases hw with rfl | rfl | rfl
  · simp only [exs_n, exs_c, cf_nx, cf_rt, cf_bk, cf_ct, ex_nm, setC_eq, ex_tp, ex_sb, asgC_eq, at_nm, at_tp, at_sb, ats_n, ats_c, ex_exp, ex_ret, ex_retN, ex_pass, ex_brk, ex_cont, ex_par, ex_iff, iffC_t, iffC_f, iffC_n, ex_for, forC_eq, turnC_eq, ev_con, ev_glo, ev_var, ev_tup, ev_lst, ev_bin, ev_neg, ev_cmp, ev_sub, ev_call, ev_prim, primC_eq, ev_meth, ev_and, ev_or, ev_not, ev_ife, ifeC_t, ifeC_f, ev_slc, ev_new, newC_f, ev_comp, evs_n, evs_c, evT_eq, endC_rt, endC_nx, lk_int, lk_bl, lk_str, lk_non, lk_tup, lk_lst, lk_dct, lk_scr, lk_ref, fd_v, fd_f, tr_bl, tr_int, tr_non, tr_tup, tr_lst, tR_some, bR_some, vR_some, oI_some, gd_t, o_add, o_sub, o_mul, o_fdiv, o_mod, o_pow, o_addt, o_addl, o_adds, o_neg, c_eq, c_ne, c_lt, c_gt, c_le, c_ge, c_isn, c_notn, q_int, q_str, q_bl, q_map, i_tup, i_lst, ai_0, ai_1, ai_2, ai_3, ai_4, ai_5, ai_6, ai_7, ai_8, ai_9, ai_10, ai_11, bd_ok, bdd_ok, sat_ok, List.getElem?_cons_succ, List.getElem?_cons_zero, List.set_cons_succ, List.set_cons_zero, List.map_cons, List.map_nil, bd_bd, bdd_bd, bdd_bdd, bd_bdd, kc_eq, kd_eq, Int.reduceLT, Int.reduceLE, Int.reduceToNat, Int.reducePow, decide_true, decide_false, Bool.and_true, Bool.true_and, Bool.or_true, Bool.true_or, if_true, if_false, reduceCtorEq, andC_t, andC_f, orC_t, orC_f, Bool.not_true, Bool.not_false, ne_eq, not_true_eq_false, not_false_eq_true, Option.map_some, eq_self, compC_eq, compT_eq, compE_t, compE_f, wp_n, wp_c, evTs_n, evTs_1, List.set_set]
    refine sat_bddq (draw_sat f_draw (hs _) hp4 hn4 (by omega) fun u p5 n5 m5 hu0 hu1 hp5 hn5 => ?_)
    simp only [exs_n, exs_c, cf_nx, cf_rt, cf_bk, cf_ct, ex_nm, setC_eq, ex_tp, ex_sb, asgC_eq, at_nm, at_tp, at_sb, ats_n, ats_c, ex_exp, ex_ret, ex_retN, ex_pass, ex_brk, ex_cont, ex_par, ex_iff, iffC_t, iffC_f, iffC_n, ex_for, forC_eq, turnC_eq, ev_con, ev_glo, ev_var, ev_tup, ev_lst, ev_bin, ev_neg, ev_cmp, ev_sub, ev_call, ev_prim, primC_eq, ev_meth, ev_and, ev_or, ev_not, ev_ife, ifeC_t, ifeC_f, ev_slc, ev_new, newC_f, ev_comp, evs_n, evs_c, evT_eq, endC_rt, endC_nx, lk_int, lk_bl, lk_str, lk_non, lk_tup, lk_lst, lk_dct, lk_scr, lk_ref, fd_v, fd_f, tr_bl, tr_int, tr_non, tr_tup, tr_lst, tR_some, bR_some, vR_some, oI_some, gd_t, o_add, o_sub, o_mul, o_fdiv, o_mod, o_pow, o_addt, o_addl, o_adds, o_neg, c_eq, c_ne, c_lt, c_gt, c_le, c_ge, c_isn, c_notn, q_int, q_str, q_bl, q_map, i_tup, i_lst, ai_0, ai_1, ai_2, ai_3, ai_4, ai_5, ai_6, ai_7, ai_8, ai_9, ai_10, ai_11, bd_ok, bdd_ok, sat_ok, List.getElem?_cons_succ, List.getElem?_cons_zero, List.set_cons_succ, List.set_cons_zero, List.map_cons, List.map_nil, bd_bd, bdd_bd, bdd_bdd, bd_bdd, kc_eq, kd_eq, Int.reduceLT, Int.reduceLE, Int.reduceToNat, Int.reducePow, decide_true, decide_false, Bool.and_true, Bool.true_and, Bool.or_true, Bool.true_or, if_true, if_false, reduceCtorEq, andC_t, andC_f, orC_t, orC_f, Bool.not_true, Bool.not_false, ne_eq, not_true_eq_false, not_false_eq_true, Option.map_some, eq_self, compC_eq, compT_eq, compE_t, compE_f, wp_n, wp_c, evTs_n, evTs_1, List.set_set]
    refine sat_bdq (made_sat (by omega) (by omega) (by omega) (by omega) fun ps ls cs hl1' hl2' sc1 sc2 sc3 => ?_)
    simp only [exs_n, exs_c, cf_nx, cf_rt, cf_bk, cf_ct, ex_nm, setC_eq, ex_tp, ex_sb, asgC_eq, at_nm, at_tp, at_sb, ats_n, ats_c, ex_exp, ex_ret, ex_retN, ex_pass, ex_brk, ex_cont, ex_par, ex_iff, iffC_t, iffC_f, iffC_n, ex_for, forC_eq, turnC_eq, ev_con, ev_glo, ev_var, ev_tup, ev_lst, ev_bin, ev_neg, ev_cmp, ev_sub, ev_call, ev_prim, primC_eq, ev_meth, ev_and, ev_or, ev_not, ev_ife, ifeC_t, ifeC_f, ev_slc, ev_new, newC_f, ev_comp, evs_n, evs_c, evT_eq, endC_rt, endC_nx, lk_int, lk_bl, lk_str, lk_non, lk_tup, lk_lst, lk_dct, lk_scr, lk_ref, fd_v, fd_f, tr_bl, tr_int, tr_non, tr_tup, tr_lst, tR_some, bR_some, vR_some, oI_some, gd_t, o_add, o_sub, o_mul, o_fdiv, o_mod, o_pow, o_addt, o_addl, o_adds, o_neg, c_eq, c_ne, c_lt, c_gt, c_le, c_ge, c_isn, c_notn, q_int, q_str, q_bl, q_map, i_tup, i_lst, ai_0, ai_1, ai_2, ai_3, ai_4, ai_5, ai_6, ai_7, ai_8, ai_9, ai_10, ai_11, bd_ok, bdd_ok, sat_ok, List.getElem?_cons_succ, List.getElem?_cons_zero, List.set_cons_succ, List.set_cons_zero, List.map_cons, List.map_nil, bd_bd, bdd_bd, bdd_bdd, bd_bdd, kc_eq, kd_eq, Int.reduceLT, Int.reduceLE, Int.reduceToNat, Int.reducePow, decide_true, decide_false, Bool.and_true, Bool.true_and, Bool.or_true, Bool.true_or, if_true, if_false, reduceCtorEq, andC_t, andC_f, orC_t, orC_f, Bool.not_true, Bool.not_false, ne_eq, not_true_eq_false, not_false_eq_true, Option.map_some, eq_self, compC_eq, compT_eq, compE_t, compE_f, wp_n, wp_c, evTs_n, evTs_1]
    have ok : SysOk (1 + (a : Int) + b) l ps ls cs := ⟨by omega, by omega, by omega, by omega, by omega, by omega, by omega, sc1, sc2, sc3⟩
    exact exit_tape rfl rfl (sys_scp ok) (q _ _ _ _ ⟨_, _, _, _, _, rfl, ok, by omega, by omega, by omega, by omega⟩ hp5 hn5)
  · simp only [exs_n, exs_c, cf_nx, cf_rt, cf_bk, cf_ct, ex_nm, setC_eq, ex_tp, ex_sb, asgC_eq, at_nm, at_tp, at_sb, ats_n, ats_c, ex_exp, ex_ret, ex_retN, ex_pass, ex_brk, ex_cont, ex_par, ex_iff, iffC_t, iffC_f, iffC_n, ex_for, forC_eq, turnC_eq, ev_con, ev_glo, ev_var, ev_tup, ev_lst, ev_bin, ev_neg, ev_cmp, ev_sub, ev_call, ev_prim, primC_eq, ev_meth, ev_and, ev_or, ev_not, ev_ife, ifeC_t, ifeC_f, ev_slc, ev_new, newC_f, ev_comp, evs_n, evs_c, evT_eq, endC_rt, endC_nx, lk_int, lk_bl, lk_str, lk_non, lk_tup, lk_lst, lk_dct, lk_scr, lk_ref, fd_v, fd_f, tr_bl, tr_int, tr_non, tr_tup, tr_lst, tR_some, bR_some, vR_some, oI_some, gd_t, o_add, o_sub, o_mul, o_fdiv, o_mod, o_pow, o_addt, o_addl, o_adds, o_neg, c_eq, c_ne, c_lt, c_gt, c_le, c_ge, c_isn, c_notn, q_int, q_str, q_bl, q_map, i_tup, i_lst, ai_0, ai_1, ai_2, ai_3, ai_4, ai_5, ai_6, ai_7, ai_8, ai_9, ai_10, ai_11, bd_ok, bdd_ok, sat_ok, List.getElem?_cons_succ, List.getElem?_cons_zero, List.set_cons_succ, List.set_cons_zero, List.map_cons, List.map_nil, bd_bd, bdd_bd, bdd_bdd, bd_bdd, kc_eq, kd_eq, Int.reduceLT, Int.reduceLE, Int.reduceToNat, Int.reducePow, decide_true, decide_false, Bool.and_true, Bool.true_and, Bool.or_true, Bool.true_or, if_true, if_false, reduceCtorEq, andC_t, andC_f, orC_t, orC_f, Bool.not_true, Bool.not_false, ne_eq, not_true_eq_false, not_false_eq_true, Option.map_some, eq_self, compC_eq, compT_eq, compE_t, compE_f, wp_n, wp_c, evTs_n, evTs_1, List.set_set]
    refine sat_bddq (draw_sat f_draw (hs _) hp4 hn4 (by omega) fun u p5 n5 m5 hu0 hu1 hp5 hn5 => ?_)
    simp only [exs_n, exs_c, cf_nx, cf_rt, cf_bk, cf_ct, ex_nm, setC_eq, ex_tp, ex_sb, asgC_eq, at_nm, at_tp, at_sb, ats_n, ats_c, ex_exp, ex_ret, ex_retN, ex_pass, ex_brk, ex_cont, ex_par, ex_iff, iffC_t, iffC_f, iffC_n, ex_for, forC_eq, turnC_eq, ev_con, ev_glo, ev_var, ev_tup, ev_lst, ev_bin, ev_neg, ev_cmp, ev_sub, ev_call, ev_prim, primC_eq, ev_meth, ev_and, ev_or, ev_not, ev_ife, ifeC_t, ifeC_f, ev_slc, ev_new, newC_f, ev_comp, evs_n, evs_c, evT_eq, endC_rt, endC_nx, lk_int, lk_bl, lk_str, lk_non, lk_tup, lk_lst, lk_dct, lk_scr, lk_ref, fd_v, fd_f, tr_bl, tr_int, tr_non, tr_tup, tr_lst, tR_some, bR_some, vR_some, oI_some, gd_t, o_add, o_sub, o_mul, o_fdiv, o_mod, o_pow, o_addt, o_addl, o_adds, o_neg, c_eq, c_ne, c_lt, c_gt, c_le, c_ge, c_isn, c_notn, q_int, q_str, q_bl, q_map, i_tup, i_lst, ai_0, ai_1, ai_2, ai_3, ai_4, ai_5, ai_6, ai_7, ai_8, ai_9, ai_10, ai_11, bd_ok, bdd_ok, sat_ok, List.getElem?_cons_succ, List.getElem?_cons_zero, List.set_cons_succ, List.set_cons_zero, List.map_cons, List.map_nil, bd_bd, bdd_bd, bdd_bdd, bd_bdd, kc_eq, kd_eq, Int.reduceLT, Int.reduceLE, Int.reduceToNat, Int.reducePow, decide_true, decide_false, Bool.and_true, Bool.true_and, Bool.or_true, Bool.true_or, if_true, if_false, reduceCtorEq, andC_t, andC_f, orC_t, orC_f, Bool.not_true, Bool.not_false, ne_eq, not_true_eq_false, not_false_eq_true, Option.map_some, eq_self, compC_eq, compT_eq, compE_t, compE_f, wp_n, wp_c, evTs_n, evTs_1, List.set_set]
    refine sat_bdq (made_sat (by omega) (by omega) (by omega) (by omega) fun ps ls cs hl1' hl2' sc1 sc2 sc3 => ?_)
    simp only [exs_n, exs_c, cf_nx, cf_rt, cf_bk, cf_ct, ex_nm, setC_eq, ex_tp, ex_sb, asgC_eq, at_nm, at_tp, at_sb, ats_n, ats_c, ex_exp, ex_ret, ex_retN, ex_pass, ex_brk, ex_cont, ex_par, ex_iff, iffC_t, iffC_f, iffC_n, ex_for, forC_eq, turnC_eq, ev_con, ev_glo, ev_var, ev_tup, ev_lst, ev_bin, ev_neg, ev_cmp, ev_sub, ev_call, ev_prim, primC_eq, ev_meth, ev_and, ev_or, ev_not, ev_ife, ifeC_t, ifeC_f, ev_slc, ev_new, newC_f, ev_comp, evs_n, evs_c, evT_eq, endC_rt, endC_nx, lk_int, lk_bl, lk_str, lk_non, lk_tup, lk_lst, lk_dct, lk_scr, lk_ref, fd_v, fd_f, tr_bl, tr_int, tr_non, tr_tup, tr_lst, tR_some, bR_some, vR_some, oI_some, gd_t, o_add, o_sub, o_mul, o_fdiv, o_mod, o_pow, o_addt, o_addl, o_adds, o_neg, c_eq, c_ne, c_lt, c_gt, c_le, c_ge, c_isn, c_notn, q_int, q_str, q_bl, q_map, i_tup, i_lst, ai_0, ai_1, ai_2, ai_3, ai_4, ai_5, ai_6, ai_7, ai_8, ai_9, ai_10, ai_11, bd_ok, bdd_ok, sat_ok, List.getElem?_cons_succ, List.getElem?_cons_zero, List.set_cons_succ, List.set_cons_zero, List.map_cons, List.map_nil, bd_bd, bdd_bd, bdd_bdd, bd_bdd, kc_eq, kd_eq, Int.reduceLT, Int.reduceLE, Int.reduceToNat, Int.reducePow, decide_true, decide_false, Bool.and_true, Bool.true_and, Bool.or_true, Bool.true_or, if_true, if_false, reduceCtorEq, andC_t, andC_f, orC_t, orC_f, Bool.not_true, Bool.not_false, ne_eq, not_true_eq_false, not_false_eq_true, Option.map_some, eq_self, compC_eq, compT_eq, compE_t, compE_f, wp_n, wp_c, evTs_n, evTs_1]
    have ok : SysOk (1 + (a : Int) + b) 16 ps ls cs := ⟨by omega, by omega, by omega, by omega, by omega, by omega, by omega, sc1, sc2, sc3⟩
    exact exit_tape rfl rfl (sys_scp ok) (q _ _ _ _ ⟨_, _, _, _, _, rfl, ok, by omega, by omega, by omega, by omega⟩ hp5 hn5)
  · simp only [exs_n, exs_c, cf_nx, cf_rt, cf_bk, cf_ct, ex_nm, setC_eq, ex_tp, ex_sb, asgC_eq, at_nm, at_tp, at_sb, ats_n, ats_c, ex_exp, ex_ret, ex_retN, ex_pass, ex_brk, ex_cont, ex_par, ex_iff, iffC_t, iffC_f, iffC_n, ex_for, forC_eq, turnC_eq, ev_con, ev_glo, ev_var, ev_tup, ev_lst, ev_bin, ev_neg, ev_cmp, ev_sub, ev_call, ev_prim, primC_eq, ev_meth, ev_and, ev_or, ev_not, ev_ife, ifeC_t, ifeC_f, ev_slc, ev_new, newC_f, ev_comp, evs_n, evs_c, evT_eq, endC_rt, endC_nx, lk_int, lk_bl, lk_str, lk_non, lk_tup, lk_lst, lk_dct, lk_scr, lk_ref, fd_v, fd_f, tr_bl, tr_int, tr_non, tr_tup, tr_lst, tR_some, bR_some, vR_some, oI_some, gd_t, o_add, o_sub, o_mul, o_fdiv, o_mod, o_pow, o_addt, o_addl, o_adds, o_neg, c_eq, c_ne, c_lt, c_gt, c_le, c_ge, c_isn, c_notn, q_int, q_str, q_bl, q_map, i_tup, i_lst, ai_0, ai_1, ai_2, ai_3, ai_4, ai_5, ai_6, ai_7, ai_8, ai_9, ai_10, ai_11, bd_ok, bdd_ok, sat_ok, List.getElem?_cons_succ, List.getElem?_cons_zero, List.set_cons_succ, List.set_cons_zero, List.map_cons, List.map_nil, bd_bd, bdd_bd, bdd_bdd, bd_bdd, kc_eq, kd_eq, Int.reduceLT, Int.reduceLE, Int.reduceToNat, Int.reducePow, decide_true, decide_false, Bool.and_true, Bool.true_and, Bool.or_true, Bool.true_or, if_true, if_false, reduceCtorEq, andC_t, andC_f, orC_t, orC_f, Bool.not_true, Bool.not_false, ne_eq, not_true_eq_false, not_false_eq_true, Option.map_some, eq_self, compC_eq, compT_eq, compE_t, compE_f, wp_n, wp_c, evTs_n, evTs_1, List.set_set]
    refine sat_bddq (draw_sat f_draw (hs _) hp4 hn4 (by omega) fun u p5 n5 m5 hu0 hu1 hp5 hn5 => ?_)
    simp only [exs_n, exs_c, cf_nx, cf_rt, cf_bk, cf_ct, ex_nm, setC_eq, ex_tp, ex_sb, asgC_eq, at_nm, at_tp, at_sb, ats_n, ats_c, ex_exp, ex_ret, ex_retN, ex_pass, ex_brk, ex_cont, ex_par, ex_iff, iffC_t, iffC_f, iffC_n, ex_for, forC_eq, turnC_eq, ev_con, ev_glo, ev_var, ev_tup, ev_lst, ev_bin, ev_neg, ev_cmp, ev_sub, ev_call, ev_prim, primC_eq, ev_meth, ev_and, ev_or, ev_not, ev_ife, ifeC_t, ifeC_f, ev_slc, ev_new, newC_f, ev_comp, evs_n, evs_c, evT_eq, endC_rt, endC_nx, lk_int, lk_bl, lk_str, lk_non, lk_tup, lk_lst, lk_dct, lk_scr, lk_ref, fd_v, fd_f, tr_bl, tr_int, tr_non, tr_tup, tr_lst, tR_some, bR_some, vR_some, oI_some, gd_t, o_add, o_sub, o_mul, o_fdiv, o_mod, o_pow, o_addt, o_addl, o_adds, o_neg, c_eq, c_ne, c_lt, c_gt, c_le, c_ge, c_isn, c_notn, q_int, q_str, q_bl, q_map, i_tup, i_lst, ai_0, ai_1, ai_2, ai_3, ai_4, ai_5, ai_6, ai_7, ai_8, ai_9, ai_10, ai_11, bd_ok, bdd_ok, sat_ok, List.getElem?_cons_succ, List.getElem?_cons_zero, List.set_cons_succ, List.set_cons_zero, List.map_cons, List.map_nil, bd_bd, bdd_bd, bdd_bdd, bd_bdd, kc_eq, kd_eq, Int.reduceLT, Int.reduceLE, Int.reduceToNat, Int.reducePow, decide_true, decide_false, Bool.and_true, Bool.true_and, Bool.or_true, Bool.true_or, if_true, if_false, reduceCtorEq, andC_t, andC_f, orC_t, orC_f, Bool.not_true, Bool.not_false, ne_eq, not_true_eq_false, not_false_eq_true, Option.map_some, eq_self, compC_eq, compT_eq, compE_t, compE_f, wp_n, wp_c, evTs_n, evTs_1, List.set_set]
    refine sat_bdq (made_sat (by omega) (by omega) (by omega) (by omega) fun ps ls cs hl1' hl2' sc1 sc2 sc3 => ?_)
    simp only [exs_n, exs_c, cf_nx, cf_rt, cf_bk, cf_ct, ex_nm, setC_eq, ex_tp, ex_sb, asgC_eq, at_nm, at_tp, at_sb, ats_n, ats_c, ex_exp, ex_ret, ex_retN, ex_pass, ex_brk, ex_cont, ex_par, ex_iff, iffC_t, iffC_f, iffC_n, ex_for, forC_eq, turnC_eq, ev_con, ev_glo, ev_var, ev_tup, ev_lst, ev_bin, ev_neg, ev_cmp, ev_sub, ev_call, ev_prim, primC_eq, ev_meth, ev_and, ev_or, ev_not, ev_ife, ifeC_t, ifeC_f, ev_slc, ev_new, newC_f, ev_comp, evs_n, evs_c, evT_eq, endC_rt, endC_nx, lk_int, lk_bl, lk_str, lk_non, lk_tup, lk_lst, lk_dct, lk_scr, lk_ref, fd_v, fd_f, tr_bl, tr_int, tr_non, tr_tup, tr_lst, tR_some, bR_some, vR_some, oI_some, gd_t, o_add, o_sub, o_mul, o_fdiv, o_mod, o_pow, o_addt, o_addl, o_adds, o_neg, c_eq, c_ne, c_lt, c_gt, c_le, c_ge, c_isn, c_notn, q_int, q_str, q_bl, q_map, i_tup, i_lst, ai_0, ai_1, ai_2, ai_3, ai_4, ai_5, ai_6, ai_7, ai_8, ai_9, ai_10, ai_11, bd_ok, bdd_ok, sat_ok, List.getElem?_cons_succ, List.getElem?_cons_zero, List.set_cons_succ, List.set_cons_zero, List.map_cons, List.map_nil, bd_bd, bdd_bd, bdd_bdd, bd_bdd, kc_eq, kd_eq, Int.reduceLT, Int.reduceLE, Int.reduceToNat, Int.reducePow, decide_true, decide_false, Bool.and_true, Bool.true_and, Bool.or_true, Bool.true_or, if_true, if_false, reduceCtorEq, andC_t, andC_f, orC_t, orC_f, Bool.not_true, Bool.not_false, ne_eq, not_true_eq_false, not_false_eq_true, Option.map_some, eq_self, compC_eq, compT_eq, compE_t, compE_f, wp_n, wp_c, evTs_n, evTs_1]
    have ok : SysOk (1 + (a : Int) + b) (l + z) ps ls cs := ⟨by omega, by omega, by omega, by omega, by omega, by omega, by omega, sc1, sc2, sc3⟩
    exact exit_tape rfl rfl (sys_scp ok) (q _ _ _ _ ⟨_, _, _, _, _, rfl, ok, by omega, by omega, by omega, by omega⟩ hp5 hn5)
end
end Lw
namespace Lw
open PySem PyI
section
variable {k : Nat} {M : Store} {p i t mark : Int} {ps ls cs : List D} {ks : List (Int × Int)} {Q : FV → Store → Prop} {tp n m : Int} {ns : List Int} {r : Nat}
theorem near_sat {d : D} (hd : IsSys d) (hM : M[r]? = some (TapeD ns tp n m)) (hp : 0 ≤ tp) (hn : 0 ≤ n) (q : ∀ d p' n' m', IsSys d → 0 ≤ p' → 0 ≤ n' → Q (.v d) (M.set r (TapeD ns p' n' m'))) : (callF fs gl (k + 3) 13 [.ref r, d] M).sat Q := by
  have ht : r < M.length := (List.getElem?_eq_some_iff.mp hM).1
  have hs : ∀ d : D, (M.set r d)[r]? = some d := fun d => List.getElem?_set_self ht
  obtain ⟨p, i, ps, ls, cs, rfl, ok, b1, b2, b3, b4⟩ := hd
  have := ok.p1; have := ok.i1; have := ok.l1
  refine go (fn := ⟨2, 7, b__law_d_near⟩) (ρ := [some (.ref r), some (sysD p i ps ls cs), none, none, none, none, none]) rfl rfl rfl ?_
  simp only [b__law_d_near, exs_n, exs_c, cf_nx, cf_rt, cf_bk, cf_ct, ex_nm, setC_eq, ex_tp, ex_sb, asgC_eq, at_nm, at_tp, at_sb, ats_n, ats_c, ex_exp, ex_ret, ex_retN, ex_pass, ex_brk, ex_cont, ex_par, ex_iff, iffC_t, iffC_f, iffC_n, ex_for, forC_eq, turnC_eq, ev_con, ev_glo, ev_var, ev_tup, ev_lst, ev_bin, ev_neg, ev_cmp, ev_sub, ev_call, ev_prim, primC_eq, ev_meth, ev_and, ev_or, ev_not, ev_ife, ifeC_t, ifeC_f, ev_slc, ev_new, newC_f, ev_comp, evs_n, evs_c, evT_eq, endC_rt, endC_nx, lk_int, lk_bl, lk_str, lk_non, lk_tup, lk_lst, lk_dct, lk_scr, lk_ref, fd_v, fd_f, tr_bl, tr_int, tr_non, tr_tup, tr_lst, tR_some, bR_some, vR_some, oI_some, gd_t, o_add, o_sub, o_mul, o_fdiv, o_mod, o_pow, o_addt, o_addl, o_adds, o_neg, c_eq, c_ne, c_lt, c_gt, c_le, c_ge, c_isn, c_notn, q_int, q_str, q_bl, q_map, i_tup, i_lst, ai_0, ai_1, ai_2, ai_3, ai_4, ai_5, ai_6, ai_7, ai_8, ai_9, ai_10, ai_11, bd_ok, bdd_ok, sat_ok, List.getElem?_cons_succ, List.getElem?_cons_zero, List.set_cons_succ, List.set_cons_zero, List.map_cons, List.map_nil, bd_bd, bdd_bd, bdd_bdd, bd_bdd, kc_eq, kd_eq, Int.reduceLT, Int.reduceLE, Int.reduceToNat, Int.reducePow, decide_true, decide_false, Bool.and_true, Bool.true_and, Bool.or_true, Bool.true_or, if_true, if_false, reduceCtorEq, andC_t, andC_f, orC_t, orC_f, Bool.not_true, Bool.not_false, ne_eq, not_true_eq_false, not_false_eq_true, Option.map_some, eq_self, compC_eq, compT_eq, compE_t, compE_f, wp_n, wp_c, evTs_n, evTs_1, lks, s0, s1, s2, s6, q_lent]
  refine sat_bddq (draw_sat f_draw hM hp hn (by omega) fun x p1 n1 m1 hx0 hx1 hp1 hn1 => ?_)
  simp only [exs_n, exs_c, cf_nx, cf_rt, cf_bk, cf_ct, ex_nm, setC_eq, ex_tp, ex_sb, asgC_eq, at_nm, at_tp, at_sb, ats_n, ats_c, ex_exp, ex_ret, ex_retN, ex_pass, ex_brk, ex_cont, ex_par, ex_iff, iffC_t, iffC_f, iffC_n, ex_for, forC_eq, turnC_eq, ev_con, ev_glo, ev_var, ev_tup, ev_lst, ev_bin, ev_neg, ev_cmp, ev_sub, ev_call, ev_prim, primC_eq, ev_meth, ev_and, ev_or, ev_not, ev_ife, ifeC_t, ifeC_f, ev_slc, ev_new, newC_f, ev_comp, evs_n, evs_c, evT_eq, endC_rt, endC_nx, lk_int, lk_bl, lk_str, lk_non, lk_tup, lk_lst, lk_dct, lk_scr, lk_ref, fd_v, fd_f, tr_bl, tr_int, tr_non, tr_tup, tr_lst, tR_some, bR_some, vR_some, oI_some, gd_t, o_add, o_sub, o_mul, o_fdiv, o_mod, o_pow, o_addt, o_addl, o_adds, o_neg, c_eq, c_ne, c_lt, c_gt, c_le, c_ge, c_isn, c_notn, q_int, q_str, q_bl, q_map, i_tup, i_lst, ai_0, ai_1, ai_2, ai_3, ai_4, ai_5, ai_6, ai_7, ai_8, ai_9, ai_10, ai_11, bd_ok, bdd_ok, sat_ok, List.getElem?_cons_succ, List.getElem?_cons_zero, List.set_cons_succ, List.set_cons_zero, List.map_cons, List.map_nil, bd_bd, bdd_bd, bdd_bdd, bd_bdd, kc_eq, kd_eq, Int.reduceLT, Int.reduceLE, Int.reduceToNat, Int.reducePow, decide_true, decide_false, Bool.and_true, Bool.true_and, Bool.or_true, Bool.true_or, if_true, if_false, reduceCtorEq, andC_t, andC_f, orC_t, orC_f, Bool.not_true, Bool.not_false, ne_eq, not_true_eq_false, not_false_eq_true, Option.map_some, eq_self, compC_eq, compT_eq, compE_t, compE_f, wp_n, wp_c, evTs_n, evTs_1]
  have made : ∀ (j A B : Int), 1 ≤ j → j ≤ 16 → 1 ≤ A → A ≤ 6 → 0 ≤ B → B ≤ 4 → (callF fs gl (k + 2) 11 [.int p, .int j, .int A, .int B] (M.set r (TapeD ns p1 n1 m1))).sat fun v N => ∃ d, v = .v d ∧ IsSys d ∧ N = M.set r (TapeD ns p1 n1 m1) := fun j A B h1 h2 h3 h4 h5 h6 =>
    made_sat (by omega) (by omega) (by omega) (by omega) fun ps ls cs hl1' hl2' sc1 sc2 sc3 =>
      ⟨_, rfl, ⟨_, _, _, _, _, rfl, ⟨by omega, by omega, by omega, by omega, by omega, by omega, by omega, sc1, sc2, sc3⟩, by omega, by omega, by omega, by omega⟩, rfl⟩
  refine iff_i (fun h1 => ?_) (fun h1 => ?_)
  · simp only [exs_n, exs_c, cf_nx, cf_rt, cf_bk, cf_ct, ex_nm, setC_eq, ex_tp, ex_sb, asgC_eq, at_nm, at_tp, at_sb, ats_n, ats_c, ex_exp, ex_ret, ex_retN, ex_pass, ex_brk, ex_cont, ex_par, ex_iff, iffC_t, iffC_f, iffC_n, ex_for, forC_eq, turnC_eq, ev_con, ev_glo, ev_var, ev_tup, ev_lst, ev_bin, ev_neg, ev_cmp, ev_sub, ev_call, ev_prim, primC_eq, ev_meth, ev_and, ev_or, ev_not, ev_ife, ifeC_t, ifeC_f, ev_slc, ev_new, newC_f, ev_comp, evs_n, evs_c, evT_eq, endC_rt, endC_nx, lk_int, lk_bl, lk_str, lk_non, lk_tup, lk_lst, lk_dct, lk_scr, lk_ref, fd_v, fd_f, tr_bl, tr_int, tr_non, tr_tup, tr_lst, tR_some, bR_some, vR_some, oI_some, gd_t, o_add, o_sub, o_mul, o_fdiv, o_mod, o_pow, o_addt, o_addl, o_adds, o_neg, c_eq, c_ne, c_lt, c_gt, c_le, c_ge, c_isn, c_notn, q_int, q_str, q_bl, q_map, i_tup, i_lst, ai_0, ai_1, ai_2, ai_3, ai_4, ai_5, ai_6, ai_7, ai_8, ai_9, ai_10, ai_11, bd_ok, bdd_ok, sat_ok, List.getElem?_cons_succ, List.getElem?_cons_zero, List.set_cons_succ, List.set_cons_zero, List.map_cons, List.map_nil, bd_bd, bdd_bd, bdd_bdd, bd_bdd, kc_eq, kd_eq, Int.reduceLT, Int.reduceLE, Int.reduceToNat, Int.reducePow, decide_true, decide_false, Bool.and_true, Bool.true_and, Bool.or_true, Bool.true_or, if_true, if_false, reduceCtorEq, andC_t, andC_f, orC_t, orC_f, Bool.not_true, Bool.not_false, ne_eq, not_true_eq_false, not_false_eq_true, Option.map_some, eq_self, compC_eq, compT_eq, compE_t, compE_f, wp_n, wp_c, evTs_n, evTs_1]
    refine sat_bdq (bare_sat (hs _) hp1 hn1 fun d p' n' m' hd hp' hn' => ?_)
    simp only [exs_n, exs_c, cf_nx, cf_rt, cf_bk, cf_ct, ex_nm, setC_eq, ex_tp, ex_sb, asgC_eq, at_nm, at_tp, at_sb, ats_n, ats_c, ex_exp, ex_ret, ex_retN, ex_pass, ex_brk, ex_cont, ex_par, ex_iff, iffC_t, iffC_f, iffC_n, ex_for, forC_eq, turnC_eq, ev_con, ev_glo, ev_var, ev_tup, ev_lst, ev_bin, ev_neg, ev_cmp, ev_sub, ev_call, ev_prim, primC_eq, ev_meth, ev_and, ev_or, ev_not, ev_ife, ifeC_t, ifeC_f, ev_slc, ev_new, newC_f, ev_comp, evs_n, evs_c, evT_eq, endC_rt, endC_nx, lk_int, lk_bl, lk_str, lk_non, lk_tup, lk_lst, lk_dct, lk_scr, lk_ref, fd_v, fd_f, tr_bl, tr_int, tr_non, tr_tup, tr_lst, tR_some, bR_some, vR_some, oI_some, gd_t, o_add, o_sub, o_mul, o_fdiv, o_mod, o_pow, o_addt, o_addl, o_adds, o_neg, c_eq, c_ne, c_lt, c_gt, c_le, c_ge, c_isn, c_notn, q_int, q_str, q_bl, q_map, i_tup, i_lst, ai_0, ai_1, ai_2, ai_3, ai_4, ai_5, ai_6, ai_7, ai_8, ai_9, ai_10, ai_11, bd_ok, bdd_ok, sat_ok, List.getElem?_cons_succ, List.getElem?_cons_zero, List.set_cons_succ, List.set_cons_zero, List.map_cons, List.map_nil, bd_bd, bdd_bd, bdd_bdd, bd_bdd, kc_eq, kd_eq, Int.reduceLT, Int.reduceLE, Int.reduceToNat, Int.reducePow, decide_true, decide_false, Bool.and_true, Bool.true_and, Bool.or_true, Bool.true_or, if_true, if_false, reduceCtorEq, andC_t, andC_f, orC_t, orC_f, Bool.not_true, Bool.not_false, ne_eq, not_true_eq_false, not_false_eq_true, Option.map_some, eq_self, compC_eq, compT_eq, compE_t, compE_f, wp_n, wp_c, evTs_n, evTs_1, List.set_set]
    obtain ⟨p, i, ps, ls, cs, rfl, ok, b1, b2, b3, b4⟩ := id hd
    exact exit_tape rfl rfl (sys_scp ok) (q _ _ _ _ hd hp' hn')
  · have fin : ∀ d, IsSys d → (exitC M (.v d) (M.set r (TapeD ns p1 n1 m1))).sat Q := fun d hd => by
      obtain ⟨p, i, ps, ls, cs, rfl, ok, b1, b2, b3, b4⟩ := id hd
      exact exit_tape rfl rfl (sys_scp ok) (q _ _ _ _ hd hp1 hn1)
    simp only [exs_n, exs_c, cf_nx, cf_rt, cf_bk, cf_ct, ex_nm, setC_eq, ex_tp, ex_sb, asgC_eq, at_nm, at_tp, at_sb, ats_n, ats_c, ex_exp, ex_ret, ex_retN, ex_pass, ex_brk, ex_cont, ex_par, ex_iff, iffC_t, iffC_f, iffC_n, ex_for, forC_eq, turnC_eq, ev_con, ev_glo, ev_var, ev_tup, ev_lst, ev_bin, ev_neg, ev_cmp, ev_sub, ev_call, ev_prim, primC_eq, ev_meth, ev_and, ev_or, ev_not, ev_ife, ifeC_t, ifeC_f, ev_slc, ev_new, newC_f, ev_comp, evs_n, evs_c, evT_eq, endC_rt, endC_nx, lk_int, lk_bl, lk_str, lk_non, lk_tup, lk_lst, lk_dct, lk_scr, lk_ref, fd_v, fd_f, tr_bl, tr_int, tr_non, tr_tup, tr_lst, tR_some, bR_some, vR_some, oI_some, gd_t, o_add, o_sub, o_mul, o_fdiv, o_mod, o_pow, o_addt, o_addl, o_adds, o_neg, c_eq, c_ne, c_lt, c_gt, c_le, c_ge, c_isn, c_notn, q_int, q_str, q_bl, q_map, i_tup, i_lst, ai_0, ai_1, ai_2, ai_3, ai_4, ai_5, ai_6, ai_7, ai_8, ai_9, ai_10, ai_11, bd_ok, bdd_ok, sat_ok, List.getElem?_cons_succ, List.getElem?_cons_zero, List.set_cons_succ, List.set_cons_zero, List.map_cons, List.map_nil, bd_bd, bdd_bd, bdd_bdd, bd_bdd, kc_eq, kd_eq, Int.reduceLT, Int.reduceLE, Int.reduceToNat, Int.reducePow, decide_true, decide_false, Bool.and_true, Bool.true_and, Bool.or_true, Bool.true_or, if_true, if_false, reduceCtorEq, andC_t, andC_f, orC_t, orC_f, Bool.not_true, Bool.not_false, ne_eq, not_true_eq_false, not_false_eq_true, Option.map_some, eq_self, compC_eq, compT_eq, compE_t, compE_f, wp_n, wp_c, evTs_n, evTs_1]
    refine iff_i (fun h2 => ?_) (fun h2 => ?_)
    · simp only [exs_n, exs_c, cf_nx, cf_rt, cf_bk, cf_ct, ex_nm, setC_eq, ex_tp, ex_sb, asgC_eq, at_nm, at_tp, at_sb, ats_n, ats_c, ex_exp, ex_ret, ex_retN, ex_pass, ex_brk, ex_cont, ex_par, ex_iff, iffC_t, iffC_f, iffC_n, ex_for, forC_eq, turnC_eq, ev_con, ev_glo, ev_var, ev_tup, ev_lst, ev_bin, ev_neg, ev_cmp, ev_sub, ev_call, ev_prim, primC_eq, ev_meth, ev_and, ev_or, ev_not, ev_ife, ifeC_t, ifeC_f, ev_slc, ev_new, newC_f, ev_comp, evs_n, evs_c, evT_eq, endC_rt, endC_nx, lk_int, lk_bl, lk_str, lk_non, lk_tup, lk_lst, lk_dct, lk_scr, lk_ref, fd_v, fd_f, tr_bl, tr_int, tr_non, tr_tup, tr_lst, tR_some, bR_some, vR_some, oI_some, gd_t, o_add, o_sub, o_mul, o_fdiv, o_mod, o_pow, o_addt, o_addl, o_adds, o_neg, c_eq, c_ne, c_lt, c_gt, c_le, c_ge, c_isn, c_notn, q_int, q_str, q_bl, q_map, i_tup, i_lst, ai_0, ai_1, ai_2, ai_3, ai_4, ai_5, ai_6, ai_7, ai_8, ai_9, ai_10, ai_11, bd_ok, bdd_ok, sat_ok, List.getElem?_cons_succ, List.getElem?_cons_zero, List.set_cons_succ, List.set_cons_zero, List.map_cons, List.map_nil, bd_bd, bdd_bd, bdd_bdd, bd_bdd, kc_eq, kd_eq, Int.reduceLT, Int.reduceLE, Int.reduceToNat, Int.reducePow, decide_true, decide_false, Bool.and_true, Bool.true_and, Bool.or_true, Bool.true_or, if_true, if_false, reduceCtorEq, andC_t, andC_f, orC_t, orC_f, Bool.not_true, Bool.not_false, ne_eq, not_true_eq_false, not_false_eq_true, Option.map_some, eq_self, compC_eq, compT_eq, compE_t, compE_f, wp_n, wp_c, evTs_n, evTs_1]
      by_cases h3 : i < 16
      · rw [decide_eq_true h3]
        simp only [exs_n, exs_c, cf_nx, cf_rt, cf_bk, cf_ct, ex_nm, setC_eq, ex_tp, ex_sb, asgC_eq, at_nm, at_tp, at_sb, ats_n, ats_c, ex_exp, ex_ret, ex_retN, ex_pass, ex_brk, ex_cont, ex_par, ex_iff, iffC_t, iffC_f, iffC_n, ex_for, forC_eq, turnC_eq, ev_con, ev_glo, ev_var, ev_tup, ev_lst, ev_bin, ev_neg, ev_cmp, ev_sub, ev_call, ev_prim, primC_eq, ev_meth, ev_and, ev_or, ev_not, ev_ife, ifeC_t, ifeC_f, ev_slc, ev_new, newC_f, ev_comp, evs_n, evs_c, evT_eq, endC_rt, endC_nx, lk_int, lk_bl, lk_str, lk_non, lk_tup, lk_lst, lk_dct, lk_scr, lk_ref, fd_v, fd_f, tr_bl, tr_int, tr_non, tr_tup, tr_lst, tR_some, bR_some, vR_some, oI_some, gd_t, o_add, o_sub, o_mul, o_fdiv, o_mod, o_pow, o_addt, o_addl, o_adds, o_neg, c_eq, c_ne, c_lt, c_gt, c_le, c_ge, c_isn, c_notn, q_int, q_str, q_bl, q_map, i_tup, i_lst, ai_0, ai_1, ai_2, ai_3, ai_4, ai_5, ai_6, ai_7, ai_8, ai_9, ai_10, ai_11, bd_ok, bdd_ok, sat_ok, List.getElem?_cons_succ, List.getElem?_cons_zero, List.set_cons_succ, List.set_cons_zero, List.map_cons, List.map_nil, bd_bd, bdd_bd, bdd_bdd, bd_bdd, kc_eq, kd_eq, Int.reduceLT, Int.reduceLE, Int.reduceToNat, Int.reducePow, decide_true, decide_false, Bool.and_true, Bool.true_and, Bool.or_true, Bool.true_or, if_true, if_false, reduceCtorEq, andC_t, andC_f, orC_t, orC_f, Bool.not_true, Bool.not_false, ne_eq, not_true_eq_false, not_false_eq_true, Option.map_some, eq_self, compC_eq, compT_eq, compE_t, compE_f, wp_n, wp_c, evTs_n, evTs_1]
        refine sat_bd (made _ _ _ (by omega) (by omega) (by omega) (by omega) (by omega) (by omega)) fun v N w => ?_
        obtain ⟨d, rfl, hd, rfl⟩ := w
        simp only [exs_n, exs_c, cf_nx, cf_rt, cf_bk, cf_ct, ex_nm, setC_eq, ex_tp, ex_sb, asgC_eq, at_nm, at_tp, at_sb, ats_n, ats_c, ex_exp, ex_ret, ex_retN, ex_pass, ex_brk, ex_cont, ex_par, ex_iff, iffC_t, iffC_f, iffC_n, ex_for, forC_eq, turnC_eq, ev_con, ev_glo, ev_var, ev_tup, ev_lst, ev_bin, ev_neg, ev_cmp, ev_sub, ev_call, ev_prim, primC_eq, ev_meth, ev_and, ev_or, ev_not, ev_ife, ifeC_t, ifeC_f, ev_slc, ev_new, newC_f, ev_comp, evs_n, evs_c, evT_eq, endC_rt, endC_nx, lk_int, lk_bl, lk_str, lk_non, lk_tup, lk_lst, lk_dct, lk_scr, lk_ref, fd_v, fd_f, tr_bl, tr_int, tr_non, tr_tup, tr_lst, tR_some, bR_some, vR_some, oI_some, gd_t, o_add, o_sub, o_mul, o_fdiv, o_mod, o_pow, o_addt, o_addl, o_adds, o_neg, c_eq, c_ne, c_lt, c_gt, c_le, c_ge, c_isn, c_notn, q_int, q_str, q_bl, q_map, i_tup, i_lst, ai_0, ai_1, ai_2, ai_3, ai_4, ai_5, ai_6, ai_7, ai_8, ai_9, ai_10, ai_11, bd_ok, bdd_ok, sat_ok, List.getElem?_cons_succ, List.getElem?_cons_zero, List.set_cons_succ, List.set_cons_zero, List.map_cons, List.map_nil, bd_bd, bdd_bd, bdd_bdd, bd_bdd, kc_eq, kd_eq, Int.reduceLT, Int.reduceLE, Int.reduceToNat, Int.reducePow, decide_true, decide_false, Bool.and_true, Bool.true_and, Bool.or_true, Bool.true_or, if_true, if_false, reduceCtorEq, andC_t, andC_f, orC_t, orC_f, Bool.not_true, Bool.not_false, ne_eq, not_true_eq_false, not_false_eq_true, Option.map_some, eq_self, compC_eq, compT_eq, compE_t, compE_f, wp_n, wp_c, evTs_n, evTs_1]
        exact fin d hd
      · rw [decide_eq_false h3]
        simp only [exs_n, exs_c, cf_nx, cf_rt, cf_bk, cf_ct, ex_nm, setC_eq, ex_tp, ex_sb, asgC_eq, at_nm, at_tp, at_sb, ats_n, ats_c, ex_exp, ex_ret, ex_retN, ex_pass, ex_brk, ex_cont, ex_par, ex_iff, iffC_t, iffC_f, iffC_n, ex_for, forC_eq, turnC_eq, ev_con, ev_glo, ev_var, ev_tup, ev_lst, ev_bin, ev_neg, ev_cmp, ev_sub, ev_call, ev_prim, primC_eq, ev_meth, ev_and, ev_or, ev_not, ev_ife, ifeC_t, ifeC_f, ev_slc, ev_new, newC_f, ev_comp, evs_n, evs_c, evT_eq, endC_rt, endC_nx, lk_int, lk_bl, lk_str, lk_non, lk_tup, lk_lst, lk_dct, lk_scr, lk_ref, fd_v, fd_f, tr_bl, tr_int, tr_non, tr_tup, tr_lst, tR_some, bR_some, vR_some, oI_some, gd_t, o_add, o_sub, o_mul, o_fdiv, o_mod, o_pow, o_addt, o_addl, o_adds, o_neg, c_eq, c_ne, c_lt, c_gt, c_le, c_ge, c_isn, c_notn, q_int, q_str, q_bl, q_map, i_tup, i_lst, ai_0, ai_1, ai_2, ai_3, ai_4, ai_5, ai_6, ai_7, ai_8, ai_9, ai_10, ai_11, bd_ok, bdd_ok, sat_ok, List.getElem?_cons_succ, List.getElem?_cons_zero, List.set_cons_succ, List.set_cons_zero, List.map_cons, List.map_nil, bd_bd, bdd_bd, bdd_bdd, bd_bdd, kc_eq, kd_eq, Int.reduceLT, Int.reduceLE, Int.reduceToNat, Int.reducePow, decide_true, decide_false, Bool.and_true, Bool.true_and, Bool.or_true, Bool.true_or, if_true, if_false, reduceCtorEq, andC_t, andC_f, orC_t, orC_f, Bool.not_true, Bool.not_false, ne_eq, not_true_eq_false, not_false_eq_true, Option.map_some, eq_self, compC_eq, compT_eq, compE_t, compE_f, wp_n, wp_c, evTs_n, evTs_1]
        refine sat_bd (made _ _ _ (by omega) (by omega) (by omega) (by omega) (by omega) (by omega)) fun v N w => ?_
        obtain ⟨d, rfl, hd, rfl⟩ := w
        simp only [exs_n, exs_c, cf_nx, cf_rt, cf_bk, cf_ct, ex_nm, setC_eq, ex_tp, ex_sb, asgC_eq, at_nm, at_tp, at_sb, ats_n, ats_c, ex_exp, ex_ret, ex_retN, ex_pass, ex_brk, ex_cont, ex_par, ex_iff, iffC_t, iffC_f, iffC_n, ex_for, forC_eq, turnC_eq, ev_con, ev_glo, ev_var, ev_tup, ev_lst, ev_bin, ev_neg, ev_cmp, ev_sub, ev_call, ev_prim, primC_eq, ev_meth, ev_and, ev_or, ev_not, ev_ife, ifeC_t, ifeC_f, ev_slc, ev_new, newC_f, ev_comp, evs_n, evs_c, evT_eq, endC_rt, endC_nx, lk_int, lk_bl, lk_str, lk_non, lk_tup, lk_lst, lk_dct, lk_scr, lk_ref, fd_v, fd_f, tr_bl, tr_int, tr_non, tr_tup, tr_lst, tR_some, bR_some, vR_some, oI_some, gd_t, o_add, o_sub, o_mul, o_fdiv, o_mod, o_pow, o_addt, o_addl, o_adds, o_neg, c_eq, c_ne, c_lt, c_gt, c_le, c_ge, c_isn, c_notn, q_int, q_str, q_bl, q_map, i_tup, i_lst, ai_0, ai_1, ai_2, ai_3, ai_4, ai_5, ai_6, ai_7, ai_8, ai_9, ai_10, ai_11, bd_ok, bdd_ok, sat_ok, List.getElem?_cons_succ, List.getElem?_cons_zero, List.set_cons_succ, List.set_cons_zero, List.map_cons, List.map_nil, bd_bd, bdd_bd, bdd_bdd, bd_bdd, kc_eq, kd_eq, Int.reduceLT, Int.reduceLE, Int.reduceToNat, Int.reducePow, decide_true, decide_false, Bool.and_true, Bool.true_and, Bool.or_true, Bool.true_or, if_true, if_false, reduceCtorEq, andC_t, andC_f, orC_t, orC_f, Bool.not_true, Bool.not_false, ne_eq, not_true_eq_false, not_false_eq_true, Option.map_some, eq_self, compC_eq, compT_eq, compE_t, compE_f, wp_n, wp_c, evTs_n, evTs_1]
        exact fin d hd
    · have gi : inW i = true := inW_i (by omega) (by omega)
      simp only [exs_n, exs_c, cf_nx, cf_rt, cf_bk, cf_ct, ex_nm, setC_eq, ex_tp, ex_sb, asgC_eq, at_nm, at_tp, at_sb, ats_n, ats_c, ex_exp, ex_ret, ex_retN, ex_pass, ex_brk, ex_cont, ex_par, ex_iff, iffC_t, iffC_f, iffC_n, ex_for, forC_eq, turnC_eq, ev_con, ev_glo, ev_var, ev_tup, ev_lst, ev_bin, ev_neg, ev_cmp, ev_sub, ev_call, ev_prim, primC_eq, ev_meth, ev_and, ev_or, ev_not, ev_ife, ifeC_t, ifeC_f, ev_slc, ev_new, newC_f, ev_comp, evs_n, evs_c, evT_eq, endC_rt, endC_nx, lk_int, lk_bl, lk_str, lk_non, lk_tup, lk_lst, lk_dct, lk_scr, lk_ref, fd_v, fd_f, tr_bl, tr_int, tr_non, tr_tup, tr_lst, tR_some, bR_some, vR_some, oI_some, gd_t, o_add, o_sub, o_mul, o_fdiv, o_mod, o_pow, o_addt, o_addl, o_adds, o_neg, c_eq, c_ne, c_lt, c_gt, c_le, c_ge, c_isn, c_notn, q_int, q_str, q_bl, q_map, i_tup, i_lst, ai_0, ai_1, ai_2, ai_3, ai_4, ai_5, ai_6, ai_7, ai_8, ai_9, ai_10, ai_11, bd_ok, bdd_ok, sat_ok, List.getElem?_cons_succ, List.getElem?_cons_zero, List.set_cons_succ, List.set_cons_zero, List.map_cons, List.map_nil, bd_bd, bdd_bd, bdd_bdd, bd_bdd, kc_eq, kd_eq, Int.reduceLT, Int.reduceLE, Int.reduceToNat, Int.reducePow, decide_true, decide_false, Bool.and_true, Bool.true_and, Bool.or_true, Bool.true_or, if_true, if_false, reduceCtorEq, andC_t, andC_f, orC_t, orC_f, Bool.not_true, Bool.not_false, ne_eq, not_true_eq_false, not_false_eq_true, Option.map_some, eq_self, compC_eq, compT_eq, compE_t, compE_f, wp_n, wp_c, evTs_n, evTs_1]
      by_cases h3 : x = 2
      · rw [decide_eq_true h3]
        simp only [exs_n, exs_c, cf_nx, cf_rt, cf_bk, cf_ct, ex_nm, setC_eq, ex_tp, ex_sb, asgC_eq, at_nm, at_tp, at_sb, ats_n, ats_c, ex_exp, ex_ret, ex_retN, ex_pass, ex_brk, ex_cont, ex_par, ex_iff, iffC_t, iffC_f, iffC_n, ex_for, forC_eq, turnC_eq, ev_con, ev_glo, ev_var, ev_tup, ev_lst, ev_bin, ev_neg, ev_cmp, ev_sub, ev_call, ev_prim, primC_eq, ev_meth, ev_and, ev_or, ev_not, ev_ife, ifeC_t, ifeC_f, ev_slc, ev_new, newC_f, ev_comp, evs_n, evs_c, evT_eq, endC_rt, endC_nx, lk_int, lk_bl, lk_str, lk_non, lk_tup, lk_lst, lk_dct, lk_scr, lk_ref, fd_v, fd_f, tr_bl, tr_int, tr_non, tr_tup, tr_lst, tR_some, bR_some, vR_some, oI_some, gd_t, o_add, o_sub, o_mul, o_fdiv, o_mod, o_pow, o_addt, o_addl, o_adds, o_neg, c_eq, c_ne, c_lt, c_gt, c_le, c_ge, c_isn, c_notn, q_int, q_str, q_bl, q_map, i_tup, i_lst, ai_0, ai_1, ai_2, ai_3, ai_4, ai_5, ai_6, ai_7, ai_8, ai_9, ai_10, ai_11, bd_ok, bdd_ok, sat_ok, List.getElem?_cons_succ, List.getElem?_cons_zero, List.set_cons_succ, List.set_cons_zero, List.map_cons, List.map_nil, bd_bd, bdd_bd, bdd_bdd, bd_bdd, kc_eq, kd_eq, Int.reduceLT, Int.reduceLE, Int.reduceToNat, Int.reducePow, decide_true, decide_false, Bool.and_true, Bool.true_and, Bool.or_true, Bool.true_or, if_true, if_false, reduceCtorEq, andC_t, andC_f, orC_t, orC_f, Bool.not_true, Bool.not_false, ne_eq, not_true_eq_false, not_false_eq_true, Option.map_some, eq_self, compC_eq, compT_eq, compE_t, compE_f, wp_n, wp_c, evTs_n, evTs_1]
        by_cases h4 : (ps.length : Int) < 6
        · rw [decide_eq_true h4]
          simp only [exs_n, exs_c, cf_nx, cf_rt, cf_bk, cf_ct, ex_nm, setC_eq, ex_tp, ex_sb, asgC_eq, at_nm, at_tp, at_sb, ats_n, ats_c, ex_exp, ex_ret, ex_retN, ex_pass, ex_brk, ex_cont, ex_par, ex_iff, iffC_t, iffC_f, iffC_n, ex_for, forC_eq, turnC_eq, ev_con, ev_glo, ev_var, ev_tup, ev_lst, ev_bin, ev_neg, ev_cmp, ev_sub, ev_call, ev_prim, primC_eq, ev_meth, ev_and, ev_or, ev_not, ev_ife, ifeC_t, ifeC_f, ev_slc, ev_new, newC_f, ev_comp, evs_n, evs_c, evT_eq, endC_rt, endC_nx, lk_int, lk_bl, lk_str, lk_non, lk_tup, lk_lst, lk_dct, lk_scr, lk_ref, fd_v, fd_f, tr_bl, tr_int, tr_non, tr_tup, tr_lst, tR_some, bR_some, vR_some, oI_some, gd_t, o_add, o_sub, o_mul, o_fdiv, o_mod, o_pow, o_addt, o_addl, o_adds, o_neg, c_eq, c_ne, c_lt, c_gt, c_le, c_ge, c_isn, c_notn, q_int, q_str, q_bl, q_map, i_tup, i_lst, ai_0, ai_1, ai_2, ai_3, ai_4, ai_5, ai_6, ai_7, ai_8, ai_9, ai_10, ai_11, bd_ok, bdd_ok, sat_ok, List.getElem?_cons_succ, List.getElem?_cons_zero, List.set_cons_succ, List.set_cons_zero, List.map_cons, List.map_nil, bd_bd, bdd_bd, bdd_bdd, bd_bdd, kc_eq, kd_eq, Int.reduceLT, Int.reduceLE, Int.reduceToNat, Int.reducePow, decide_true, decide_false, Bool.and_true, Bool.true_and, Bool.or_true, Bool.true_or, if_true, if_false, reduceCtorEq, andC_t, andC_f, orC_t, orC_f, Bool.not_true, Bool.not_false, ne_eq, not_true_eq_false, not_false_eq_true, Option.map_some, eq_self, compC_eq, compT_eq, compE_t, compE_f, wp_n, wp_c, evTs_n, evTs_1]
          by_cases h5 : (ps.length : Int) < p
          · rw [decide_eq_true h5]
            simp only [exs_n, exs_c, cf_nx, cf_rt, cf_bk, cf_ct, ex_nm, setC_eq, ex_tp, ex_sb, asgC_eq, at_nm, at_tp, at_sb, ats_n, ats_c, ex_exp, ex_ret, ex_retN, ex_pass, ex_brk, ex_cont, ex_par, ex_iff, iffC_t, iffC_f, iffC_n, ex_for, forC_eq, turnC_eq, ev_con, ev_glo, ev_var, ev_tup, ev_lst, ev_bin, ev_neg, ev_cmp, ev_sub, ev_call, ev_prim, primC_eq, ev_meth, ev_and, ev_or, ev_not, ev_ife, ifeC_t, ifeC_f, ev_slc, ev_new, newC_f, ev_comp, evs_n, evs_c, evT_eq, endC_rt, endC_nx, lk_int, lk_bl, lk_str, lk_non, lk_tup, lk_lst, lk_dct, lk_scr, lk_ref, fd_v, fd_f, tr_bl, tr_int, tr_non, tr_tup, tr_lst, tR_some, bR_some, vR_some, oI_some, gd_t, o_add, o_sub, o_mul, o_fdiv, o_mod, o_pow, o_addt, o_addl, o_adds, o_neg, c_eq, c_ne, c_lt, c_gt, c_le, c_ge, c_isn, c_notn, q_int, q_str, q_bl, q_map, i_tup, i_lst, ai_0, ai_1, ai_2, ai_3, ai_4, ai_5, ai_6, ai_7, ai_8, ai_9, ai_10, ai_11, bd_ok, bdd_ok, sat_ok, List.getElem?_cons_succ, List.getElem?_cons_zero, List.set_cons_succ, List.set_cons_zero, List.map_cons, List.map_nil, bd_bd, bdd_bd, bdd_bdd, bd_bdd, kc_eq, kd_eq, Int.reduceLT, Int.reduceLE, Int.reduceToNat, Int.reducePow, decide_true, decide_false, Bool.and_true, Bool.true_and, Bool.or_true, Bool.true_or, if_true, if_false, reduceCtorEq, andC_t, andC_f, orC_t, orC_f, Bool.not_true, Bool.not_false, ne_eq, not_true_eq_false, not_false_eq_true, Option.map_some, eq_self, compC_eq, compT_eq, compE_t, compE_f, wp_n, wp_c, evTs_n, evTs_1, gi]
            refine iff_i (fun h6 => ?_) (fun h6 => ?_)
            · simp only [exs_n, exs_c, cf_nx, cf_rt, cf_bk, cf_ct, ex_nm, setC_eq, ex_tp, ex_sb, asgC_eq, at_nm, at_tp, at_sb, ats_n, ats_c, ex_exp, ex_ret, ex_retN, ex_pass, ex_brk, ex_cont, ex_par, ex_iff, iffC_t, iffC_f, iffC_n, ex_for, forC_eq, turnC_eq, ev_con, ev_glo, ev_var, ev_tup, ev_lst, ev_bin, ev_neg, ev_cmp, ev_sub, ev_call, ev_prim, primC_eq, ev_meth, ev_and, ev_or, ev_not, ev_ife, ifeC_t, ifeC_f, ev_slc, ev_new, newC_f, ev_comp, evs_n, evs_c, evT_eq, endC_rt, endC_nx, lk_int, lk_bl, lk_str, lk_non, lk_tup, lk_lst, lk_dct, lk_scr, lk_ref, fd_v, fd_f, tr_bl, tr_int, tr_non, tr_tup, tr_lst, tR_some, bR_some, vR_some, oI_some, gd_t, o_add, o_sub, o_mul, o_fdiv, o_mod, o_pow, o_addt, o_addl, o_adds, o_neg, c_eq, c_ne, c_lt, c_gt, c_le, c_ge, c_isn, c_notn, q_int, q_str, q_bl, q_map, i_tup, i_lst, ai_0, ai_1, ai_2, ai_3, ai_4, ai_5, ai_6, ai_7, ai_8, ai_9, ai_10, ai_11, bd_ok, bdd_ok, sat_ok, List.getElem?_cons_succ, List.getElem?_cons_zero, List.set_cons_succ, List.set_cons_zero, List.map_cons, List.map_nil, bd_bd, bdd_bd, bdd_bdd, bd_bdd, kc_eq, kd_eq, Int.reduceLT, Int.reduceLE, Int.reduceToNat, Int.reducePow, decide_true, decide_false, Bool.and_true, Bool.true_and, Bool.or_true, Bool.true_or, if_true, if_false, reduceCtorEq, andC_t, andC_f, orC_t, orC_f, Bool.not_true, Bool.not_false, ne_eq, not_true_eq_false, not_false_eq_true, Option.map_some, eq_self, compC_eq, compT_eq, compE_t, compE_f, wp_n, wp_c, evTs_n, evTs_1]
              refine sat_bd (made _ _ _ (by omega) (by omega) (by omega) (by omega) (by omega) (by omega)) fun v N w => ?_
              obtain ⟨d, rfl, hd, rfl⟩ := w
              simp only [exs_n, exs_c, cf_nx, cf_rt, cf_bk, cf_ct, ex_nm, setC_eq, ex_tp, ex_sb, asgC_eq, at_nm, at_tp, at_sb, ats_n, ats_c, ex_exp, ex_ret, ex_retN, ex_pass, ex_brk, ex_cont, ex_par, ex_iff, iffC_t, iffC_f, iffC_n, ex_for, forC_eq, turnC_eq, ev_con, ev_glo, ev_var, ev_tup, ev_lst, ev_bin, ev_neg, ev_cmp, ev_sub, ev_call, ev_prim, primC_eq, ev_meth, ev_and, ev_or, ev_not, ev_ife, ifeC_t, ifeC_f, ev_slc, ev_new, newC_f, ev_comp, evs_n, evs_c, evT_eq, endC_rt, endC_nx, lk_int, lk_bl, lk_str, lk_non, lk_tup, lk_lst, lk_dct, lk_scr, lk_ref, fd_v, fd_f, tr_bl, tr_int, tr_non, tr_tup, tr_lst, tR_some, bR_some, vR_some, oI_some, gd_t, o_add, o_sub, o_mul, o_fdiv, o_mod, o_pow, o_addt, o_addl, o_adds, o_neg, c_eq, c_ne, c_lt, c_gt, c_le, c_ge, c_isn, c_notn, q_int, q_str, q_bl, q_map, i_tup, i_lst, ai_0, ai_1, ai_2, ai_3, ai_4, ai_5, ai_6, ai_7, ai_8, ai_9, ai_10, ai_11, bd_ok, bdd_ok, sat_ok, List.getElem?_cons_succ, List.getElem?_cons_zero, List.set_cons_succ, List.set_cons_zero, List.map_cons, List.map_nil, bd_bd, bdd_bd, bdd_bdd, bd_bdd, kc_eq, kd_eq, Int.reduceLT, Int.reduceLE, Int.reduceToNat, Int.reducePow, decide_true, decide_false, Bool.and_true, Bool.true_and, Bool.or_true, Bool.true_or, if_true, if_false, reduceCtorEq, andC_t, andC_f, orC_t, orC_f, Bool.not_true, Bool.not_false, ne_eq, not_true_eq_false, not_false_eq_true, Option.map_some, eq_self, compC_eq, compT_eq, compE_t, compE_f, wp_n, wp_c, evTs_n, evTs_1]
              exact fin d hd
            · simp only [exs_n, exs_c, cf_nx, cf_rt, cf_bk, cf_ct, ex_nm, setC_eq, ex_tp, ex_sb, asgC_eq, at_nm, at_tp, at_sb, ats_n, ats_c, ex_exp, ex_ret, ex_retN, ex_pass, ex_brk, ex_cont, ex_par, ex_iff, iffC_t, iffC_f, iffC_n, ex_for, forC_eq, turnC_eq, ev_con, ev_glo, ev_var, ev_tup, ev_lst, ev_bin, ev_neg, ev_cmp, ev_sub, ev_call, ev_prim, primC_eq, ev_meth, ev_and, ev_or, ev_not, ev_ife, ifeC_t, ifeC_f, ev_slc, ev_new, newC_f, ev_comp, evs_n, evs_c, evT_eq, endC_rt, endC_nx, lk_int, lk_bl, lk_str, lk_non, lk_tup, lk_lst, lk_dct, lk_scr, lk_ref, fd_v, fd_f, tr_bl, tr_int, tr_non, tr_tup, tr_lst, tR_some, bR_some, vR_some, oI_some, gd_t, o_add, o_sub, o_mul, o_fdiv, o_mod, o_pow, o_addt, o_addl, o_adds, o_neg, c_eq, c_ne, c_lt, c_gt, c_le, c_ge, c_isn, c_notn, q_int, q_str, q_bl, q_map, i_tup, i_lst, ai_0, ai_1, ai_2, ai_3, ai_4, ai_5, ai_6, ai_7, ai_8, ai_9, ai_10, ai_11, bd_ok, bdd_ok, sat_ok, List.getElem?_cons_succ, List.getElem?_cons_zero, List.set_cons_succ, List.set_cons_zero, List.map_cons, List.map_nil, bd_bd, bdd_bd, bdd_bdd, bd_bdd, kc_eq, kd_eq, Int.reduceLT, Int.reduceLE, Int.reduceToNat, Int.reducePow, decide_true, decide_false, Bool.and_true, Bool.true_and, Bool.or_true, Bool.true_or, if_true, if_false, reduceCtorEq, andC_t, andC_f, orC_t, orC_f, Bool.not_true, Bool.not_false, ne_eq, not_true_eq_false, not_false_eq_true, Option.map_some, eq_self, compC_eq, compT_eq, compE_t, compE_f, wp_n, wp_c, evTs_n, evTs_1, show inW 3 = true by decide]
              rw [gd_p (by rw [decide_eq_true (by omega), inW_i (by omega) (by omega)] <;> rfl)]
              simp only [exs_n, exs_c, cf_nx, cf_rt, cf_bk, cf_ct, ex_nm, setC_eq, ex_tp, ex_sb, asgC_eq, at_nm, at_tp, at_sb, ats_n, ats_c, ex_exp, ex_ret, ex_retN, ex_pass, ex_brk, ex_cont, ex_par, ex_iff, iffC_t, iffC_f, iffC_n, ex_for, forC_eq, turnC_eq, ev_con, ev_glo, ev_var, ev_tup, ev_lst, ev_bin, ev_neg, ev_cmp, ev_sub, ev_call, ev_prim, primC_eq, ev_meth, ev_and, ev_or, ev_not, ev_ife, ifeC_t, ifeC_f, ev_slc, ev_new, newC_f, ev_comp, evs_n, evs_c, evT_eq, endC_rt, endC_nx, lk_int, lk_bl, lk_str, lk_non, lk_tup, lk_lst, lk_dct, lk_scr, lk_ref, fd_v, fd_f, tr_bl, tr_int, tr_non, tr_tup, tr_lst, tR_some, bR_some, vR_some, oI_some, gd_t, o_add, o_sub, o_mul, o_fdiv, o_mod, o_pow, o_addt, o_addl, o_adds, o_neg, c_eq, c_ne, c_lt, c_gt, c_le, c_ge, c_isn, c_notn, q_int, q_str, q_bl, q_map, i_tup, i_lst, ai_0, ai_1, ai_2, ai_3, ai_4, ai_5, ai_6, ai_7, ai_8, ai_9, ai_10, ai_11, bd_ok, bdd_ok, sat_ok, List.getElem?_cons_succ, List.getElem?_cons_zero, List.set_cons_succ, List.set_cons_zero, List.map_cons, List.map_nil, bd_bd, bdd_bd, bdd_bdd, bd_bdd, kc_eq, kd_eq, Int.reduceLT, Int.reduceLE, Int.reduceToNat, Int.reducePow, decide_true, decide_false, Bool.and_true, Bool.true_and, Bool.or_true, Bool.true_or, if_true, if_false, reduceCtorEq, andC_t, andC_f, orC_t, orC_f, Bool.not_true, Bool.not_false, ne_eq, not_true_eq_false, not_false_eq_true, Option.map_some, eq_self, compC_eq, compT_eq, compE_t, compE_f, wp_n, wp_c, evTs_n, evTs_1]
              have hB1 : 0 ≤ ((ls.length : Int) + 1) / (1 + (ls.length : Int) / 3) := Int.ediv_nonneg (by omega) (by omega)
              have hB2 : ((ls.length : Int) + 1) / (1 + (ls.length : Int) / 3) < 5 := Int.ediv_lt_of_lt_mul (by omega) (by omega)
              refine sat_bd (made _ _ _ (by omega) (by omega) (by omega) (by omega) (by omega) (by omega)) fun v N w => ?_
              obtain ⟨d, rfl, hd, rfl⟩ := w
              simp only [exs_n, exs_c, cf_nx, cf_rt, cf_bk, cf_ct, ex_nm, setC_eq, ex_tp, ex_sb, asgC_eq, at_nm, at_tp, at_sb, ats_n, ats_c, ex_exp, ex_ret, ex_retN, ex_pass, ex_brk, ex_cont, ex_par, ex_iff, iffC_t, iffC_f, iffC_n, ex_for, forC_eq, turnC_eq, ev_con, ev_glo, ev_var, ev_tup, ev_lst, ev_bin, ev_neg, ev_cmp, ev_sub, ev_call, ev_prim, primC_eq, ev_meth, ev_and, ev_or, ev_not, ev_ife, ifeC_t, ifeC_f, ev_slc, ev_new, newC_f, ev_comp, evs_n, evs_c, evT_eq, endC_rt, endC_nx, lk_int, lk_bl, lk_str, lk_non, lk_tup, lk_lst, lk_dct, lk_scr, lk_ref, fd_v, fd_f, tr_bl, tr_int, tr_non, tr_tup, tr_lst, tR_some, bR_some, vR_some, oI_some, gd_t, o_add, o_sub, o_mul, o_fdiv, o_mod, o_pow, o_addt, o_addl, o_adds, o_neg, c_eq, c_ne, c_lt, c_gt, c_le, c_ge, c_isn, c_notn, q_int, q_str, q_bl, q_map, i_tup, i_lst, ai_0, ai_1, ai_2, ai_3, ai_4, ai_5, ai_6, ai_7, ai_8, ai_9, ai_10, ai_11, bd_ok, bdd_ok, sat_ok, List.getElem?_cons_succ, List.getElem?_cons_zero, List.set_cons_succ, List.set_cons_zero, List.map_cons, List.map_nil, bd_bd, bdd_bd, bdd_bdd, bd_bdd, kc_eq, kd_eq, Int.reduceLT, Int.reduceLE, Int.reduceToNat, Int.reducePow, decide_true, decide_false, Bool.and_true, Bool.true_and, Bool.or_true, Bool.true_or, if_true, if_false, reduceCtorEq, andC_t, andC_f, orC_t, orC_f, Bool.not_true, Bool.not_false, ne_eq, not_true_eq_false, not_false_eq_true, Option.map_some, eq_self, compC_eq, compT_eq, compE_t, compE_f, wp_n, wp_c, evTs_n, evTs_1]
              exact fin d hd
          · rw [decide_eq_false h5]
            simp only [exs_n, exs_c, cf_nx, cf_rt, cf_bk, cf_ct, ex_nm, setC_eq, ex_tp, ex_sb, asgC_eq, at_nm, at_tp, at_sb, ats_n, ats_c, ex_exp, ex_ret, ex_retN, ex_pass, ex_brk, ex_cont, ex_par, ex_iff, iffC_t, iffC_f, iffC_n, ex_for, forC_eq, turnC_eq, ev_con, ev_glo, ev_var, ev_tup, ev_lst, ev_bin, ev_neg, ev_cmp, ev_sub, ev_call, ev_prim, primC_eq, ev_meth, ev_and, ev_or, ev_not, ev_ife, ifeC_t, ifeC_f, ev_slc, ev_new, newC_f, ev_comp, evs_n, evs_c, evT_eq, endC_rt, endC_nx, lk_int, lk_bl, lk_str, lk_non, lk_tup, lk_lst, lk_dct, lk_scr, lk_ref, fd_v, fd_f, tr_bl, tr_int, tr_non, tr_tup, tr_lst, tR_some, bR_some, vR_some, oI_some, gd_t, o_add, o_sub, o_mul, o_fdiv, o_mod, o_pow, o_addt, o_addl, o_adds, o_neg, c_eq, c_ne, c_lt, c_gt, c_le, c_ge, c_isn, c_notn, q_int, q_str, q_bl, q_map, i_tup, i_lst, ai_0, ai_1, ai_2, ai_3, ai_4, ai_5, ai_6, ai_7, ai_8, ai_9, ai_10, ai_11, bd_ok, bdd_ok, sat_ok, List.getElem?_cons_succ, List.getElem?_cons_zero, List.set_cons_succ, List.set_cons_zero, List.map_cons, List.map_nil, bd_bd, bdd_bd, bdd_bdd, bd_bdd, kc_eq, kd_eq, Int.reduceLT, Int.reduceLE, Int.reduceToNat, Int.reducePow, decide_true, decide_false, Bool.and_true, Bool.true_and, Bool.or_true, Bool.true_or, if_true, if_false, reduceCtorEq, andC_t, andC_f, orC_t, orC_f, Bool.not_true, Bool.not_false, ne_eq, not_true_eq_false, not_false_eq_true, Option.map_some, eq_self, compC_eq, compT_eq, compE_t, compE_f, wp_n, wp_c, evTs_n, evTs_1, show inW 3 = true by decide]
            rw [gd_p (by rw [decide_eq_true (by omega), inW_i (by omega) (by omega)] <;> rfl)]
            simp only [exs_n, exs_c, cf_nx, cf_rt, cf_bk, cf_ct, ex_nm, setC_eq, ex_tp, ex_sb, asgC_eq, at_nm, at_tp, at_sb, ats_n, ats_c, ex_exp, ex_ret, ex_retN, ex_pass, ex_brk, ex_cont, ex_par, ex_iff, iffC_t, iffC_f, iffC_n, ex_for, forC_eq, turnC_eq, ev_con, ev_glo, ev_var, ev_tup, ev_lst, ev_bin, ev_neg, ev_cmp, ev_sub, ev_call, ev_prim, primC_eq, ev_meth, ev_and, ev_or, ev_not, ev_ife, ifeC_t, ifeC_f, ev_slc, ev_new, newC_f, ev_comp, evs_n, evs_c, evT_eq, endC_rt, endC_nx, lk_int, lk_bl, lk_str, lk_non, lk_tup, lk_lst, lk_dct, lk_scr, lk_ref, fd_v, fd_f, tr_bl, tr_int, tr_non, tr_tup, tr_lst, tR_some, bR_some, vR_some, oI_some, gd_t, o_add, o_sub, o_mul, o_fdiv, o_mod, o_pow, o_addt, o_addl, o_adds, o_neg, c_eq, c_ne, c_lt, c_gt, c_le, c_ge, c_isn, c_notn, q_int, q_str, q_bl, q_map, i_tup, i_lst, ai_0, ai_1, ai_2, ai_3, ai_4, ai_5, ai_6, ai_7, ai_8, ai_9, ai_10, ai_11, bd_ok, bdd_ok, sat_ok, List.getElem?_cons_succ, List.getElem?_cons_zero, List.set_cons_succ, List.set_cons_zero, List.map_cons, List.map_nil, bd_bd, bdd_bd, bdd_bdd, bd_bdd, kc_eq, kd_eq, Int.reduceLT, Int.reduceLE, Int.reduceToNat, Int.reducePow, decide_true, decide_false, Bool.and_true, Bool.true_and, Bool.or_true, Bool.true_or, if_true, if_false, reduceCtorEq, andC_t, andC_f, orC_t, orC_f, Bool.not_true, Bool.not_false, ne_eq, not_true_eq_false, not_false_eq_true, Option.map_some, eq_self, compC_eq, compT_eq, compE_t, compE_f, wp_n, wp_c, evTs_n, evTs_1]
            have hB1 : 0 ≤ ((ls.length : Int) + 1) / (1 + (ls.length : Int) / 3) := Int.ediv_nonneg (by omega) (by omega)
            have hB2 : ((ls.length : Int) + 1) / (1 + (ls.length : Int) / 3) < 5 := Int.ediv_lt_of_lt_mul (by omega) (by omega)
            refine sat_bd (made _ _ _ (by omega) (by omega) (by omega) (by omega) (by omega) (by omega)) fun v N w => ?_
            obtain ⟨d, rfl, hd, rfl⟩ := w
            simp only [exs_n, exs_c, cf_nx, cf_rt, cf_bk, cf_ct, ex_nm, setC_eq, ex_tp, ex_sb, asgC_eq, at_nm, at_tp, at_sb, ats_n, ats_c, ex_exp, ex_ret, ex_retN, ex_pass, ex_brk, ex_cont, ex_par, ex_iff, iffC_t, iffC_f, iffC_n, ex_for, forC_eq, turnC_eq, ev_con, ev_glo, ev_var, ev_tup, ev_lst, ev_bin, ev_neg, ev_cmp, ev_sub, ev_call, ev_prim, primC_eq, ev_meth, ev_and, ev_or, ev_not, ev_ife, ifeC_t, ifeC_f, ev_slc, ev_new, newC_f, ev_comp, evs_n, evs_c, evT_eq, endC_rt, endC_nx, lk_int, lk_bl, lk_str, lk_non, lk_tup, lk_lst, lk_dct, lk_scr, lk_ref, fd_v, fd_f, tr_bl, tr_int, tr_non, tr_tup, tr_lst, tR_some, bR_some, vR_some, oI_some, gd_t, o_add, o_sub, o_mul, o_fdiv, o_mod, o_pow, o_addt, o_addl, o_adds, o_neg, c_eq, c_ne, c_lt, c_gt, c_le, c_ge, c_isn, c_notn, q_int, q_str, q_bl, q_map, i_tup, i_lst, ai_0, ai_1, ai_2, ai_3, ai_4, ai_5, ai_6, ai_7, ai_8, ai_9, ai_10, ai_11, bd_ok, bdd_ok, sat_ok, List.getElem?_cons_succ, List.getElem?_cons_zero, List.set_cons_succ, List.set_cons_zero, List.map_cons, List.map_nil, bd_bd, bdd_bd, bdd_bdd, bd_bdd, kc_eq, kd_eq, Int.reduceLT, Int.reduceLE, Int.reduceToNat, Int.reducePow, decide_true, decide_false, Bool.and_true, Bool.true_and, Bool.or_true, Bool.true_or, if_true, if_false, reduceCtorEq, andC_t, andC_f, orC_t, orC_f, Bool.not_true, Bool.not_false, ne_eq, not_true_eq_false, not_false_eq_true, Option.map_some, eq_self, compC_eq, compT_eq, compE_t, compE_f, wp_n, wp_c, evTs_n, evTs_1]
            exact fin d hd
        · rw [decide_eq_false h4]
          simp only [exs_n, exs_c, cf_nx, cf_rt, cf_bk, cf_ct, ex_nm, setC_eq, ex_tp, ex_sb, asgC_eq, at_nm, at_tp, at_sb, ats_n, ats_c, ex_exp, ex_ret, ex_retN, ex_pass, ex_brk, ex_cont, ex_par, ex_iff, iffC_t, iffC_f, iffC_n, ex_for, forC_eq, turnC_eq, ev_con, ev_glo, ev_var, ev_tup, ev_lst, ev_bin, ev_neg, ev_cmp, ev_sub, ev_call, ev_prim, primC_eq, ev_meth, ev_and, ev_or, ev_not, ev_ife, ifeC_t, ifeC_f, ev_slc, ev_new, newC_f, ev_comp, evs_n, evs_c, evT_eq, endC_rt, endC_nx, lk_int, lk_bl, lk_str, lk_non, lk_tup, lk_lst, lk_dct, lk_scr, lk_ref, fd_v, fd_f, tr_bl, tr_int, tr_non, tr_tup, tr_lst, tR_some, bR_some, vR_some, oI_some, gd_t, o_add, o_sub, o_mul, o_fdiv, o_mod, o_pow, o_addt, o_addl, o_adds, o_neg, c_eq, c_ne, c_lt, c_gt, c_le, c_ge, c_isn, c_notn, q_int, q_str, q_bl, q_map, i_tup, i_lst, ai_0, ai_1, ai_2, ai_3, ai_4, ai_5, ai_6, ai_7, ai_8, ai_9, ai_10, ai_11, bd_ok, bdd_ok, sat_ok, List.getElem?_cons_succ, List.getElem?_cons_zero, List.set_cons_succ, List.set_cons_zero, List.map_cons, List.map_nil, bd_bd, bdd_bd, bdd_bdd, bd_bdd, kc_eq, kd_eq, Int.reduceLT, Int.reduceLE, Int.reduceToNat, Int.reducePow, decide_true, decide_false, Bool.and_true, Bool.true_and, Bool.or_true, Bool.true_or, if_true, if_false, reduceCtorEq, andC_t, andC_f, orC_t, orC_f, Bool.not_true, Bool.not_false, ne_eq, not_true_eq_false, not_false_eq_true, Option.map_some, eq_self, compC_eq, compT_eq, compE_t, compE_f, wp_n, wp_c, evTs_n, evTs_1, show inW 3 = true by decide]
          rw [gd_p (by rw [decide_eq_true (by omega), inW_i (by omega) (by omega)] <;> rfl)]
          simp only [exs_n, exs_c, cf_nx, cf_rt, cf_bk, cf_ct, ex_nm, setC_eq, ex_tp, ex_sb, asgC_eq, at_nm, at_tp, at_sb, ats_n, ats_c, ex_exp, ex_ret, ex_retN, ex_pass, ex_brk, ex_cont, ex_par, ex_iff, iffC_t, iffC_f, iffC_n, ex_for, forC_eq, turnC_eq, ev_con, ev_glo, ev_var, ev_tup, ev_lst, ev_bin, ev_neg, ev_cmp, ev_sub, ev_call, ev_prim, primC_eq, ev_meth, ev_and, ev_or, ev_not, ev_ife, ifeC_t, ifeC_f, ev_slc, ev_new, newC_f, ev_comp, evs_n, evs_c, evT_eq, endC_rt, endC_nx, lk_int, lk_bl, lk_str, lk_non, lk_tup, lk_lst, lk_dct, lk_scr, lk_ref, fd_v, fd_f, tr_bl, tr_int, tr_non, tr_tup, tr_lst, tR_some, bR_some, vR_some, oI_some, gd_t, o_add, o_sub, o_mul, o_fdiv, o_mod, o_pow, o_addt, o_addl, o_adds, o_neg, c_eq, c_ne, c_lt, c_gt, c_le, c_ge, c_isn, c_notn, q_int, q_str, q_bl, q_map, i_tup, i_lst, ai_0, ai_1, ai_2, ai_3, ai_4, ai_5, ai_6, ai_7, ai_8, ai_9, ai_10, ai_11, bd_ok, bdd_ok, sat_ok, List.getElem?_cons_succ, List.getElem?_cons_zero, List.set_cons_succ, List.set_cons_zero, List.map_cons, List.map_nil, bd_bd, bdd_bd, bdd_bdd, bd_bdd, kc_eq, kd_eq, Int.reduceLT, Int.reduceLE, Int.reduceToNat, Int.reducePow, decide_true, decide_false, Bool.and_true, Bool.true_and, Bool.or_true, Bool.true_or, if_true, if_false, reduceCtorEq, andC_t, andC_f, orC_t, orC_f, Bool.not_true, Bool.not_false, ne_eq, not_true_eq_false, not_false_eq_true, Option.map_some, eq_self, compC_eq, compT_eq, compE_t, compE_f, wp_n, wp_c, evTs_n, evTs_1]
          have hB1 : 0 ≤ ((ls.length : Int) + 1) / (1 + (ls.length : Int) / 3) := Int.ediv_nonneg (by omega) (by omega)
          have hB2 : ((ls.length : Int) + 1) / (1 + (ls.length : Int) / 3) < 5 := Int.ediv_lt_of_lt_mul (by omega) (by omega)
          refine sat_bd (made _ _ _ (by omega) (by omega) (by omega) (by omega) (by omega) (by omega)) fun v N w => ?_
          obtain ⟨d, rfl, hd, rfl⟩ := w
          simp only [exs_n, exs_c, cf_nx, cf_rt, cf_bk, cf_ct, ex_nm, setC_eq, ex_tp, ex_sb, asgC_eq, at_nm, at_tp, at_sb, ats_n, ats_c, ex_exp, ex_ret, ex_retN, ex_pass, ex_brk, ex_cont, ex_par, ex_iff, iffC_t, iffC_f, iffC_n, ex_for, forC_eq, turnC_eq, ev_con, ev_glo, ev_var, ev_tup, ev_lst, ev_bin, ev_neg, ev_cmp, ev_sub, ev_call, ev_prim, primC_eq, ev_meth, ev_and, ev_or, ev_not, ev_ife, ifeC_t, ifeC_f, ev_slc, ev_new, newC_f, ev_comp, evs_n, evs_c, evT_eq, endC_rt, endC_nx, lk_int, lk_bl, lk_str, lk_non, lk_tup, lk_lst, lk_dct, lk_scr, lk_ref, fd_v, fd_f, tr_bl, tr_int, tr_non, tr_tup, tr_lst, tR_some, bR_some, vR_some, oI_some, gd_t, o_add, o_sub, o_mul, o_fdiv, o_mod, o_pow, o_addt, o_addl, o_adds, o_neg, c_eq, c_ne, c_lt, c_gt, c_le, c_ge, c_isn, c_notn, q_int, q_str, q_bl, q_map, i_tup, i_lst, ai_0, ai_1, ai_2, ai_3, ai_4, ai_5, ai_6, ai_7, ai_8, ai_9, ai_10, ai_11, bd_ok, bdd_ok, sat_ok, List.getElem?_cons_succ, List.getElem?_cons_zero, List.set_cons_succ, List.set_cons_zero, List.map_cons, List.map_nil, bd_bd, bdd_bd, bdd_bdd, bd_bdd, kc_eq, kd_eq, Int.reduceLT, Int.reduceLE, Int.reduceToNat, Int.reducePow, decide_true, decide_false, Bool.and_true, Bool.true_and, Bool.or_true, Bool.true_or, if_true, if_false, reduceCtorEq, andC_t, andC_f, orC_t, orC_f, Bool.not_true, Bool.not_false, ne_eq, not_true_eq_false, not_false_eq_true, Option.map_some, eq_self, compC_eq, compT_eq, compE_t, compE_f, wp_n, wp_c, evTs_n, evTs_1]
          exact fin d hd
      · rw [decide_eq_false h3]
        simp only [exs_n, exs_c, cf_nx, cf_rt, cf_bk, cf_ct, ex_nm, setC_eq, ex_tp, ex_sb, asgC_eq, at_nm, at_tp, at_sb, ats_n, ats_c, ex_exp, ex_ret, ex_retN, ex_pass, ex_brk, ex_cont, ex_par, ex_iff, iffC_t, iffC_f, iffC_n, ex_for, forC_eq, turnC_eq, ev_con, ev_glo, ev_var, ev_tup, ev_lst, ev_bin, ev_neg, ev_cmp, ev_sub, ev_call, ev_prim, primC_eq, ev_meth, ev_and, ev_or, ev_not, ev_ife, ifeC_t, ifeC_f, ev_slc, ev_new, newC_f, ev_comp, evs_n, evs_c, evT_eq, endC_rt, endC_nx, lk_int, lk_bl, lk_str, lk_non, lk_tup, lk_lst, lk_dct, lk_scr, lk_ref, fd_v, fd_f, tr_bl, tr_int, tr_non, tr_tup, tr_lst, tR_some, bR_some, vR_some, oI_some, gd_t, o_add, o_sub, o_mul, o_fdiv, o_mod, o_pow, o_addt, o_addl, o_adds, o_neg, c_eq, c_ne, c_lt, c_gt, c_le, c_ge, c_isn, c_notn, q_int, q_str, q_bl, q_map, i_tup, i_lst, ai_0, ai_1, ai_2, ai_3, ai_4, ai_5, ai_6, ai_7, ai_8, ai_9, ai_10, ai_11, bd_ok, bdd_ok, sat_ok, List.getElem?_cons_succ, List.getElem?_cons_zero, List.set_cons_succ, List.set_cons_zero, List.map_cons, List.map_nil, bd_bd, bdd_bd, bdd_bdd, bd_bdd, kc_eq, kd_eq, Int.reduceLT, Int.reduceLE, Int.reduceToNat, Int.reducePow, decide_true, decide_false, Bool.and_true, Bool.true_and, Bool.or_true, Bool.true_or, if_true, if_false, reduceCtorEq, andC_t, andC_f, orC_t, orC_f, Bool.not_true, Bool.not_false, ne_eq, not_true_eq_false, not_false_eq_true, Option.map_some, eq_self, compC_eq, compT_eq, compE_t, compE_f, wp_n, wp_c, evTs_n, evTs_1, show inW 3 = true by decide]
        rw [gd_p (by rw [decide_eq_true (by omega), inW_i (by omega) (by omega)] <;> rfl)]
        simp only [exs_n, exs_c, cf_nx, cf_rt, cf_bk, cf_ct, ex_nm, setC_eq, ex_tp, ex_sb, asgC_eq, at_nm, at_tp, at_sb, ats_n, ats_c, ex_exp, ex_ret, ex_retN, ex_pass, ex_brk, ex_cont, ex_par, ex_iff, iffC_t, iffC_f, iffC_n, ex_for, forC_eq, turnC_eq, ev_con, ev_glo, ev_var, ev_tup, ev_lst, ev_bin, ev_neg, ev_cmp, ev_sub, ev_call, ev_prim, primC_eq, ev_meth, ev_and, ev_or, ev_not, ev_ife, ifeC_t, ifeC_f, ev_slc, ev_new, newC_f, ev_comp, evs_n, evs_c, evT_eq, endC_rt, endC_nx, lk_int, lk_bl, lk_str, lk_non, lk_tup, lk_lst, lk_dct, lk_scr, lk_ref, fd_v, fd_f, tr_bl, tr_int, tr_non, tr_tup, tr_lst, tR_some, bR_some, vR_some, oI_some, gd_t, o_add, o_sub, o_mul, o_fdiv, o_mod, o_pow, o_addt, o_addl, o_adds, o_neg, c_eq, c_ne, c_lt, c_gt, c_le, c_ge, c_isn, c_notn, q_int, q_str, q_bl, q_map, i_tup, i_lst, ai_0, ai_1, ai_2, ai_3, ai_4, ai_5, ai_6, ai_7, ai_8, ai_9, ai_10, ai_11, bd_ok, bdd_ok, sat_ok, List.getElem?_cons_succ, List.getElem?_cons_zero, List.set_cons_succ, List.set_cons_zero, List.map_cons, List.map_nil, bd_bd, bdd_bd, bdd_bdd, bd_bdd, kc_eq, kd_eq, Int.reduceLT, Int.reduceLE, Int.reduceToNat, Int.reducePow, decide_true, decide_false, Bool.and_true, Bool.true_and, Bool.or_true, Bool.true_or, if_true, if_false, reduceCtorEq, andC_t, andC_f, orC_t, orC_f, Bool.not_true, Bool.not_false, ne_eq, not_true_eq_false, not_false_eq_true, Option.map_some, eq_self, compC_eq, compT_eq, compE_t, compE_f, wp_n, wp_c, evTs_n, evTs_1]
        have hB1 : 0 ≤ ((ls.length : Int) + 1) / (1 + (ls.length : Int) / 3) := Int.ediv_nonneg (by omega) (by omega)
        have hB2 : ((ls.length : Int) + 1) / (1 + (ls.length : Int) / 3) < 5 := Int.ediv_lt_of_lt_mul (by omega) (by omega)
        refine sat_bd (made _ _ _ (by omega) (by omega) (by omega) (by omega) (by omega) (by omega)) fun v N w => ?_
        obtain ⟨d, rfl, hd, rfl⟩ := w
        simp only [exs_n, exs_c, cf_nx, cf_rt, cf_bk, cf_ct, ex_nm, setC_eq, ex_tp, ex_sb, asgC_eq, at_nm, at_tp, at_sb, ats_n, ats_c, ex_exp, ex_ret, ex_retN, ex_pass, ex_brk, ex_cont, ex_par, ex_iff, iffC_t, iffC_f, iffC_n, ex_for, forC_eq, turnC_eq, ev_con, ev_glo, ev_var, ev_tup, ev_lst, ev_bin, ev_neg, ev_cmp, ev_sub, ev_call, ev_prim, primC_eq, ev_meth, ev_and, ev_or, ev_not, ev_ife, ifeC_t, ifeC_f, ev_slc, ev_new, newC_f, ev_comp, evs_n, evs_c, evT_eq, endC_rt, endC_nx, lk_int, lk_bl, lk_str, lk_non, lk_tup, lk_lst, lk_dct, lk_scr, lk_ref, fd_v, fd_f, tr_bl, tr_int, tr_non, tr_tup, tr_lst, tR_some, bR_some, vR_some, oI_some, gd_t, o_add, o_sub, o_mul, o_fdiv, o_mod, o_pow, o_addt, o_addl, o_adds, o_neg, c_eq, c_ne, c_lt, c_gt, c_le, c_ge, c_isn, c_notn, q_int, q_str, q_bl, q_map, i_tup, i_lst, ai_0, ai_1, ai_2, ai_3, ai_4, ai_5, ai_6, ai_7, ai_8, ai_9, ai_10, ai_11, bd_ok, bdd_ok, sat_ok, List.getElem?_cons_succ, List.getElem?_cons_zero, List.set_cons_succ, List.set_cons_zero, List.map_cons, List.map_nil, bd_bd, bdd_bd, bdd_bdd, bd_bdd, kc_eq, kd_eq, Int.reduceLT, Int.reduceLE, Int.reduceToNat, Int.reducePow, decide_true, decide_false, Bool.and_true, Bool.true_and, Bool.or_true, Bool.true_or, if_true, if_false, reduceCtorEq, andC_t, andC_f, orC_t, orC_f, Bool.not_true, Bool.not_false, ne_eq, not_true_eq_false, not_false_eq_true, Option.map_some, eq_self, compC_eq, compT_eq, compE_t, compE_f, wp_n, wp_c, evTs_n, evTs_1]
        exact fin d hd
end
end Lw
namespace Lw
open PySem PyI
section
variable {k : Nat} {M : Store} {p i t mark : Int} {ps ls cs : List D} {ks : List (Int × Int)} {Q : FV → Store → Prop} {tp n m : Int} {ns : List Int} {r s : Nat} {xs : List D}
theorem sys_pick (hx : ∀ d ∈ xs, IsSys d) {L : Nat} : pickD xs L := fun d hd => by
  obtain ⟨p, i, ps, ls, cs, rfl, ok, _⟩ := hx d hd
  exact ⟨rfl, sys_scp ok⟩
theorem int_pick {L : Nat} (hx : ∀ d ∈ xs, ∃ z, d = .int z) : pickD xs L := fun d hd => by
  obtain ⟨z, rfl⟩ := hx d hd
  exact ⟨rfl, rfl⟩
theorem ticked_sat {most : Int} (h0 : 0 ≤ most) (h1 : most < 2 ^ 60) (hx : ∀ d ∈ xs, IsSys d) (hx0 : 0 < xs.length) (hx1 : xs.length ≤ 1000) (hM : M[r]? = some (TapeD ns tp n m)) (hS : M[s]? = some (.lst xs)) (hrs : r ≠ s) (hp : 0 ≤ tp) (hn : 0 ≤ n)
    (q : ∀ x p' n' m', 0 ≤ p' → 0 ≤ n' → Q (.v (.int x)) (M.set r (TapeD ns p' n' m'))) : (callF fs gl (k + 3) 16 [.ref r, .ref s, .int most] M).sat Q := by
  have ht : r < M.length := (List.getElem?_eq_some_iff.mp hM).1
  have hs : ∀ d : D, (M.set r d)[r]? = some d := fun d => List.getElem?_set_self ht
  refine go (fn := ⟨3, 7, b__law_d_ticked⟩) (ρ := [some (.ref r), some (.ref s), some (.int most), none, none, none, none]) rfl rfl rfl ?_
  simp only [b__law_d_ticked, exs_n, exs_c, cf_nx, cf_rt, cf_bk, cf_ct, ex_nm, setC_eq, ex_tp, ex_sb, asgC_eq, at_nm, at_tp, at_sb, ats_n, ats_c, ex_exp, ex_ret, ex_retN, ex_pass, ex_brk, ex_cont, ex_par, ex_iff, iffC_t, iffC_f, iffC_n, ex_for, forC_eq, turnC_eq, ev_con, ev_glo, ev_var, ev_tup, ev_lst, ev_bin, ev_neg, ev_cmp, ev_sub, ev_call, ev_prim, primC_eq, ev_meth, ev_and, ev_or, ev_not, ev_ife, ifeC_t, ifeC_f, ev_slc, ev_new, newC_f, ev_comp, evs_n, evs_c, evT_eq, endC_rt, endC_nx, lk_int, lk_bl, lk_str, lk_non, lk_tup, lk_lst, lk_dct, lk_scr, lk_ref, fd_v, fd_f, tr_bl, tr_int, tr_non, tr_tup, tr_lst, tR_some, bR_some, vR_some, oI_some, gd_t, o_add, o_sub, o_mul, o_fdiv, o_mod, o_pow, o_addt, o_addl, o_adds, o_neg, c_eq, c_ne, c_lt, c_gt, c_le, c_ge, c_isn, c_notn, q_int, q_str, q_bl, q_map, i_tup, i_lst, ai_0, ai_1, ai_2, ai_3, ai_4, ai_5, ai_6, ai_7, ai_8, ai_9, ai_10, ai_11, bd_ok, bdd_ok, sat_ok, List.getElem?_cons_succ, List.getElem?_cons_zero, List.set_cons_succ, List.set_cons_zero, List.map_cons, List.map_nil, bd_bd, bdd_bd, bdd_bdd, bd_bdd, kc_eq, kd_eq, Int.reduceLT, Int.reduceLE, Int.reduceToNat, Int.reducePow, decide_true, decide_false, Bool.and_true, Bool.true_and, Bool.or_true, Bool.true_or, if_true, if_false, reduceCtorEq, andC_t, andC_f, orC_t, orC_f, Bool.not_true, Bool.not_false, ne_eq, not_true_eq_false, not_false_eq_true, Option.map_some, eq_self, compC_eq, compT_eq, compE_t, compE_f, wp_n, wp_c, evTs_n, evTs_1]
  refine sat_bddq (pick_sat f_pick f_draw hM hp hn (.inl (menu_ref hS hrs)) hx0 (by omega) (sys_pick hx) fun j d p1 n1 m1 hd hp1 hn1 => ?_)
  obtain ⟨p, i, ps, ls, cs, rfl, ok, b1, b2, b3, b4⟩ := hx d (List.mem_of_getElem? hd)
  obtain ⟨c1, c2⟩ := cyc ok
  have e : p * i = i * p := Int.mul_comm _ _
  have gp : inW p = true := inW_i (by have := ok.p1; omega) (by have := ok.p2; omega)
  simp only [exs_n, exs_c, cf_nx, cf_rt, cf_bk, cf_ct, ex_nm, setC_eq, ex_tp, ex_sb, asgC_eq, at_nm, at_tp, at_sb, ats_n, ats_c, ex_exp, ex_ret, ex_retN, ex_pass, ex_brk, ex_cont, ex_par, ex_iff, iffC_t, iffC_f, iffC_n, ex_for, forC_eq, turnC_eq, ev_con, ev_glo, ev_var, ev_tup, ev_lst, ev_bin, ev_neg, ev_cmp, ev_sub, ev_call, ev_prim, primC_eq, ev_meth, ev_and, ev_or, ev_not, ev_ife, ifeC_t, ifeC_f, ev_slc, ev_new, newC_f, ev_comp, evs_n, evs_c, evT_eq, endC_rt, endC_nx, lk_int, lk_bl, lk_str, lk_non, lk_tup, lk_lst, lk_dct, lk_scr, lk_ref, fd_v, fd_f, tr_bl, tr_int, tr_non, tr_tup, tr_lst, tR_some, bR_some, vR_some, oI_some, gd_t, o_add, o_sub, o_mul, o_fdiv, o_mod, o_pow, o_addt, o_addl, o_adds, o_neg, c_eq, c_ne, c_lt, c_gt, c_le, c_ge, c_isn, c_notn, q_int, q_str, q_bl, q_map, i_tup, i_lst, ai_0, ai_1, ai_2, ai_3, ai_4, ai_5, ai_6, ai_7, ai_8, ai_9, ai_10, ai_11, bd_ok, bdd_ok, sat_ok, List.getElem?_cons_succ, List.getElem?_cons_zero, List.set_cons_succ, List.set_cons_zero, List.map_cons, List.map_nil, bd_bd, bdd_bd, bdd_bdd, bd_bdd, kc_eq, kd_eq, Int.reduceLT, Int.reduceLE, Int.reduceToNat, Int.reducePow, decide_true, decide_false, Bool.and_true, Bool.true_and, Bool.or_true, Bool.true_or, if_true, if_false, reduceCtorEq, andC_t, andC_f, orC_t, orC_f, Bool.not_true, Bool.not_false, ne_eq, not_true_eq_false, not_false_eq_true, Option.map_some, eq_self, compC_eq, compT_eq, compE_t, compE_f, wp_n, wp_c, evTs_n, evTs_1, lks, s0, s1, s2, gp, Bool.true_or, e, q_lent]
  refine sat_bddq (draw_sat f_draw (hs _) hp1 hn1 (by omega) fun x p2 n2 m2 hx0 hx1 hp2 hn2 => ?_)
  simp only [exs_n, exs_c, cf_nx, cf_rt, cf_bk, cf_ct, ex_nm, setC_eq, ex_tp, ex_sb, asgC_eq, at_nm, at_tp, at_sb, ats_n, ats_c, ex_exp, ex_ret, ex_retN, ex_pass, ex_brk, ex_cont, ex_par, ex_iff, iffC_t, iffC_f, iffC_n, ex_for, forC_eq, turnC_eq, ev_con, ev_glo, ev_var, ev_tup, ev_lst, ev_bin, ev_neg, ev_cmp, ev_sub, ev_call, ev_prim, primC_eq, ev_meth, ev_and, ev_or, ev_not, ev_ife, ifeC_t, ifeC_f, ev_slc, ev_new, newC_f, ev_comp, evs_n, evs_c, evT_eq, endC_rt, endC_nx, lk_int, lk_bl, lk_str, lk_non, lk_tup, lk_lst, lk_dct, lk_scr, lk_ref, fd_v, fd_f, tr_bl, tr_int, tr_non, tr_tup, tr_lst, tR_some, bR_some, vR_some, oI_some, gd_t, o_add, o_sub, o_mul, o_fdiv, o_mod, o_pow, o_addt, o_addl, o_adds, o_neg, c_eq, c_ne, c_lt, c_gt, c_le, c_ge, c_isn, c_notn, q_int, q_str, q_bl, q_map, i_tup, i_lst, ai_0, ai_1, ai_2, ai_3, ai_4, ai_5, ai_6, ai_7, ai_8, ai_9, ai_10, ai_11, bd_ok, bdd_ok, sat_ok, List.getElem?_cons_succ, List.getElem?_cons_zero, List.set_cons_succ, List.set_cons_zero, List.map_cons, List.map_nil, bd_bd, bdd_bd, bdd_bdd, bd_bdd, kc_eq, kd_eq, Int.reduceLT, Int.reduceLE, Int.reduceToNat, Int.reducePow, decide_true, decide_false, Bool.and_true, Bool.true_and, Bool.or_true, Bool.true_or, if_true, if_false, reduceCtorEq, andC_t, andC_f, orC_t, orC_f, Bool.not_true, Bool.not_false, ne_eq, not_true_eq_false, not_false_eq_true, Option.map_some, eq_self, compC_eq, compT_eq, compE_t, compE_f, wp_n, wp_c, evTs_n, evTs_1, List.set_set]
  have hints : ∀ d ∈ [D.int (i * p - 1), D.int (i * p - 2), D.int (i * p - 3), D.int 0, D.int ↑ps.length, D.int (↑ps.length + 1), D.int x], ∃ z, d = .int z := by
    intro d hd
    simp only [List.mem_cons, List.not_mem_nil, or_false] at hd
    rcases hd with rfl | rfl | rfl | rfl | rfl | rfl | rfl <;> exact ⟨_, rfl⟩
  refine sat_bddq (pick_sat f_pick f_draw (hs _) hp2 hn2 (.inl menu_lst) (by simp) (by simp) (int_pick hints) fun j2 d2 p3 n3 m3 hd2 hp3 hn3 => ?_)
  obtain ⟨z, rfl⟩ := hints d2 (List.mem_of_getElem? hd2)
  simp only [exs_n, exs_c, cf_nx, cf_rt, cf_bk, cf_ct, ex_nm, setC_eq, ex_tp, ex_sb, asgC_eq, at_nm, at_tp, at_sb, ats_n, ats_c, ex_exp, ex_ret, ex_retN, ex_pass, ex_brk, ex_cont, ex_par, ex_iff, iffC_t, iffC_f, iffC_n, ex_for, forC_eq, turnC_eq, ev_con, ev_glo, ev_var, ev_tup, ev_lst, ev_bin, ev_neg, ev_cmp, ev_sub, ev_call, ev_prim, primC_eq, ev_meth, ev_and, ev_or, ev_not, ev_ife, ifeC_t, ifeC_f, ev_slc, ev_new, newC_f, ev_comp, evs_n, evs_c, evT_eq, endC_rt, endC_nx, lk_int, lk_bl, lk_str, lk_non, lk_tup, lk_lst, lk_dct, lk_scr, lk_ref, fd_v, fd_f, tr_bl, tr_int, tr_non, tr_tup, tr_lst, tR_some, bR_some, vR_some, oI_some, gd_t, o_add, o_sub, o_mul, o_fdiv, o_mod, o_pow, o_addt, o_addl, o_adds, o_neg, c_eq, c_ne, c_lt, c_gt, c_le, c_ge, c_isn, c_notn, q_int, q_str, q_bl, q_map, i_tup, i_lst, ai_0, ai_1, ai_2, ai_3, ai_4, ai_5, ai_6, ai_7, ai_8, ai_9, ai_10, ai_11, bd_ok, bdd_ok, sat_ok, List.getElem?_cons_succ, List.getElem?_cons_zero, List.set_cons_succ, List.set_cons_zero, List.map_cons, List.map_nil, bd_bd, bdd_bd, bdd_bdd, bd_bdd, kc_eq, kd_eq, Int.reduceLT, Int.reduceLE, Int.reduceToNat, Int.reducePow, decide_true, decide_false, Bool.and_true, Bool.true_and, Bool.or_true, Bool.true_or, if_true, if_false, reduceCtorEq, andC_t, andC_f, orC_t, orC_f, Bool.not_true, Bool.not_false, ne_eq, not_true_eq_false, not_false_eq_true, Option.map_some, eq_self, compC_eq, compT_eq, compE_t, compE_f, wp_n, wp_c, evTs_n, evTs_1, List.set_set]
  refine sat_bddq (draw_sat f_draw (hs _) hp3 hn3 (by omega) fun y p4 n4 m4 hy0 hy1 hp4 hn4 => ?_)
  simp only [exs_n, exs_c, cf_nx, cf_rt, cf_bk, cf_ct, ex_nm, setC_eq, ex_tp, ex_sb, asgC_eq, at_nm, at_tp, at_sb, ats_n, ats_c, ex_exp, ex_ret, ex_retN, ex_pass, ex_brk, ex_cont, ex_par, ex_iff, iffC_t, iffC_f, iffC_n, ex_for, forC_eq, turnC_eq, ev_con, ev_glo, ev_var, ev_tup, ev_lst, ev_bin, ev_neg, ev_cmp, ev_sub, ev_call, ev_prim, primC_eq, ev_meth, ev_and, ev_or, ev_not, ev_ife, ifeC_t, ifeC_f, ev_slc, ev_new, newC_f, ev_comp, evs_n, evs_c, evT_eq, endC_rt, endC_nx, lk_int, lk_bl, lk_str, lk_non, lk_tup, lk_lst, lk_dct, lk_scr, lk_ref, fd_v, fd_f, tr_bl, tr_int, tr_non, tr_tup, tr_lst, tR_some, bR_some, vR_some, oI_some, gd_t, o_add, o_sub, o_mul, o_fdiv, o_mod, o_pow, o_addt, o_addl, o_adds, o_neg, c_eq, c_ne, c_lt, c_gt, c_le, c_ge, c_isn, c_notn, q_int, q_str, q_bl, q_map, i_tup, i_lst, ai_0, ai_1, ai_2, ai_3, ai_4, ai_5, ai_6, ai_7, ai_8, ai_9, ai_10, ai_11, bd_ok, bdd_ok, sat_ok, List.getElem?_cons_succ, List.getElem?_cons_zero, List.set_cons_succ, List.set_cons_zero, List.map_cons, List.map_nil, bd_bd, bdd_bd, bdd_bdd, bd_bdd, kc_eq, kd_eq, Int.reduceLT, Int.reduceLE, Int.reduceToNat, Int.reducePow, decide_true, decide_false, Bool.and_true, Bool.true_and, Bool.or_true, Bool.true_or, if_true, if_false, reduceCtorEq, andC_t, andC_f, orC_t, orC_f, Bool.not_true, Bool.not_false, ne_eq, not_true_eq_false, not_false_eq_true, Option.map_some, eq_self, compC_eq, compT_eq, compE_t, compE_f, wp_n, wp_c, evTs_n, evTs_1, List.set_set]
  refine iff_i (fun h2 => ?_) (fun h2 => ?_)
  · simp only [exs_n, exs_c, cf_nx, cf_rt, cf_bk, cf_ct, ex_nm, setC_eq, ex_tp, ex_sb, asgC_eq, at_nm, at_tp, at_sb, ats_n, ats_c, ex_exp, ex_ret, ex_retN, ex_pass, ex_brk, ex_cont, ex_par, ex_iff, iffC_t, iffC_f, iffC_n, ex_for, forC_eq, turnC_eq, ev_con, ev_glo, ev_var, ev_tup, ev_lst, ev_bin, ev_neg, ev_cmp, ev_sub, ev_call, ev_prim, primC_eq, ev_meth, ev_and, ev_or, ev_not, ev_ife, ifeC_t, ifeC_f, ev_slc, ev_new, newC_f, ev_comp, evs_n, evs_c, evT_eq, endC_rt, endC_nx, lk_int, lk_bl, lk_str, lk_non, lk_tup, lk_lst, lk_dct, lk_scr, lk_ref, fd_v, fd_f, tr_bl, tr_int, tr_non, tr_tup, tr_lst, tR_some, bR_some, vR_some, oI_some, gd_t, o_add, o_sub, o_mul, o_fdiv, o_mod, o_pow, o_addt, o_addl, o_adds, o_neg, c_eq, c_ne, c_lt, c_gt, c_le, c_ge, c_isn, c_notn, q_int, q_str, q_bl, q_map, i_tup, i_lst, ai_0, ai_1, ai_2, ai_3, ai_4, ai_5, ai_6, ai_7, ai_8, ai_9, ai_10, ai_11, bd_ok, bdd_ok, sat_ok, List.getElem?_cons_succ, List.getElem?_cons_zero, List.set_cons_succ, List.set_cons_zero, List.map_cons, List.map_nil, bd_bd, bdd_bd, bdd_bdd, bd_bdd, kc_eq, kd_eq, Int.reduceLT, Int.reduceLE, Int.reduceToNat, Int.reducePow, decide_true, decide_false, Bool.and_true, Bool.true_and, Bool.or_true, Bool.true_or, if_true, if_false, reduceCtorEq, andC_t, andC_f, orC_t, orC_f, Bool.not_true, Bool.not_false, ne_eq, not_true_eq_false, not_false_eq_true, Option.map_some, eq_self, compC_eq, compT_eq, compE_t, compE_f, wp_n, wp_c, evTs_n, evTs_1]
    refine sat_bdq (draw_sat f_draw (hs _) hp4 hn4 (by omega) fun w p5 n5 m5 hw0 hw1 hp5 hn5 => ?_)
    simp only [exs_n, exs_c, cf_nx, cf_rt, cf_bk, cf_ct, ex_nm, setC_eq, ex_tp, ex_sb, asgC_eq, at_nm, at_tp, at_sb, ats_n, ats_c, ex_exp, ex_ret, ex_retN, ex_pass, ex_brk, ex_cont, ex_par, ex_iff, iffC_t, iffC_f, iffC_n, ex_for, forC_eq, turnC_eq, ev_con, ev_glo, ev_var, ev_tup, ev_lst, ev_bin, ev_neg, ev_cmp, ev_sub, ev_call, ev_prim, primC_eq, ev_meth, ev_and, ev_or, ev_not, ev_ife, ifeC_t, ifeC_f, ev_slc, ev_new, newC_f, ev_comp, evs_n, evs_c, evT_eq, endC_rt, endC_nx, lk_int, lk_bl, lk_str, lk_non, lk_tup, lk_lst, lk_dct, lk_scr, lk_ref, fd_v, fd_f, tr_bl, tr_int, tr_non, tr_tup, tr_lst, tR_some, bR_some, vR_some, oI_some, gd_t, o_add, o_sub, o_mul, o_fdiv, o_mod, o_pow, o_addt, o_addl, o_adds, o_neg, c_eq, c_ne, c_lt, c_gt, c_le, c_ge, c_isn, c_notn, q_int, q_str, q_bl, q_map, i_tup, i_lst, ai_0, ai_1, ai_2, ai_3, ai_4, ai_5, ai_6, ai_7, ai_8, ai_9, ai_10, ai_11, bd_ok, bdd_ok, sat_ok, List.getElem?_cons_succ, List.getElem?_cons_zero, List.set_cons_succ, List.set_cons_zero, List.map_cons, List.map_nil, bd_bd, bdd_bd, bdd_bdd, bd_bdd, kc_eq, kd_eq, Int.reduceLT, Int.reduceLE, Int.reduceToNat, Int.reducePow, decide_true, decide_false, Bool.and_true, Bool.true_and, Bool.or_true, Bool.true_or, if_true, if_false, reduceCtorEq, andC_t, andC_f, orC_t, orC_f, Bool.not_true, Bool.not_false, ne_eq, not_true_eq_false, not_false_eq_true, Option.map_some, eq_self, compC_eq, compT_eq, compE_t, compE_f, wp_n, wp_c, evTs_n, evTs_1, List.set_set]
    exact exit_tape rfl rfl rfl (q _ _ _ _ hp5 hn5)
  · simp only [exs_n, exs_c, cf_nx, cf_rt, cf_bk, cf_ct, ex_nm, setC_eq, ex_tp, ex_sb, asgC_eq, at_nm, at_tp, at_sb, ats_n, ats_c, ex_exp, ex_ret, ex_retN, ex_pass, ex_brk, ex_cont, ex_par, ex_iff, iffC_t, iffC_f, iffC_n, ex_for, forC_eq, turnC_eq, ev_con, ev_glo, ev_var, ev_tup, ev_lst, ev_bin, ev_neg, ev_cmp, ev_sub, ev_call, ev_prim, primC_eq, ev_meth, ev_and, ev_or, ev_not, ev_ife, ifeC_t, ifeC_f, ev_slc, ev_new, newC_f, ev_comp, evs_n, evs_c, evT_eq, endC_rt, endC_nx, lk_int, lk_bl, lk_str, lk_non, lk_tup, lk_lst, lk_dct, lk_scr, lk_ref, fd_v, fd_f, tr_bl, tr_int, tr_non, tr_tup, tr_lst, tR_some, bR_some, vR_some, oI_some, gd_t, o_add, o_sub, o_mul, o_fdiv, o_mod, o_pow, o_addt, o_addl, o_adds, o_neg, c_eq, c_ne, c_lt, c_gt, c_le, c_ge, c_isn, c_notn, q_int, q_str, q_bl, q_map, i_tup, i_lst, ai_0, ai_1, ai_2, ai_3, ai_4, ai_5, ai_6, ai_7, ai_8, ai_9, ai_10, ai_11, bd_ok, bdd_ok, sat_ok, List.getElem?_cons_succ, List.getElem?_cons_zero, List.set_cons_succ, List.set_cons_zero, List.map_cons, List.map_nil, bd_bd, bdd_bd, bdd_bdd, bd_bdd, kc_eq, kd_eq, Int.reduceLT, Int.reduceLE, Int.reduceToNat, Int.reducePow, decide_true, decide_false, Bool.and_true, Bool.true_and, Bool.or_true, Bool.true_or, if_true, if_false, reduceCtorEq, andC_t, andC_f, orC_t, orC_f, Bool.not_true, Bool.not_false, ne_eq, not_true_eq_false, not_false_eq_true, Option.map_some, eq_self, compC_eq, compT_eq, compE_t, compE_f, wp_n, wp_c, evTs_n, evTs_1]
    rw [gd_p (by rw [decide_eq_true (by omega), inW_i (by omega) (by omega)] <;> rfl)]
    simp only [exs_n, exs_c, cf_nx, cf_rt, cf_bk, cf_ct, ex_nm, setC_eq, ex_tp, ex_sb, asgC_eq, at_nm, at_tp, at_sb, ats_n, ats_c, ex_exp, ex_ret, ex_retN, ex_pass, ex_brk, ex_cont, ex_par, ex_iff, iffC_t, iffC_f, iffC_n, ex_for, forC_eq, turnC_eq, ev_con, ev_glo, ev_var, ev_tup, ev_lst, ev_bin, ev_neg, ev_cmp, ev_sub, ev_call, ev_prim, primC_eq, ev_meth, ev_and, ev_or, ev_not, ev_ife, ifeC_t, ifeC_f, ev_slc, ev_new, newC_f, ev_comp, evs_n, evs_c, evT_eq, endC_rt, endC_nx, lk_int, lk_bl, lk_str, lk_non, lk_tup, lk_lst, lk_dct, lk_scr, lk_ref, fd_v, fd_f, tr_bl, tr_int, tr_non, tr_tup, tr_lst, tR_some, bR_some, vR_some, oI_some, gd_t, o_add, o_sub, o_mul, o_fdiv, o_mod, o_pow, o_addt, o_addl, o_adds, o_neg, c_eq, c_ne, c_lt, c_gt, c_le, c_ge, c_isn, c_notn, q_int, q_str, q_bl, q_map, i_tup, i_lst, ai_0, ai_1, ai_2, ai_3, ai_4, ai_5, ai_6, ai_7, ai_8, ai_9, ai_10, ai_11, bd_ok, bdd_ok, sat_ok, List.getElem?_cons_succ, List.getElem?_cons_zero, List.set_cons_succ, List.set_cons_zero, List.map_cons, List.map_nil, bd_bd, bdd_bd, bdd_bdd, bd_bdd, kc_eq, kd_eq, Int.reduceLT, Int.reduceLE, Int.reduceToNat, Int.reducePow, decide_true, decide_false, Bool.and_true, Bool.true_and, Bool.or_true, Bool.true_or, if_true, if_false, reduceCtorEq, andC_t, andC_f, orC_t, orC_f, Bool.not_true, Bool.not_false, ne_eq, not_true_eq_false, not_false_eq_true, Option.map_some, eq_self, compC_eq, compT_eq, compE_t, compE_f, wp_n, wp_c, evTs_n, evTs_1]
    refine sat_bddq (draw_sat f_draw (hs _) hp4 hn4 (by have := Int.ediv_le_self (b := i * p) (a := most) h0; omega) fun w p5 n5 m5 hw0 hw1 hp5 hn5 => ?_)
    simp only [exs_n, exs_c, cf_nx, cf_rt, cf_bk, cf_ct, ex_nm, setC_eq, ex_tp, ex_sb, asgC_eq, at_nm, at_tp, at_sb, ats_n, ats_c, ex_exp, ex_ret, ex_retN, ex_pass, ex_brk, ex_cont, ex_par, ex_iff, iffC_t, iffC_f, iffC_n, ex_for, forC_eq, turnC_eq, ev_con, ev_glo, ev_var, ev_tup, ev_lst, ev_bin, ev_neg, ev_cmp, ev_sub, ev_call, ev_prim, primC_eq, ev_meth, ev_and, ev_or, ev_not, ev_ife, ifeC_t, ifeC_f, ev_slc, ev_new, newC_f, ev_comp, evs_n, evs_c, evT_eq, endC_rt, endC_nx, lk_int, lk_bl, lk_str, lk_non, lk_tup, lk_lst, lk_dct, lk_scr, lk_ref, fd_v, fd_f, tr_bl, tr_int, tr_non, tr_tup, tr_lst, tR_some, bR_some, vR_some, oI_some, gd_t, o_add, o_sub, o_mul, o_fdiv, o_mod, o_pow, o_addt, o_addl, o_adds, o_neg, c_eq, c_ne, c_lt, c_gt, c_le, c_ge, c_isn, c_notn, q_int, q_str, q_bl, q_map, i_tup, i_lst, ai_0, ai_1, ai_2, ai_3, ai_4, ai_5, ai_6, ai_7, ai_8, ai_9, ai_10, ai_11, bd_ok, bdd_ok, sat_ok, List.getElem?_cons_succ, List.getElem?_cons_zero, List.set_cons_succ, List.set_cons_zero, List.map_cons, List.map_nil, bd_bd, bdd_bd, bdd_bdd, bd_bdd, kc_eq, kd_eq, Int.reduceLT, Int.reduceLE, Int.reduceToNat, Int.reducePow, decide_true, decide_false, Bool.and_true, Bool.true_and, Bool.or_true, Bool.true_or, if_true, if_false, reduceCtorEq, andC_t, andC_f, orC_t, orC_f, Bool.not_true, Bool.not_false, ne_eq, not_true_eq_false, not_false_eq_true, Option.map_some, eq_self, compC_eq, compT_eq, compE_t, compE_f, wp_n, wp_c, evTs_n, evTs_1, List.set_set]
    rw [gd_p (by rw [inW_i (i := i * p) (by omega) (by omega)] <;> rfl)]
    simp only [exs_n, exs_c, cf_nx, cf_rt, cf_bk, cf_ct, ex_nm, setC_eq, ex_tp, ex_sb, asgC_eq, at_nm, at_tp, at_sb, ats_n, ats_c, ex_exp, ex_ret, ex_retN, ex_pass, ex_brk, ex_cont, ex_par, ex_iff, iffC_t, iffC_f, iffC_n, ex_for, forC_eq, turnC_eq, ev_con, ev_glo, ev_var, ev_tup, ev_lst, ev_bin, ev_neg, ev_cmp, ev_sub, ev_call, ev_prim, primC_eq, ev_meth, ev_and, ev_or, ev_not, ev_ife, ifeC_t, ifeC_f, ev_slc, ev_new, newC_f, ev_comp, evs_n, evs_c, evT_eq, endC_rt, endC_nx, lk_int, lk_bl, lk_str, lk_non, lk_tup, lk_lst, lk_dct, lk_scr, lk_ref, fd_v, fd_f, tr_bl, tr_int, tr_non, tr_tup, tr_lst, tR_some, bR_some, vR_some, oI_some, gd_t, o_add, o_sub, o_mul, o_fdiv, o_mod, o_pow, o_addt, o_addl, o_adds, o_neg, c_eq, c_ne, c_lt, c_gt, c_le, c_ge, c_isn, c_notn, q_int, q_str, q_bl, q_map, i_tup, i_lst, ai_0, ai_1, ai_2, ai_3, ai_4, ai_5, ai_6, ai_7, ai_8, ai_9, ai_10, ai_11, bd_ok, bdd_ok, sat_ok, List.getElem?_cons_succ, List.getElem?_cons_zero, List.set_cons_succ, List.set_cons_zero, List.map_cons, List.map_nil, bd_bd, bdd_bd, bdd_bdd, bd_bdd, kc_eq, kd_eq, Int.reduceLT, Int.reduceLE, Int.reduceToNat, Int.reducePow, decide_true, decide_false, Bool.and_true, Bool.true_and, Bool.or_true, Bool.true_or, if_true, if_false, reduceCtorEq, andC_t, andC_f, orC_t, orC_f, Bool.not_true, Bool.not_false, ne_eq, not_true_eq_false, not_false_eq_true, Option.map_some, eq_self, compC_eq, compT_eq, compE_t, compE_f, wp_n, wp_c, evTs_n, evTs_1]
    exact exit_tape rfl rfl rfl (q _ _ _ _ hp5 hn5)
/-- a row of places in xs -/
def OrdOk (os : List D) (xs : List D) : Prop := ∀ d ∈ os, ∃ j : Nat, d = .int j ∧ j < xs.length
theorem same_int {v : Int} : callF fs gl (k + 1) 6 [.int v, .int v] M = .ok (.v (.bl true)) M := same_ok f_same k _ _ (by cases k <;> rfl)
theorem blocks_ok {os : List D} (hx : ∀ d ∈ xs, IsSys d) (hS : M[s]? = some (.lst xs)) (ho : OrdOk os xs) {a : Int} (ha0 : 0 ≤ a) (ha : a ≤ 2) : callF fs gl (k + 4) 18 [.ref s, .lst os, .int a] M = .ok (.v (.bl true)) M := by
  refine eq_sat (go (fn := ⟨3, 6, b__law_d_blocks⟩) (ρ := [some (.ref s), some (.lst os), some (.int a), none, none, none]) rfl rfl rfl ?_)
  simp only [b__law_d_blocks, exs_n, exs_c, cf_nx, cf_rt, cf_bk, cf_ct, ex_nm, setC_eq, ex_tp, ex_sb, asgC_eq, at_nm, at_tp, at_sb, ats_n, ats_c, ex_exp, ex_ret, ex_retN, ex_pass, ex_brk, ex_cont, ex_par, ex_iff, iffC_t, iffC_f, iffC_n, ex_for, forC_eq, turnC_eq, ev_con, ev_glo, ev_var, ev_tup, ev_lst, ev_bin, ev_neg, ev_cmp, ev_sub, ev_call, ev_prim, primC_eq, ev_meth, ev_and, ev_or, ev_not, ev_ife, ifeC_t, ifeC_f, ev_slc, ev_new, newC_f, ev_comp, evs_n, evs_c, evT_eq, endC_rt, endC_nx, lk_int, lk_bl, lk_str, lk_non, lk_tup, lk_lst, lk_dct, lk_scr, lk_ref, fd_v, fd_f, tr_bl, tr_int, tr_non, tr_tup, tr_lst, tR_some, bR_some, vR_some, oI_some, gd_t, o_add, o_sub, o_mul, o_fdiv, o_mod, o_pow, o_addt, o_addl, o_adds, o_neg, c_eq, c_ne, c_lt, c_gt, c_le, c_ge, c_isn, c_notn, q_int, q_str, q_bl, q_map, i_tup, i_lst, ai_0, ai_1, ai_2, ai_3, ai_4, ai_5, ai_6, ai_7, ai_8, ai_9, ai_10, ai_11, bd_ok, bdd_ok, sat_ok, List.getElem?_cons_succ, List.getElem?_cons_zero, List.set_cons_succ, List.set_cons_zero, List.map_cons, List.map_nil, bd_bd, bdd_bd, bdd_bdd, bd_bdd, kc_eq, kd_eq, Int.reduceLT, Int.reduceLE, Int.reduceToNat, Int.reducePow, decide_true, decide_false, Bool.and_true, Bool.true_and, Bool.or_true, Bool.true_or, if_true, if_false, reduceCtorEq, andC_t, andC_f, orC_t, orC_f, Bool.not_true, Bool.not_false, ne_eq, not_true_eq_false, not_false_eq_true, Option.map_some, eq_self, compC_eq, compT_eq, compE_t, compE_f, wp_n, wp_c, evTs_n, evTs_1, w_lst]
  refine sat_bd (P := fun f N => N = M ∧ ∃ a1 a2 a3, f = .nx [some (.ref s), some (.lst os), some (.int a), a1, a2, a3]) (for_i (fun j ρ N => N = M ∧ ∃ a1 a2 a3, ρ = [some (.ref s), some (.lst os), some (.int a), a1, a2, a3]) ⟨rfl, _, _, _, rfl⟩ (fun _ _ _ _ _ => okG_n) (fun j ρ N d hd w => ?_) fun ρ N w => ?_) fun f N w => ?_
  · obtain ⟨rfl, a1, a2, a3, rfl⟩ := w
    obtain ⟨j, rfl, hj⟩ := ho d (List.mem_of_getElem? hd)
    have hg := List.getElem?_eq_getElem hj
    obtain ⟨p, i, ps, ls, cs, hsys, ok, b1, b2, b3, b4⟩ := hx xs[j] (List.getElem_mem hj)
    rw [hsys] at hg
    have e := atI_nat hg
    have ga : inW a = true := inW_i (by omega) (by omega)
    simp only [exs_n, exs_c, cf_nx, cf_rt, cf_bk, cf_ct, ex_nm, setC_eq, ex_tp, ex_sb, asgC_eq, at_nm, at_tp, at_sb, ats_n, ats_c, ex_exp, ex_ret, ex_retN, ex_pass, ex_brk, ex_cont, ex_par, ex_iff, iffC_t, iffC_f, iffC_n, ex_for, forC_eq, turnC_eq, ev_con, ev_glo, ev_var, ev_tup, ev_lst, ev_bin, ev_neg, ev_cmp, ev_sub, ev_call, ev_prim, primC_eq, ev_meth, ev_and, ev_or, ev_not, ev_ife, ifeC_t, ifeC_f, ev_slc, ev_new, newC_f, ev_comp, evs_n, evs_c, evT_eq, endC_rt, endC_nx, lk_int, lk_bl, lk_str, lk_non, lk_tup, lk_lst, lk_dct, lk_scr, lk_ref, fd_v, fd_f, tr_bl, tr_int, tr_non, tr_tup, tr_lst, tR_some, bR_some, vR_some, oI_some, gd_t, o_add, o_sub, o_mul, o_fdiv, o_mod, o_pow, o_addt, o_addl, o_adds, o_neg, c_eq, c_ne, c_lt, c_gt, c_le, c_ge, c_isn, c_notn, q_int, q_str, q_bl, q_map, i_tup, i_lst, ai_0, ai_1, ai_2, ai_3, ai_4, ai_5, ai_6, ai_7, ai_8, ai_9, ai_10, ai_11, bd_ok, bdd_ok, sat_ok, List.getElem?_cons_succ, List.getElem?_cons_zero, List.set_cons_succ, List.set_cons_zero, List.map_cons, List.map_nil, bd_bd, bdd_bd, bdd_bdd, bd_bdd, kc_eq, kd_eq, Int.reduceLT, Int.reduceLE, Int.reduceToNat, Int.reducePow, decide_true, decide_false, Bool.and_true, Bool.true_and, Bool.or_true, Bool.true_or, if_true, if_false, reduceCtorEq, andC_t, andC_f, orC_t, orC_f, Bool.not_true, Bool.not_false, ne_eq, not_true_eq_false, not_false_eq_true, Option.map_some, eq_self, compC_eq, compT_eq, compE_t, compE_f, wp_n, wp_c, evTs_n, evTs_1, hS, getD_some', e, lks, s2, s6, q_lent, ga, Bool.true_or]
    by_cases h2 : a < 2
    · have h3 : ¬ a = 2 := by omega
      have hf := first_ok (k := k + 1) (M := N) (t := a) ok
      rw [decide_eq_true h2]
      simp only [exs_n, exs_c, cf_nx, cf_rt, cf_bk, cf_ct, ex_nm, setC_eq, ex_tp, ex_sb, asgC_eq, at_nm, at_tp, at_sb, ats_n, ats_c, ex_exp, ex_ret, ex_retN, ex_pass, ex_brk, ex_cont, ex_par, ex_iff, iffC_t, iffC_f, iffC_n, ex_for, forC_eq, turnC_eq, ev_con, ev_glo, ev_var, ev_tup, ev_lst, ev_bin, ev_neg, ev_cmp, ev_sub, ev_call, ev_prim, primC_eq, ev_meth, ev_and, ev_or, ev_not, ev_ife, ifeC_t, ifeC_f, ev_slc, ev_new, newC_f, ev_comp, evs_n, evs_c, evT_eq, endC_rt, endC_nx, lk_int, lk_bl, lk_str, lk_non, lk_tup, lk_lst, lk_dct, lk_scr, lk_ref, fd_v, fd_f, tr_bl, tr_int, tr_non, tr_tup, tr_lst, tR_some, bR_some, vR_some, oI_some, gd_t, o_add, o_sub, o_mul, o_fdiv, o_mod, o_pow, o_addt, o_addl, o_adds, o_neg, c_eq, c_ne, c_lt, c_gt, c_le, c_ge, c_isn, c_notn, q_int, q_str, q_bl, q_map, i_tup, i_lst, ai_0, ai_1, ai_2, ai_3, ai_4, ai_5, ai_6, ai_7, ai_8, ai_9, ai_10, ai_11, bd_ok, bdd_ok, sat_ok, List.getElem?_cons_succ, List.getElem?_cons_zero, List.set_cons_succ, List.set_cons_zero, List.map_cons, List.map_nil, bd_bd, bdd_bd, bdd_bdd, bd_bdd, kc_eq, kd_eq, Int.reduceLT, Int.reduceLE, Int.reduceToNat, Int.reducePow, decide_true, decide_false, Bool.and_true, Bool.true_and, Bool.or_true, Bool.true_or, if_true, if_false, reduceCtorEq, andC_t, andC_f, orC_t, orC_f, Bool.not_true, Bool.not_false, ne_eq, not_true_eq_false, not_false_eq_true, Option.map_some, eq_self, compC_eq, compT_eq, compE_t, compE_f, wp_n, wp_c, evTs_n, evTs_1, hS, getD_some', e, lks, hf, same_int, decide_eq_false h3]
      exact ⟨by trivial, _, _, _, rfl⟩
    · have h3 : a = 2 := by omega
      subst h3
      have hf := many_ok (k := k) (M := N) ok
      rw [decide_eq_false h2]
      simp only [exs_n, exs_c, cf_nx, cf_rt, cf_bk, cf_ct, ex_nm, setC_eq, ex_tp, ex_sb, asgC_eq, at_nm, at_tp, at_sb, ats_n, ats_c, ex_exp, ex_ret, ex_retN, ex_pass, ex_brk, ex_cont, ex_par, ex_iff, iffC_t, iffC_f, iffC_n, ex_for, forC_eq, turnC_eq, ev_con, ev_glo, ev_var, ev_tup, ev_lst, ev_bin, ev_neg, ev_cmp, ev_sub, ev_call, ev_prim, primC_eq, ev_meth, ev_and, ev_or, ev_not, ev_ife, ifeC_t, ifeC_f, ev_slc, ev_new, newC_f, ev_comp, evs_n, evs_c, evT_eq, endC_rt, endC_nx, lk_int, lk_bl, lk_str, lk_non, lk_tup, lk_lst, lk_dct, lk_scr, lk_ref, fd_v, fd_f, tr_bl, tr_int, tr_non, tr_tup, tr_lst, tR_some, bR_some, vR_some, oI_some, gd_t, o_add, o_sub, o_mul, o_fdiv, o_mod, o_pow, o_addt, o_addl, o_adds, o_neg, c_eq, c_ne, c_lt, c_gt, c_le, c_ge, c_isn, c_notn, q_int, q_str, q_bl, q_map, i_tup, i_lst, ai_0, ai_1, ai_2, ai_3, ai_4, ai_5, ai_6, ai_7, ai_8, ai_9, ai_10, ai_11, bd_ok, bdd_ok, sat_ok, List.getElem?_cons_succ, List.getElem?_cons_zero, List.set_cons_succ, List.set_cons_zero, List.map_cons, List.map_nil, bd_bd, bdd_bd, bdd_bdd, bd_bdd, kc_eq, kd_eq, Int.reduceLT, Int.reduceLE, Int.reduceToNat, Int.reducePow, decide_true, decide_false, Bool.and_true, Bool.true_and, Bool.or_true, Bool.true_or, if_true, if_false, reduceCtorEq, andC_t, andC_f, orC_t, orC_f, Bool.not_true, Bool.not_false, ne_eq, not_true_eq_false, not_false_eq_true, Option.map_some, eq_self, compC_eq, compT_eq, compE_t, compE_f, wp_n, wp_c, evTs_n, evTs_1, hS, getD_some', e, lks, hf, same_int]
      exact ⟨by trivial, _, _, _, rfl⟩
  · obtain ⟨rfl, a1, a2, a3, rfl⟩ := w
    exact ⟨rfl, _, _, _, rfl⟩
  · obtain ⟨rfl, a1, a2, a3, rfl⟩ := w
    simp only [exs_n, exs_c, cf_nx, cf_rt, cf_bk, cf_ct, ex_nm, setC_eq, ex_tp, ex_sb, asgC_eq, at_nm, at_tp, at_sb, ats_n, ats_c, ex_exp, ex_ret, ex_retN, ex_pass, ex_brk, ex_cont, ex_par, ex_iff, iffC_t, iffC_f, iffC_n, ex_for, forC_eq, turnC_eq, ev_con, ev_glo, ev_var, ev_tup, ev_lst, ev_bin, ev_neg, ev_cmp, ev_sub, ev_call, ev_prim, primC_eq, ev_meth, ev_and, ev_or, ev_not, ev_ife, ifeC_t, ifeC_f, ev_slc, ev_new, newC_f, ev_comp, evs_n, evs_c, evT_eq, endC_rt, endC_nx, lk_int, lk_bl, lk_str, lk_non, lk_tup, lk_lst, lk_dct, lk_scr, lk_ref, fd_v, fd_f, tr_bl, tr_int, tr_non, tr_tup, tr_lst, tR_some, bR_some, vR_some, oI_some, gd_t, o_add, o_sub, o_mul, o_fdiv, o_mod, o_pow, o_addt, o_addl, o_adds, o_neg, c_eq, c_ne, c_lt, c_gt, c_le, c_ge, c_isn, c_notn, q_int, q_str, q_bl, q_map, i_tup, i_lst, ai_0, ai_1, ai_2, ai_3, ai_4, ai_5, ai_6, ai_7, ai_8, ai_9, ai_10, ai_11, bd_ok, bdd_ok, sat_ok, List.getElem?_cons_succ, List.getElem?_cons_zero, List.set_cons_succ, List.set_cons_zero, List.map_cons, List.map_nil, bd_bd, bdd_bd, bdd_bdd, bd_bdd, kc_eq, kd_eq, Int.reduceLT, Int.reduceLE, Int.reduceToNat, Int.reducePow, decide_true, decide_false, Bool.and_true, Bool.true_and, Bool.or_true, Bool.true_or, if_true, if_false, reduceCtorEq, andC_t, andC_f, orC_t, orC_f, Bool.not_true, Bool.not_false, ne_eq, not_true_eq_false, not_false_eq_true, Option.map_some, eq_self, compC_eq, compT_eq, compE_t, compE_f, wp_n, wp_c, evTs_n, evTs_1]
    exact exit_p rfl rfl ⟨rfl, rfl⟩
end
end Lw
namespace Lw
open PySem PyI
section
variable {k : Nat} {M : Store} {p i t mark : Int} {ps ls cs : List D} {ks : List (Int × Int)} {Q : FV → Store → Prop} {tp n m : Int} {ns : List Int} {r s : Nat} {xs : List D}
def cycD : D → Int
  | .tup (.int p :: .int i :: _) => i * p
  | _ => 0
def tailB : Ss := match b__law_d_backs with
  | .cons _ (.cons _ x) => x
  | _ => .nil
theorem back_due {c tick mk : Int} (hc : 1 ≤ c) (h : tick - mk ≤ 2 * c - 1) : tick - backV c tick mk ks ≤ 2 * c - 1 := by
  unfold backV
  have hlo := Int.emod_nonneg tick (b := c) (by omega)
  have hhi := Int.emod_lt_of_pos tick (b := c) (by omega)
  split <;> omega
/-- a row that is asked of both -/
def RowOk (xs : List D) (d : D) : Prop := ∃ (j : Nat) (tick mk : Int) (x : D), d = .tup [.int j, .int tick, .int mk] ∧ xs[j]? = some x ∧ tick - mk ≤ 2 * cycD x - 1
theorem tail_sat {rows : List D} {o4 o5 o6 o7 o9 o10 o11 o12 o13 od : Option D} (hx : ∀ d ∈ xs, IsSys d) {p1 n1 m1 : Int} (hM : M[r]? = some (TapeD ns tp n m)) (hS : M[s]? = some (.lst xs)) (hrs : r ≠ s) (nd : (ks.map (·.1)).Nodup) (hr : ∀ d ∈ rows, RowOk xs d)
    (q : Q (.v (.bl true)) (M.set r (TapeD ns p1 n1 m1))) :
    ((exs ⟨callF fs gl (k + 3), gl⟩ tailB [some (.ref r), some (.ref s), od, some (.tup (ks.map pd)), o4, o5, o6, o7, some (.lst rows), o9, o10, o11, o12, o13] (M.set r (TapeD ns p1 n1 m1))).bd (endC M)).sat Q := by
  have hS' : ∀ d : D, (M.set r d)[s]? = some (.lst xs) := fun d => by rw [List.getElem?_set_ne hrs]; exact hS
  simp only [tailB, b__law_d_backs, exs_n, exs_c, cf_nx, cf_rt, cf_bk, cf_ct, ex_nm, setC_eq, ex_tp, ex_sb, asgC_eq, at_nm, at_tp, at_sb, ats_n, ats_c, ex_exp, ex_ret, ex_retN, ex_pass, ex_brk, ex_cont, ex_par, ex_iff, iffC_t, iffC_f, iffC_n, ex_for, forC_eq, turnC_eq, ev_con, ev_glo, ev_var, ev_tup, ev_lst, ev_bin, ev_neg, ev_cmp, ev_sub, ev_call, ev_prim, primC_eq, ev_meth, ev_and, ev_or, ev_not, ev_ife, ifeC_t, ifeC_f, ev_slc, ev_new, newC_f, ev_comp, evs_n, evs_c, evT_eq, endC_rt, endC_nx, lk_int, lk_bl, lk_str, lk_non, lk_tup, lk_lst, lk_dct, lk_scr, lk_ref, fd_v, fd_f, tr_bl, tr_int, tr_non, tr_tup, tr_lst, tR_some, bR_some, vR_some, oI_some, gd_t, o_add, o_sub, o_mul, o_fdiv, o_mod, o_pow, o_addt, o_addl, o_adds, o_neg, c_eq, c_ne, c_lt, c_gt, c_le, c_ge, c_isn, c_notn, q_int, q_str, q_bl, q_map, i_tup, i_lst, ai_0, ai_1, ai_2, ai_3, ai_4, ai_5, ai_6, ai_7, ai_8, ai_9, ai_10, ai_11, bd_ok, bdd_ok, sat_ok, List.getElem?_cons_succ, List.getElem?_cons_zero, List.set_cons_succ, List.set_cons_zero, List.map_cons, List.map_nil, bd_bd, bdd_bd, bdd_bdd, bd_bdd, kc_eq, kd_eq, Int.reduceLT, Int.reduceLE, Int.reduceToNat, Int.reducePow, decide_true, decide_false, Bool.and_true, Bool.true_and, Bool.or_true, Bool.true_or, if_true, if_false, reduceCtorEq, andC_t, andC_f, orC_t, orC_f, Bool.not_true, Bool.not_false, ne_eq, not_true_eq_false, not_false_eq_true, Option.map_some, eq_self, compC_eq, compT_eq, compE_t, compE_f, wp_n, wp_c, evTs_n, evTs_1, w_lst]
  refine sat_bd (P := fun f N => N = M.set r (TapeD ns p1 n1 m1) ∧ ∃ a4 a5 a6 a11, f = .nx [some (.ref r), some (.ref s), od, some (.tup (ks.map pd)), a4, a5, a6, o7, some (.lst rows), o9, o10, a11, o12, o13])
    (for_i (fun j ρ N => N = M.set r (TapeD ns p1 n1 m1) ∧ ∃ a4 a5 a6 a11, ρ = [some (.ref r), some (.ref s), od, some (.tup (ks.map pd)), a4, a5, a6, o7, some (.lst rows), o9, o10, a11, o12, o13]) ⟨rfl, _, _, _, _, rfl⟩ (fun _ _ _ _ _ => okG_n) (fun j ρ N d hd w => ?_) fun ρ N w => ?_) fun f N w => ?_
  · obtain ⟨rfl, a4, a5, a6, a11, rfl⟩ := w
    obtain ⟨j, tick, mk, x, rfl, hj, hle⟩ := hr d (List.mem_of_getElem? hd)
    obtain ⟨p, i, ps, ls, cs, rfl, ok, b1, b2, b3, b4⟩ := hx x (List.mem_of_getElem? hj)
    obtain ⟨c1, c2⟩ := cyc ok
    have hle : tick - mk ≤ 2 * (i * p) - 1 := hle
    have e := atI_nat hj
    have gp : inW (2 * p) = true := inW_i (by have := ok.p1; omega) (by have := ok.p2; omega)
    have em : 2 * p * i = 2 * (i * p) := by rw [Int.mul_assoc, Int.mul_comm p i]
    have hdue : ¬ 2 * (i * p) - 1 < tick - backV (i * p) tick mk ks := by
      have := back_due (ks := ks) c1 hle
      omega
    have hb := fun N => back_ok (k := k + 1) (M := N) (t := tick) (mark := mk) ok nd
    have hd := fun N => dback_ok (k := k + 2) (M := N) (t := tick) (mark := mk) (ks := ks) ok
    simp only [exs_n, exs_c, cf_nx, cf_rt, cf_bk, cf_ct, ex_nm, setC_eq, ex_tp, ex_sb, asgC_eq, at_nm, at_tp, at_sb, ats_n, ats_c, ex_exp, ex_ret, ex_retN, ex_pass, ex_brk, ex_cont, ex_par, ex_iff, iffC_t, iffC_f, iffC_n, ex_for, forC_eq, turnC_eq, ev_con, ev_glo, ev_var, ev_tup, ev_lst, ev_bin, ev_neg, ev_cmp, ev_sub, ev_call, ev_prim, primC_eq, ev_meth, ev_and, ev_or, ev_not, ev_ife, ifeC_t, ifeC_f, ev_slc, ev_new, newC_f, ev_comp, evs_n, evs_c, evT_eq, endC_rt, endC_nx, lk_int, lk_bl, lk_str, lk_non, lk_tup, lk_lst, lk_dct, lk_scr, lk_ref, fd_v, fd_f, tr_bl, tr_int, tr_non, tr_tup, tr_lst, tR_some, bR_some, vR_some, oI_some, gd_t, o_add, o_sub, o_mul, o_fdiv, o_mod, o_pow, o_addt, o_addl, o_adds, o_neg, c_eq, c_ne, c_lt, c_gt, c_le, c_ge, c_isn, c_notn, q_int, q_str, q_bl, q_map, i_tup, i_lst, ai_0, ai_1, ai_2, ai_3, ai_4, ai_5, ai_6, ai_7, ai_8, ai_9, ai_10, ai_11, bd_ok, bdd_ok, sat_ok, List.getElem?_cons_succ, List.getElem?_cons_zero, List.set_cons_succ, List.set_cons_zero, List.map_cons, List.map_nil, bd_bd, bdd_bd, bdd_bdd, bd_bdd, kc_eq, kd_eq, Int.reduceLT, Int.reduceLE, Int.reduceToNat, Int.reducePow, decide_true, decide_false, Bool.and_true, Bool.true_and, Bool.or_true, Bool.true_or, if_true, if_false, reduceCtorEq, andC_t, andC_f, orC_t, orC_f, Bool.not_true, Bool.not_false, ne_eq, not_true_eq_false, not_false_eq_true, Option.map_some, eq_self, compC_eq, compT_eq, compE_t, compE_f, wp_n, wp_c, evTs_n, evTs_1, hS', getD_some', e, lks, hd, hb, same_int, s0, s1, show inW 2 = true by decide, gp, Bool.true_or, em, decide_eq_false hdue]
    exact ⟨by trivial, _, _, _, _, rfl⟩
  · obtain ⟨rfl, a4, a5, a6, a11, rfl⟩ := w
    exact ⟨rfl, _, _, _, _, rfl⟩
  · obtain ⟨rfl, a4, a5, a6, a11, rfl⟩ := w
    simp only [exs_n, exs_c, cf_nx, cf_rt, cf_bk, cf_ct, ex_nm, setC_eq, ex_tp, ex_sb, asgC_eq, at_nm, at_tp, at_sb, ats_n, ats_c, ex_exp, ex_ret, ex_retN, ex_pass, ex_brk, ex_cont, ex_par, ex_iff, iffC_t, iffC_f, iffC_n, ex_for, forC_eq, turnC_eq, ev_con, ev_glo, ev_var, ev_tup, ev_lst, ev_bin, ev_neg, ev_cmp, ev_sub, ev_call, ev_prim, primC_eq, ev_meth, ev_and, ev_or, ev_not, ev_ife, ifeC_t, ifeC_f, ev_slc, ev_new, newC_f, ev_comp, evs_n, evs_c, evT_eq, endC_rt, endC_nx, lk_int, lk_bl, lk_str, lk_non, lk_tup, lk_lst, lk_dct, lk_scr, lk_ref, fd_v, fd_f, tr_bl, tr_int, tr_non, tr_tup, tr_lst, tR_some, bR_some, vR_some, oI_some, gd_t, o_add, o_sub, o_mul, o_fdiv, o_mod, o_pow, o_addt, o_addl, o_adds, o_neg, c_eq, c_ne, c_lt, c_gt, c_le, c_ge, c_isn, c_notn, q_int, q_str, q_bl, q_map, i_tup, i_lst, ai_0, ai_1, ai_2, ai_3, ai_4, ai_5, ai_6, ai_7, ai_8, ai_9, ai_10, ai_11, bd_ok, bdd_ok, sat_ok, List.getElem?_cons_succ, List.getElem?_cons_zero, List.set_cons_succ, List.set_cons_zero, List.map_cons, List.map_nil, bd_bd, bdd_bd, bdd_bdd, bd_bdd, kc_eq, kd_eq, Int.reduceLT, Int.reduceLE, Int.reduceToNat, Int.reducePow, decide_true, decide_false, Bool.and_true, Bool.true_and, Bool.or_true, Bool.true_or, if_true, if_false, reduceCtorEq, andC_t, andC_f, orC_t, orC_f, Bool.not_true, Bool.not_false, ne_eq, not_true_eq_false, not_false_eq_true, Option.map_some, eq_self, compC_eq, compT_eq, compE_t, compE_f, wp_n, wp_c, evTs_n, evTs_1]
    exact exit_tape rfl rfl rfl q
theorem minI_ok : ∀ (l : List Int) (m : Int), minI m l ≤ m ∧ (∀ z ∈ l, minI m l ≤ z) ∧ (minI m l = m ∨ minI m l ∈ l)
  | [], m => ⟨Int.le_refl _, (fun z h => nomatch h), .inl rfl⟩
  | x :: l, m => by
    show minI (if x < m then x else m) l ≤ m ∧ (∀ z ∈ x :: l, minI (if x < m then x else m) l ≤ z) ∧ (minI (if x < m then x else m) l = m ∨ minI (if x < m then x else m) l ∈ x :: l)
    obtain ⟨h1, h2, h3⟩ := minI_ok l (if x < m then x else m)
    by_cases hx : x < m
    · rw [if_pos hx] at *
      refine ⟨by omega, fun z hz => ?_, .inr ?_⟩
      · rcases List.mem_cons.mp hz with rfl | hz
        · exact h1
        · exact h2 z hz
      · rcases h3 with h3 | h3
        · rw [h3]; exact List.mem_cons_self
        · exact List.mem_cons_of_mem _ h3
    · rw [if_neg hx] at *
      refine ⟨h1, fun z hz => ?_, ?_⟩
      · rcases List.mem_cons.mp hz with rfl | hz
        · omega
        · exact h2 z hz
      · rcases h3 with h3 | h3
        · exact .inl h3
        · exact .inr (List.mem_cons_of_mem _ h3)
theorem intsOf_map : ∀ l : List Int, intsOf (l.map .int) = some l
  | [] => rfl
  | a :: l => by
    show (intsOf (l.map .int)).map (a :: ·) = _
    rw [intsOf_map l] <;> rfl
theorem q_min1 {x : Int} {l : List Int} {ds : List D} : primS .minl [.lst (.int x :: l.map .int)] ds M = .ok (.v (.int (minI x l))) M := by
  show oI ((intsOf ((x :: l).map .int)).bind fun | [] => none | n :: r => some (minI n r)) M = _
  rw [intsOf_map] <;> rfl
def gY (d : D) : D := .int (cycD d)
theorem kept_snoc {ks : List (Int × Int)} {j : Nat} {v : Int} (nd : (ks.map (·.1)).Nodup) (hlt : ∀ q ∈ ks, q.1 < (j : Int)) : ((ks ++ [((j : Int), v)]).map (·.1)).Nodup ∧ ∀ q ∈ ks ++ [((j : Int), v)], q.1 < ((j + 1 : Nat) : Int) := by
  refine ⟨?_, fun q hq => ?_⟩
  · rw [List.map_append, List.nodup_append]
    refine ⟨nd, by simp, fun a ha b hb => ?_⟩
    obtain ⟨q, hq, rfl⟩ := List.mem_map.mp ha
    have := hlt q hq
    simp at hb
    subst hb
    omega
  · rcases List.mem_append.mp hq with hq | hq
    · have := hlt q hq
      omega
    · simp at hq
      subst hq
      show (j : Int) < _
      omega
def gR (tick : Int) (mk : Int → Int) : D → D
  | .int j => .tup [.int j, .int tick, .int (mk j)]
  | _ => .non
theorem cyc_bd {d : D} (h : IsSys d) : 1 ≤ cycD d ∧ cycD d ≤ 400 := by
  obtain ⟨p, i, ps, ls, cs, rfl, ok, b1, b2, b3, b4⟩ := h
  exact cyc ok
theorem mark_le {c tick b : Int} (hc : 1 ≤ c) (hb0 : 0 ≤ b) (hb : b < 2) : tick - c * (if tick / c - b > 0 then tick / c - b else 0) ≤ 2 * c - 1 := by
  have hlo := Int.emod_nonneg tick (b := c) (by omega)
  have hhi := Int.emod_lt_of_pos tick (b := c) (by omega)
  have hdm := Int.mul_ediv_add_emod tick c
  generalize hq : tick / c = q at *
  have hb : b = 0 ∨ b = 1 := by omega
  split
  · rcases hb with rfl | rfl
    · rw [Int.sub_zero]; omega
    · rw [Int.mul_sub, Int.mul_one]; omega
  · rename_i h
    have h1 : q ≤ 1 := by omega
    have h2 : c * q ≤ c * 1 := Int.mul_le_mul_of_nonneg_left h1 (by omega)
    omega
theorem backs_sat {os : List D} (ho : OrdOk os xs) (hol : os.length ≤ 1000) (hx : ∀ d ∈ xs, IsSys d) (hx0 : 0 < xs.length) (hx1 : xs.length ≤ 1000) (hM : M[r]? = some (TapeD ns tp n m)) (hS : M[s]? = some (.lst xs)) (hrs : r ≠ s) (hp : 0 ≤ tp) (hn : 0 ≤ n)
    (q : ∀ p' n' m', 0 ≤ p' → 0 ≤ n' → Q (.v (.bl true)) (M.set r (TapeD ns p' n' m'))) : (callF fs gl (k + 4) 17 [.ref r, .ref s, .lst os] M).sat Q := by
  have ht : r < M.length := (List.getElem?_eq_some_iff.mp hM).1
  have hs : ∀ d : D, (M.set r d)[r]? = some d := fun d => List.getElem?_set_self ht
  have hS' : ∀ d : D, (M.set r d)[s]? = some (.lst xs) := fun d => by rw [List.getElem?_set_ne hrs]; exact hS
  have hsl : sl = 16777216 := rfl
  refine go (fn := ⟨3, 14, b__law_d_backs⟩) (ρ := [some (.ref r), some (.ref s), some (.lst os), none, none, none, none, none, none, none, none, none, none, none]) rfl rfl rfl ?_
  simp only [b__law_d_backs, exs_n, exs_c, cf_nx, cf_rt, cf_bk, cf_ct, ex_nm, setC_eq, ex_tp, ex_sb, asgC_eq, at_nm, at_tp, at_sb, ats_n, ats_c, ex_exp, ex_ret, ex_retN, ex_pass, ex_brk, ex_cont, ex_par, ex_iff, iffC_t, iffC_f, iffC_n, ex_for, forC_eq, turnC_eq, ev_con, ev_glo, ev_var, ev_tup, ev_lst, ev_bin, ev_neg, ev_cmp, ev_sub, ev_call, ev_prim, primC_eq, ev_meth, ev_and, ev_or, ev_not, ev_ife, ifeC_t, ifeC_f, ev_slc, ev_new, newC_f, ev_comp, evs_n, evs_c, evT_eq, endC_rt, endC_nx, lk_int, lk_bl, lk_str, lk_non, lk_tup, lk_lst, lk_dct, lk_scr, lk_ref, fd_v, fd_f, tr_bl, tr_int, tr_non, tr_tup, tr_lst, tR_some, bR_some, vR_some, oI_some, gd_t, o_add, o_sub, o_mul, o_fdiv, o_mod, o_pow, o_addt, o_addl, o_adds, o_neg, c_eq, c_ne, c_lt, c_gt, c_le, c_ge, c_isn, c_notn, q_int, q_str, q_bl, q_map, i_tup, i_lst, ai_0, ai_1, ai_2, ai_3, ai_4, ai_5, ai_6, ai_7, ai_8, ai_9, ai_10, ai_11, bd_ok, bdd_ok, sat_ok, List.getElem?_cons_succ, List.getElem?_cons_zero, List.set_cons_succ, List.set_cons_zero, List.map_cons, List.map_nil, bd_bd, bdd_bd, bdd_bdd, bd_bdd, kc_eq, kd_eq, Int.reduceLT, Int.reduceLE, Int.reduceToNat, Int.reducePow, decide_true, decide_false, Bool.and_true, Bool.true_and, Bool.or_true, Bool.true_or, if_true, if_false, reduceCtorEq, andC_t, andC_f, orC_t, orC_f, Bool.not_true, Bool.not_false, ne_eq, not_true_eq_false, not_false_eq_true, Option.map_some, eq_self, compC_eq, compT_eq, compE_t, compE_f, wp_n, wp_c, evTs_n, evTs_1, w_rng1, show inR 5 = true by decide]
  refine sat_bdq (comp_i (fun j a N => ∃ (p' n' m' : Int) (ks : List (Int × Int)), 0 ≤ p' ∧ 0 ≤ n' ∧ N = M.set r (TapeD ns p' n' m') ∧ a = ks.map pd ∧ (ks.map (·.1)).Nodup ∧ (∀ q ∈ ks, q.1 < (j : Int)) ∧ ks.length ≤ j)
    ⟨tp, n, m, [], hp, hn, (set_same hM).symm, rfl, List.nodup_nil, (fun _ h => by cases h), Nat.le_refl _⟩ (fun _ _ _ _ _ => okG_n) (fun j a N hj w => ?_) (by rw [rng_len']; omega) (fun j a N d hd w => ?_) fun a N w => ?_)
  · obtain ⟨p', n', m', ks, _, _, _, rfl, _, _, h⟩ := w
    rw [List.length_map]
    exact h
  · obtain ⟨p', n', m', ks, hp', hn', rfl, rfl, nd, hlt, hlen⟩ := w
    obtain ⟨rfl, hj⟩ := rng_get hd
    simp only [exs_n, exs_c, cf_nx, cf_rt, cf_bk, cf_ct, ex_nm, setC_eq, ex_tp, ex_sb, asgC_eq, at_nm, at_tp, at_sb, ats_n, ats_c, ex_exp, ex_ret, ex_retN, ex_pass, ex_brk, ex_cont, ex_par, ex_iff, iffC_t, iffC_f, iffC_n, ex_for, forC_eq, turnC_eq, ev_con, ev_glo, ev_var, ev_tup, ev_lst, ev_bin, ev_neg, ev_cmp, ev_sub, ev_call, ev_prim, primC_eq, ev_meth, ev_and, ev_or, ev_not, ev_ife, ifeC_t, ifeC_f, ev_slc, ev_new, newC_f, ev_comp, evs_n, evs_c, evT_eq, endC_rt, endC_nx, lk_int, lk_bl, lk_str, lk_non, lk_tup, lk_lst, lk_dct, lk_scr, lk_ref, fd_v, fd_f, tr_bl, tr_int, tr_non, tr_tup, tr_lst, tR_some, bR_some, vR_some, oI_some, gd_t, o_add, o_sub, o_mul, o_fdiv, o_mod, o_pow, o_addt, o_addl, o_adds, o_neg, c_eq, c_ne, c_lt, c_gt, c_le, c_ge, c_isn, c_notn, q_int, q_str, q_bl, q_map, i_tup, i_lst, ai_0, ai_1, ai_2, ai_3, ai_4, ai_5, ai_6, ai_7, ai_8, ai_9, ai_10, ai_11, bd_ok, bdd_ok, sat_ok, List.getElem?_cons_succ, List.getElem?_cons_zero, List.set_cons_succ, List.set_cons_zero, List.map_cons, List.map_nil, bd_bd, bdd_bd, bdd_bdd, bd_bdd, kc_eq, kd_eq, Int.reduceLT, Int.reduceLE, Int.reduceToNat, Int.reducePow, decide_true, decide_false, Bool.and_true, Bool.true_and, Bool.or_true, Bool.true_or, if_true, if_false, reduceCtorEq, andC_t, andC_f, orC_t, orC_f, Bool.not_true, Bool.not_false, ne_eq, not_true_eq_false, not_false_eq_true, Option.map_some, eq_self, compC_eq, compT_eq, compE_t, compE_f, wp_n, wp_c, evTs_n, evTs_1]
    refine sat_bddq (draw_sat f_draw (hs _) hp' hn' (by omega) fun x p1 n1 m1 hx0 hx1 hp1 hn1 => ?_)
    simp only [exs_n, exs_c, cf_nx, cf_rt, cf_bk, cf_ct, ex_nm, setC_eq, ex_tp, ex_sb, asgC_eq, at_nm, at_tp, at_sb, ats_n, ats_c, ex_exp, ex_ret, ex_retN, ex_pass, ex_brk, ex_cont, ex_par, ex_iff, iffC_t, iffC_f, iffC_n, ex_for, forC_eq, turnC_eq, ev_con, ev_glo, ev_var, ev_tup, ev_lst, ev_bin, ev_neg, ev_cmp, ev_sub, ev_call, ev_prim, primC_eq, ev_meth, ev_and, ev_or, ev_not, ev_ife, ifeC_t, ifeC_f, ev_slc, ev_new, newC_f, ev_comp, evs_n, evs_c, evT_eq, endC_rt, endC_nx, lk_int, lk_bl, lk_str, lk_non, lk_tup, lk_lst, lk_dct, lk_scr, lk_ref, fd_v, fd_f, tr_bl, tr_int, tr_non, tr_tup, tr_lst, tR_some, bR_some, vR_some, oI_some, gd_t, o_add, o_sub, o_mul, o_fdiv, o_mod, o_pow, o_addt, o_addl, o_adds, o_neg, c_eq, c_ne, c_lt, c_gt, c_le, c_ge, c_isn, c_notn, q_int, q_str, q_bl, q_map, i_tup, i_lst, ai_0, ai_1, ai_2, ai_3, ai_4, ai_5, ai_6, ai_7, ai_8, ai_9, ai_10, ai_11, bd_ok, bdd_ok, sat_ok, List.getElem?_cons_succ, List.getElem?_cons_zero, List.set_cons_succ, List.set_cons_zero, List.map_cons, List.map_nil, bd_bd, bdd_bd, bdd_bdd, bd_bdd, kc_eq, kd_eq, Int.reduceLT, Int.reduceLE, Int.reduceToNat, Int.reducePow, decide_true, decide_false, Bool.and_true, Bool.true_and, Bool.or_true, Bool.true_or, if_true, if_false, reduceCtorEq, andC_t, andC_f, orC_t, orC_f, Bool.not_true, Bool.not_false, ne_eq, not_true_eq_false, not_false_eq_true, Option.map_some, eq_self, compC_eq, compT_eq, compE_t, compE_f, wp_n, wp_c, evTs_n, evTs_1, List.set_set]
    by_cases h : 0 < x
    · rw [decide_eq_true h]
      simp only [exs_n, exs_c, cf_nx, cf_rt, cf_bk, cf_ct, ex_nm, setC_eq, ex_tp, ex_sb, asgC_eq, at_nm, at_tp, at_sb, ats_n, ats_c, ex_exp, ex_ret, ex_retN, ex_pass, ex_brk, ex_cont, ex_par, ex_iff, iffC_t, iffC_f, iffC_n, ex_for, forC_eq, turnC_eq, ev_con, ev_glo, ev_var, ev_tup, ev_lst, ev_bin, ev_neg, ev_cmp, ev_sub, ev_call, ev_prim, primC_eq, ev_meth, ev_and, ev_or, ev_not, ev_ife, ifeC_t, ifeC_f, ev_slc, ev_new, newC_f, ev_comp, evs_n, evs_c, evT_eq, endC_rt, endC_nx, lk_int, lk_bl, lk_str, lk_non, lk_tup, lk_lst, lk_dct, lk_scr, lk_ref, fd_v, fd_f, tr_bl, tr_int, tr_non, tr_tup, tr_lst, tR_some, bR_some, vR_some, oI_some, gd_t, o_add, o_sub, o_mul, o_fdiv, o_mod, o_pow, o_addt, o_addl, o_adds, o_neg, c_eq, c_ne, c_lt, c_gt, c_le, c_ge, c_isn, c_notn, q_int, q_str, q_bl, q_map, i_tup, i_lst, ai_0, ai_1, ai_2, ai_3, ai_4, ai_5, ai_6, ai_7, ai_8, ai_9, ai_10, ai_11, bd_ok, bdd_ok, sat_ok, List.getElem?_cons_succ, List.getElem?_cons_zero, List.set_cons_succ, List.set_cons_zero, List.map_cons, List.map_nil, bd_bd, bdd_bd, bdd_bdd, bd_bdd, kc_eq, kd_eq, Int.reduceLT, Int.reduceLE, Int.reduceToNat, Int.reducePow, decide_true, decide_false, Bool.and_true, Bool.true_and, Bool.or_true, Bool.true_or, if_true, if_false, reduceCtorEq, andC_t, andC_f, orC_t, orC_f, Bool.not_true, Bool.not_false, ne_eq, not_true_eq_false, not_false_eq_true, Option.map_some, eq_self, compC_eq, compT_eq, compE_t, compE_f, wp_n, wp_c, evTs_n, evTs_1]
      refine sat_bddq (draw_sat f_draw (hs _) hp1 hn1 (by omega) fun y p2 n2 m2 hy0 hy1 hp2 hn2 => ?_)
      simp only [exs_n, exs_c, cf_nx, cf_rt, cf_bk, cf_ct, ex_nm, setC_eq, ex_tp, ex_sb, asgC_eq, at_nm, at_tp, at_sb, ats_n, ats_c, ex_exp, ex_ret, ex_retN, ex_pass, ex_brk, ex_cont, ex_par, ex_iff, iffC_t, iffC_f, iffC_n, ex_for, forC_eq, turnC_eq, ev_con, ev_glo, ev_var, ev_tup, ev_lst, ev_bin, ev_neg, ev_cmp, ev_sub, ev_call, ev_prim, primC_eq, ev_meth, ev_and, ev_or, ev_not, ev_ife, ifeC_t, ifeC_f, ev_slc, ev_new, newC_f, ev_comp, evs_n, evs_c, evT_eq, endC_rt, endC_nx, lk_int, lk_bl, lk_str, lk_non, lk_tup, lk_lst, lk_dct, lk_scr, lk_ref, fd_v, fd_f, tr_bl, tr_int, tr_non, tr_tup, tr_lst, tR_some, bR_some, vR_some, oI_some, gd_t, o_add, o_sub, o_mul, o_fdiv, o_mod, o_pow, o_addt, o_addl, o_adds, o_neg, c_eq, c_ne, c_lt, c_gt, c_le, c_ge, c_isn, c_notn, q_int, q_str, q_bl, q_map, i_tup, i_lst, ai_0, ai_1, ai_2, ai_3, ai_4, ai_5, ai_6, ai_7, ai_8, ai_9, ai_10, ai_11, bd_ok, bdd_ok, sat_ok, List.getElem?_cons_succ, List.getElem?_cons_zero, List.set_cons_succ, List.set_cons_zero, List.map_cons, List.map_nil, bd_bd, bdd_bd, bdd_bdd, bd_bdd, kc_eq, kd_eq, Int.reduceLT, Int.reduceLE, Int.reduceToNat, Int.reducePow, decide_true, decide_false, Bool.and_true, Bool.true_and, Bool.or_true, Bool.true_or, if_true, if_false, reduceCtorEq, andC_t, andC_f, orC_t, orC_f, Bool.not_true, Bool.not_false, ne_eq, not_true_eq_false, not_false_eq_true, Option.map_some, eq_self, compC_eq, compT_eq, compE_t, compE_f, wp_n, wp_c, evTs_n, evTs_1, List.set_set]
      obtain ⟨k1, k2⟩ := kept_snoc (v := y) nd hlt
      exact ⟨p2, n2, m2, ks ++ [((j : Int), y)], hp2, hn2, rfl, by rw [List.map_append] <;> rfl, k1, k2, by rw [List.length_append]; simp; omega⟩
    · rw [decide_eq_false h]
      simp only [exs_n, exs_c, cf_nx, cf_rt, cf_bk, cf_ct, ex_nm, setC_eq, ex_tp, ex_sb, asgC_eq, at_nm, at_tp, at_sb, ats_n, ats_c, ex_exp, ex_ret, ex_retN, ex_pass, ex_brk, ex_cont, ex_par, ex_iff, iffC_t, iffC_f, iffC_n, ex_for, forC_eq, turnC_eq, ev_con, ev_glo, ev_var, ev_tup, ev_lst, ev_bin, ev_neg, ev_cmp, ev_sub, ev_call, ev_prim, primC_eq, ev_meth, ev_and, ev_or, ev_not, ev_ife, ifeC_t, ifeC_f, ev_slc, ev_new, newC_f, ev_comp, evs_n, evs_c, evT_eq, endC_rt, endC_nx, lk_int, lk_bl, lk_str, lk_non, lk_tup, lk_lst, lk_dct, lk_scr, lk_ref, fd_v, fd_f, tr_bl, tr_int, tr_non, tr_tup, tr_lst, tR_some, bR_some, vR_some, oI_some, gd_t, o_add, o_sub, o_mul, o_fdiv, o_mod, o_pow, o_addt, o_addl, o_adds, o_neg, c_eq, c_ne, c_lt, c_gt, c_le, c_ge, c_isn, c_notn, q_int, q_str, q_bl, q_map, i_tup, i_lst, ai_0, ai_1, ai_2, ai_3, ai_4, ai_5, ai_6, ai_7, ai_8, ai_9, ai_10, ai_11, bd_ok, bdd_ok, sat_ok, List.getElem?_cons_succ, List.getElem?_cons_zero, List.set_cons_succ, List.set_cons_zero, List.map_cons, List.map_nil, bd_bd, bdd_bd, bdd_bdd, bd_bdd, kc_eq, kd_eq, Int.reduceLT, Int.reduceLE, Int.reduceToNat, Int.reducePow, decide_true, decide_false, Bool.and_true, Bool.true_and, Bool.or_true, Bool.true_or, if_true, if_false, reduceCtorEq, andC_t, andC_f, orC_t, orC_f, Bool.not_true, Bool.not_false, ne_eq, not_true_eq_false, not_false_eq_true, Option.map_some, eq_self, compC_eq, compT_eq, compE_t, compE_f, wp_n, wp_c, evTs_n, evTs_1]
      exact ⟨p1, n1, m1, ks, hp1, hn1, rfl, rfl, nd, fun q hq => by have := hlt q hq; omega, by omega⟩
  · obtain ⟨p1, n1, m1, ks, hp1, hn1, rfl, rfl, nd, _, _⟩ := w
    simp only [exs_n, exs_c, cf_nx, cf_rt, cf_bk, cf_ct, ex_nm, setC_eq, ex_tp, ex_sb, asgC_eq, at_nm, at_tp, at_sb, ats_n, ats_c, ex_exp, ex_ret, ex_retN, ex_pass, ex_brk, ex_cont, ex_par, ex_iff, iffC_t, iffC_f, iffC_n, ex_for, forC_eq, turnC_eq, ev_con, ev_glo, ev_var, ev_tup, ev_lst, ev_bin, ev_neg, ev_cmp, ev_sub, ev_call, ev_prim, primC_eq, ev_meth, ev_and, ev_or, ev_not, ev_ife, ifeC_t, ifeC_f, ev_slc, ev_new, newC_f, ev_comp, evs_n, evs_c, evT_eq, endC_rt, endC_nx, lk_int, lk_bl, lk_str, lk_non, lk_tup, lk_lst, lk_dct, lk_scr, lk_ref, fd_v, fd_f, tr_bl, tr_int, tr_non, tr_tup, tr_lst, tR_some, bR_some, vR_some, oI_some, gd_t, o_add, o_sub, o_mul, o_fdiv, o_mod, o_pow, o_addt, o_addl, o_adds, o_neg, c_eq, c_ne, c_lt, c_gt, c_le, c_ge, c_isn, c_notn, q_int, q_str, q_bl, q_map, i_tup, i_lst, ai_0, ai_1, ai_2, ai_3, ai_4, ai_5, ai_6, ai_7, ai_8, ai_9, ai_10, ai_11, bd_ok, bdd_ok, sat_ok, List.getElem?_cons_succ, List.getElem?_cons_zero, List.set_cons_succ, List.set_cons_zero, List.map_cons, List.map_nil, bd_bd, bdd_bd, bdd_bdd, bd_bdd, kc_eq, kd_eq, Int.reduceLT, Int.reduceLE, Int.reduceToNat, Int.reducePow, decide_true, decide_false, Bool.and_true, Bool.true_and, Bool.or_true, Bool.true_or, if_true, if_false, reduceCtorEq, andC_t, andC_f, orC_t, orC_f, Bool.not_true, Bool.not_false, ne_eq, not_true_eq_false, not_false_eq_true, Option.map_some, eq_self, compC_eq, compT_eq, compE_t, compE_f, wp_n, wp_c, evTs_n, evTs_1, q_tuple]
    refine sat_bddq (draw_sat f_draw (hs _) hp1 hn1 (by omega) fun x p2 n2 m2 hx0 hx1 hp2 hn2 => ?_)
    simp only [exs_n, exs_c, cf_nx, cf_rt, cf_bk, cf_ct, ex_nm, setC_eq, ex_tp, ex_sb, asgC_eq, at_nm, at_tp, at_sb, ats_n, ats_c, ex_exp, ex_ret, ex_retN, ex_pass, ex_brk, ex_cont, ex_par, ex_iff, iffC_t, iffC_f, iffC_n, ex_for, forC_eq, turnC_eq, ev_con, ev_glo, ev_var, ev_tup, ev_lst, ev_bin, ev_neg, ev_cmp, ev_sub, ev_call, ev_prim, primC_eq, ev_meth, ev_and, ev_or, ev_not, ev_ife, ifeC_t, ifeC_f, ev_slc, ev_new, newC_f, ev_comp, evs_n, evs_c, evT_eq, endC_rt, endC_nx, lk_int, lk_bl, lk_str, lk_non, lk_tup, lk_lst, lk_dct, lk_scr, lk_ref, fd_v, fd_f, tr_bl, tr_int, tr_non, tr_tup, tr_lst, tR_some, bR_some, vR_some, oI_some, gd_t, o_add, o_sub, o_mul, o_fdiv, o_mod, o_pow, o_addt, o_addl, o_adds, o_neg, c_eq, c_ne, c_lt, c_gt, c_le, c_ge, c_isn, c_notn, q_int, q_str, q_bl, q_map, i_tup, i_lst, ai_0, ai_1, ai_2, ai_3, ai_4, ai_5, ai_6, ai_7, ai_8, ai_9, ai_10, ai_11, bd_ok, bdd_ok, sat_ok, List.getElem?_cons_succ, List.getElem?_cons_zero, List.set_cons_succ, List.set_cons_zero, List.map_cons, List.map_nil, bd_bd, bdd_bd, bdd_bdd, bd_bdd, kc_eq, kd_eq, Int.reduceLT, Int.reduceLE, Int.reduceToNat, Int.reducePow, decide_true, decide_false, Bool.and_true, Bool.true_and, Bool.or_true, Bool.true_or, if_true, if_false, reduceCtorEq, andC_t, andC_f, orC_t, orC_f, Bool.not_true, Bool.not_false, ne_eq, not_true_eq_false, not_false_eq_true, Option.map_some, eq_self, compC_eq, compT_eq, compE_t, compE_f, wp_n, wp_c, evTs_n, evTs_1, List.set_set]
    have gcyc : ∀ (C : PyI.Ctx) (ρ : PyI.Env) (N : Store), ρ.length = 14 → ∀ d ∈ xs, (compC C [13] (.nm 13) .nil (.bin .mul (.sub (.var 13) (.con (.int 0))) (.sub (.var 13) (.con (.int 1)))) ρ d N).sat fun f N' => f = some (gY d) ∧ N' = N := by
      intro C ρ N hρ d hd
      obtain ⟨p, i, ps, ls, cs, rfl, ok, b1, b2, b3, b4⟩ := hx d hd
      have gp : inW p = true := inW_i (by have := ok.p1; omega) (by have := ok.p2; omega)
      have e : (((ρ.set 13 none).set 13 (some (sysD p i ps ls cs)))[13]? : Option (Option D)) = some (some (sysD p i ps ls cs)) := List.getElem?_set_self (by rw [List.length_set]; omega)
      simp only [exs_n, exs_c, cf_nx, cf_rt, cf_bk, cf_ct, ex_nm, setC_eq, ex_tp, ex_sb, asgC_eq, at_nm, at_tp, at_sb, ats_n, ats_c, ex_exp, ex_ret, ex_retN, ex_pass, ex_brk, ex_cont, ex_par, ex_iff, iffC_t, iffC_f, iffC_n, ex_for, forC_eq, turnC_eq, ev_con, ev_glo, ev_var, ev_tup, ev_lst, ev_bin, ev_neg, ev_cmp, ev_sub, ev_call, ev_prim, primC_eq, ev_meth, ev_and, ev_or, ev_not, ev_ife, ifeC_t, ifeC_f, ev_slc, ev_new, newC_f, ev_comp, evs_n, evs_c, evT_eq, endC_rt, endC_nx, lk_int, lk_bl, lk_str, lk_non, lk_tup, lk_lst, lk_dct, lk_scr, lk_ref, fd_v, fd_f, tr_bl, tr_int, tr_non, tr_tup, tr_lst, tR_some, bR_some, vR_some, oI_some, gd_t, o_add, o_sub, o_mul, o_fdiv, o_mod, o_pow, o_addt, o_addl, o_adds, o_neg, c_eq, c_ne, c_lt, c_gt, c_le, c_ge, c_isn, c_notn, q_int, q_str, q_bl, q_map, i_tup, i_lst, ai_0, ai_1, ai_2, ai_3, ai_4, ai_5, ai_6, ai_7, ai_8, ai_9, ai_10, ai_11, bd_ok, bdd_ok, sat_ok, List.getElem?_cons_succ, List.getElem?_cons_zero, List.set_cons_succ, List.set_cons_zero, List.map_cons, List.map_nil, bd_bd, bdd_bd, bdd_bdd, bd_bdd, kc_eq, kd_eq, Int.reduceLT, Int.reduceLE, Int.reduceToNat, Int.reducePow, decide_true, decide_false, Bool.and_true, Bool.true_and, Bool.or_true, Bool.true_or, if_true, if_false, reduceCtorEq, andC_t, andC_f, orC_t, orC_f, Bool.not_true, Bool.not_false, ne_eq, not_true_eq_false, not_false_eq_true, Option.map_some, eq_self, compC_eq, compT_eq, compE_t, compE_f, wp_n, wp_c, evTs_n, evTs_1, e, lks, s0, s1, gp, Bool.true_or]
      exact ⟨by rw [Int.mul_comm] <;> rfl, by trivial⟩
    have okg : ∀ d : D, okG [(s, .lst xs)] (M.set r d) = true := fun d => by simp [okG, hS' d]
    refine iff_i (fun h => ?_) (fun h => ?_)
    · simp only [exs_n, exs_c, cf_nx, cf_rt, cf_bk, cf_ct, ex_nm, setC_eq, ex_tp, ex_sb, asgC_eq, at_nm, at_tp, at_sb, ats_n, ats_c, ex_exp, ex_ret, ex_retN, ex_pass, ex_brk, ex_cont, ex_par, ex_iff, iffC_t, iffC_f, iffC_n, ex_for, forC_eq, turnC_eq, ev_con, ev_glo, ev_var, ev_tup, ev_lst, ev_bin, ev_neg, ev_cmp, ev_sub, ev_call, ev_prim, primC_eq, ev_meth, ev_and, ev_or, ev_not, ev_ife, ifeC_t, ifeC_f, ev_slc, ev_new, newC_f, ev_comp, evs_n, evs_c, evT_eq, endC_rt, endC_nx, lk_int, lk_bl, lk_str, lk_non, lk_tup, lk_lst, lk_dct, lk_scr, lk_ref, fd_v, fd_f, tr_bl, tr_int, tr_non, tr_tup, tr_lst, tR_some, bR_some, vR_some, oI_some, gd_t, o_add, o_sub, o_mul, o_fdiv, o_mod, o_pow, o_addt, o_addl, o_adds, o_neg, c_eq, c_ne, c_lt, c_gt, c_le, c_ge, c_isn, c_notn, q_int, q_str, q_bl, q_map, i_tup, i_lst, ai_0, ai_1, ai_2, ai_3, ai_4, ai_5, ai_6, ai_7, ai_8, ai_9, ai_10, ai_11, bd_ok, bdd_ok, sat_ok, List.getElem?_cons_succ, List.getElem?_cons_zero, List.set_cons_succ, List.set_cons_zero, List.map_cons, List.map_nil, bd_bd, bdd_bd, bdd_bdd, bd_bdd, kc_eq, kd_eq, Int.reduceLT, Int.reduceLE, Int.reduceToNat, Int.reducePow, decide_true, decide_false, Bool.and_true, Bool.true_and, Bool.or_true, Bool.true_or, if_true, if_false, reduceCtorEq, andC_t, andC_f, orC_t, orC_f, Bool.not_true, Bool.not_false, ne_eq, not_true_eq_false, not_false_eq_true, Option.map_some, eq_self, compC_eq, compT_eq, compE_t, compE_f, wp_n, wp_c, evTs_n, evTs_1, hS', getD_some', w_lstr]
      refine comp_map gY (gcyc _ _ _ rfl) (by omega) (okg _) ?_
      obtain ⟨c0, crest, hc⟩ : ∃ c0 cr, xs.map cycD = c0 :: cr := by
        cases xs with
        | nil => simp at hx0
        | cons a b => exact ⟨_, _, rfl⟩
      have hmap : xs.map gY = (c0 :: crest).map .int := by rw [← hc, List.map_map] <;> rfl
      rw [hmap]
      simp only [exs_n, exs_c, cf_nx, cf_rt, cf_bk, cf_ct, ex_nm, setC_eq, ex_tp, ex_sb, asgC_eq, at_nm, at_tp, at_sb, ats_n, ats_c, ex_exp, ex_ret, ex_retN, ex_pass, ex_brk, ex_cont, ex_par, ex_iff, iffC_t, iffC_f, iffC_n, ex_for, forC_eq, turnC_eq, ev_con, ev_glo, ev_var, ev_tup, ev_lst, ev_bin, ev_neg, ev_cmp, ev_sub, ev_call, ev_prim, primC_eq, ev_meth, ev_and, ev_or, ev_not, ev_ife, ifeC_t, ifeC_f, ev_slc, ev_new, newC_f, ev_comp, evs_n, evs_c, evT_eq, endC_rt, endC_nx, lk_int, lk_bl, lk_str, lk_non, lk_tup, lk_lst, lk_dct, lk_scr, lk_ref, fd_v, fd_f, tr_bl, tr_int, tr_non, tr_tup, tr_lst, tR_some, bR_some, vR_some, oI_some, gd_t, o_add, o_sub, o_mul, o_fdiv, o_mod, o_pow, o_addt, o_addl, o_adds, o_neg, c_eq, c_ne, c_lt, c_gt, c_le, c_ge, c_isn, c_notn, q_int, q_str, q_bl, q_map, i_tup, i_lst, ai_0, ai_1, ai_2, ai_3, ai_4, ai_5, ai_6, ai_7, ai_8, ai_9, ai_10, ai_11, bd_ok, bdd_ok, sat_ok, List.getElem?_cons_succ, List.getElem?_cons_zero, List.set_cons_succ, List.set_cons_zero, List.map_cons, List.map_nil, bd_bd, bdd_bd, bdd_bdd, bd_bdd, kc_eq, kd_eq, Int.reduceLT, Int.reduceLE, Int.reduceToNat, Int.reducePow, decide_true, decide_false, Bool.and_true, Bool.true_and, Bool.or_true, Bool.true_or, if_true, if_false, reduceCtorEq, andC_t, andC_f, orC_t, orC_f, Bool.not_true, Bool.not_false, ne_eq, not_true_eq_false, not_false_eq_true, Option.map_some, eq_self, compC_eq, compT_eq, compE_t, compE_f, wp_n, wp_c, evTs_n, evTs_1, q_min1]
      have hL := minI_ok crest c0
      generalize hLe : minI c0 crest = L at hL
      have hLx : ∀ d ∈ xs, L ≤ cycD d := fun d hd => by
        have : cycD d ∈ c0 :: crest := by rw [← hc]; exact List.mem_map_of_mem hd
        rcases List.mem_cons.mp this with e | e
        · rw [e]; exact hL.1
        · exact hL.2.1 _ e
      have hLb : 1 ≤ L ∧ L ≤ 400 := by
        have : L ∈ xs.map cycD := by
          rw [hc]
          rcases hL.2.2 with e | e
          · rw [e]; exact List.mem_cons_self
          · exact List.mem_cons_of_mem _ e
        obtain ⟨d, hd, e⟩ := List.mem_map.mp this
        rw [← e]
        exact cyc_bd (hx d hd)
      have gL : inW L = true := inW_i (by omega) (by omega)
      refine sat_bddq (draw_sat f_draw (hs _) hp2 hn2 (by omega) fun w p3 n3 m3 hw0 hw1 hp3 hn3 => ?_)
      simp only [exs_n, exs_c, cf_nx, cf_rt, cf_bk, cf_ct, ex_nm, setC_eq, ex_tp, ex_sb, asgC_eq, at_nm, at_tp, at_sb, ats_n, ats_c, ex_exp, ex_ret, ex_retN, ex_pass, ex_brk, ex_cont, ex_par, ex_iff, iffC_t, iffC_f, iffC_n, ex_for, forC_eq, turnC_eq, ev_con, ev_glo, ev_var, ev_tup, ev_lst, ev_bin, ev_neg, ev_cmp, ev_sub, ev_call, ev_prim, primC_eq, ev_meth, ev_and, ev_or, ev_not, ev_ife, ifeC_t, ifeC_f, ev_slc, ev_new, newC_f, ev_comp, evs_n, evs_c, evT_eq, endC_rt, endC_nx, lk_int, lk_bl, lk_str, lk_non, lk_tup, lk_lst, lk_dct, lk_scr, lk_ref, fd_v, fd_f, tr_bl, tr_int, tr_non, tr_tup, tr_lst, tR_some, bR_some, vR_some, oI_some, gd_t, o_add, o_sub, o_mul, o_fdiv, o_mod, o_pow, o_addt, o_addl, o_adds, o_neg, c_eq, c_ne, c_lt, c_gt, c_le, c_ge, c_isn, c_notn, q_int, q_str, q_bl, q_map, i_tup, i_lst, ai_0, ai_1, ai_2, ai_3, ai_4, ai_5, ai_6, ai_7, ai_8, ai_9, ai_10, ai_11, bd_ok, bdd_ok, sat_ok, List.getElem?_cons_succ, List.getElem?_cons_zero, List.set_cons_succ, List.set_cons_zero, List.map_cons, List.map_nil, bd_bd, bdd_bd, bdd_bdd, bd_bdd, kc_eq, kd_eq, Int.reduceLT, Int.reduceLE, Int.reduceToNat, Int.reducePow, decide_true, decide_false, Bool.and_true, Bool.true_and, Bool.or_true, Bool.true_or, if_true, if_false, reduceCtorEq, andC_t, andC_f, orC_t, orC_f, Bool.not_true, Bool.not_false, ne_eq, not_true_eq_false, not_false_eq_true, Option.map_some, eq_self, compC_eq, compT_eq, compE_t, compE_f, wp_n, wp_c, evTs_n, evTs_1, List.set_set, gL, Bool.true_or]
      refine sat_bddq (draw_sat f_draw (hs _) hp3 hn3 (by omega) fun v p4 n4 m4 hv0 hv1 hp4 hn4 => ?_)
      simp only [exs_n, exs_c, cf_nx, cf_rt, cf_bk, cf_ct, ex_nm, setC_eq, ex_tp, ex_sb, asgC_eq, at_nm, at_tp, at_sb, ats_n, ats_c, ex_exp, ex_ret, ex_retN, ex_pass, ex_brk, ex_cont, ex_par, ex_iff, iffC_t, iffC_f, iffC_n, ex_for, forC_eq, turnC_eq, ev_con, ev_glo, ev_var, ev_tup, ev_lst, ev_bin, ev_neg, ev_cmp, ev_sub, ev_call, ev_prim, primC_eq, ev_meth, ev_and, ev_or, ev_not, ev_ife, ifeC_t, ifeC_f, ev_slc, ev_new, newC_f, ev_comp, evs_n, evs_c, evT_eq, endC_rt, endC_nx, lk_int, lk_bl, lk_str, lk_non, lk_tup, lk_lst, lk_dct, lk_scr, lk_ref, fd_v, fd_f, tr_bl, tr_int, tr_non, tr_tup, tr_lst, tR_some, bR_some, vR_some, oI_some, gd_t, o_add, o_sub, o_mul, o_fdiv, o_mod, o_pow, o_addt, o_addl, o_adds, o_neg, c_eq, c_ne, c_lt, c_gt, c_le, c_ge, c_isn, c_notn, q_int, q_str, q_bl, q_map, i_tup, i_lst, ai_0, ai_1, ai_2, ai_3, ai_4, ai_5, ai_6, ai_7, ai_8, ai_9, ai_10, ai_11, bd_ok, bdd_ok, sat_ok, List.getElem?_cons_succ, List.getElem?_cons_zero, List.set_cons_succ, List.set_cons_zero, List.map_cons, List.map_nil, bd_bd, bdd_bd, bdd_bdd, bd_bdd, kc_eq, kd_eq, Int.reduceLT, Int.reduceLE, Int.reduceToNat, Int.reducePow, decide_true, decide_false, Bool.and_true, Bool.true_and, Bool.or_true, Bool.true_or, if_true, if_false, reduceCtorEq, andC_t, andC_f, orC_t, orC_f, Bool.not_true, Bool.not_false, ne_eq, not_true_eq_false, not_false_eq_true, Option.map_some, eq_self, compC_eq, compT_eq, compE_t, compE_f, wp_n, wp_c, evTs_n, evTs_1, List.set_set]
      have hints : ∀ d ∈ [D.int (L - 1), D.int v], ∃ z : Int, d = .int z ∧ z ≤ L - 1 := by
        intro d hd
        simp only [List.mem_cons, List.not_mem_nil, or_false] at hd
        rcases hd with rfl | rfl
        · exact ⟨_, rfl, by omega⟩
        · exact ⟨_, rfl, by omega⟩
      refine sat_bddq (pick_sat f_pick f_draw (hs _) hp4 hn4 (.inl menu_lst) (by simp) (by simp) (int_pick fun d hd => let ⟨z, e, _⟩ := hints d hd; ⟨z, e⟩) fun j2 d2 p5 n5 m5 hd2 hp5 hn5 => ?_)
      obtain ⟨z, rfl, hz⟩ := hints d2 (List.mem_of_getElem? hd2)
      simp only [exs_n, exs_c, cf_nx, cf_rt, cf_bk, cf_ct, ex_nm, setC_eq, ex_tp, ex_sb, asgC_eq, at_nm, at_tp, at_sb, ats_n, ats_c, ex_exp, ex_ret, ex_retN, ex_pass, ex_brk, ex_cont, ex_par, ex_iff, iffC_t, iffC_f, iffC_n, ex_for, forC_eq, turnC_eq, ev_con, ev_glo, ev_var, ev_tup, ev_lst, ev_bin, ev_neg, ev_cmp, ev_sub, ev_call, ev_prim, primC_eq, ev_meth, ev_and, ev_or, ev_not, ev_ife, ifeC_t, ifeC_f, ev_slc, ev_new, newC_f, ev_comp, evs_n, evs_c, evT_eq, endC_rt, endC_nx, lk_int, lk_bl, lk_str, lk_non, lk_tup, lk_lst, lk_dct, lk_scr, lk_ref, fd_v, fd_f, tr_bl, tr_int, tr_non, tr_tup, tr_lst, tR_some, bR_some, vR_some, oI_some, gd_t, o_add, o_sub, o_mul, o_fdiv, o_mod, o_pow, o_addt, o_addl, o_adds, o_neg, c_eq, c_ne, c_lt, c_gt, c_le, c_ge, c_isn, c_notn, q_int, q_str, q_bl, q_map, i_tup, i_lst, ai_0, ai_1, ai_2, ai_3, ai_4, ai_5, ai_6, ai_7, ai_8, ai_9, ai_10, ai_11, bd_ok, bdd_ok, sat_ok, List.getElem?_cons_succ, List.getElem?_cons_zero, List.set_cons_succ, List.set_cons_zero, List.map_cons, List.map_nil, bd_bd, bdd_bd, bdd_bdd, bd_bdd, kc_eq, kd_eq, Int.reduceLT, Int.reduceLE, Int.reduceToNat, Int.reducePow, decide_true, decide_false, Bool.and_true, Bool.true_and, Bool.or_true, Bool.true_or, if_true, if_false, reduceCtorEq, andC_t, andC_f, orC_t, orC_f, Bool.not_true, Bool.not_false, ne_eq, not_true_eq_false, not_false_eq_true, Option.map_some, eq_self, compC_eq, compT_eq, compE_t, compE_f, wp_n, wp_c, evTs_n, evTs_1, List.set_set, w_lst]
      have hlw : L * w ≤ L := by
        have : w = 0 ∨ w = 1 := by omega
        rcases this with rfl | rfl
        · rw [Int.mul_zero]; omega
        · rw [Int.mul_one]; omega
      refine comp_map (gR (L * w + z) fun _ => 0) (fun d hd => ?_) (by omega) okG_n ?_
      · obtain ⟨j, rfl, hj⟩ := ho d hd
        simp only [exs_n, exs_c, cf_nx, cf_rt, cf_bk, cf_ct, ex_nm, setC_eq, ex_tp, ex_sb, asgC_eq, at_nm, at_tp, at_sb, ats_n, ats_c, ex_exp, ex_ret, ex_retN, ex_pass, ex_brk, ex_cont, ex_par, ex_iff, iffC_t, iffC_f, iffC_n, ex_for, forC_eq, turnC_eq, ev_con, ev_glo, ev_var, ev_tup, ev_lst, ev_bin, ev_neg, ev_cmp, ev_sub, ev_call, ev_prim, primC_eq, ev_meth, ev_and, ev_or, ev_not, ev_ife, ifeC_t, ifeC_f, ev_slc, ev_new, newC_f, ev_comp, evs_n, evs_c, evT_eq, endC_rt, endC_nx, lk_int, lk_bl, lk_str, lk_non, lk_tup, lk_lst, lk_dct, lk_scr, lk_ref, fd_v, fd_f, tr_bl, tr_int, tr_non, tr_tup, tr_lst, tR_some, bR_some, vR_some, oI_some, gd_t, o_add, o_sub, o_mul, o_fdiv, o_mod, o_pow, o_addt, o_addl, o_adds, o_neg, c_eq, c_ne, c_lt, c_gt, c_le, c_ge, c_isn, c_notn, q_int, q_str, q_bl, q_map, i_tup, i_lst, ai_0, ai_1, ai_2, ai_3, ai_4, ai_5, ai_6, ai_7, ai_8, ai_9, ai_10, ai_11, bd_ok, bdd_ok, sat_ok, List.getElem?_cons_succ, List.getElem?_cons_zero, List.set_cons_succ, List.set_cons_zero, List.map_cons, List.map_nil, bd_bd, bdd_bd, bdd_bdd, bd_bdd, kc_eq, kd_eq, Int.reduceLT, Int.reduceLE, Int.reduceToNat, Int.reducePow, decide_true, decide_false, Bool.and_true, Bool.true_and, Bool.or_true, Bool.true_or, if_true, if_false, reduceCtorEq, andC_t, andC_f, orC_t, orC_f, Bool.not_true, Bool.not_false, ne_eq, not_true_eq_false, not_false_eq_true, Option.map_some, eq_self, compC_eq, compT_eq, compE_t, compE_f, wp_n, wp_c, evTs_n, evTs_1]
        exact ⟨by trivial, by trivial⟩
      simp only [exs_n, exs_c, cf_nx, cf_rt, cf_bk, cf_ct, ex_nm, setC_eq, ex_tp, ex_sb, asgC_eq, at_nm, at_tp, at_sb, ats_n, ats_c, ex_exp, ex_ret, ex_retN, ex_pass, ex_brk, ex_cont, ex_par, ex_iff, iffC_t, iffC_f, iffC_n, ex_for, forC_eq, turnC_eq, ev_con, ev_glo, ev_var, ev_tup, ev_lst, ev_bin, ev_neg, ev_cmp, ev_sub, ev_call, ev_prim, primC_eq, ev_meth, ev_and, ev_or, ev_not, ev_ife, ifeC_t, ifeC_f, ev_slc, ev_new, newC_f, ev_comp, evs_n, evs_c, evT_eq, endC_rt, endC_nx, lk_int, lk_bl, lk_str, lk_non, lk_tup, lk_lst, lk_dct, lk_scr, lk_ref, fd_v, fd_f, tr_bl, tr_int, tr_non, tr_tup, tr_lst, tR_some, bR_some, vR_some, oI_some, gd_t, o_add, o_sub, o_mul, o_fdiv, o_mod, o_pow, o_addt, o_addl, o_adds, o_neg, c_eq, c_ne, c_lt, c_gt, c_le, c_ge, c_isn, c_notn, q_int, q_str, q_bl, q_map, i_tup, i_lst, ai_0, ai_1, ai_2, ai_3, ai_4, ai_5, ai_6, ai_7, ai_8, ai_9, ai_10, ai_11, bd_ok, bdd_ok, sat_ok, List.getElem?_cons_succ, List.getElem?_cons_zero, List.set_cons_succ, List.set_cons_zero, List.map_cons, List.map_nil, bd_bd, bdd_bd, bdd_bdd, bd_bdd, kc_eq, kd_eq, Int.reduceLT, Int.reduceLE, Int.reduceToNat, Int.reducePow, decide_true, decide_false, Bool.and_true, Bool.true_and, Bool.or_true, Bool.true_or, if_true, if_false, reduceCtorEq, andC_t, andC_f, orC_t, orC_f, Bool.not_true, Bool.not_false, ne_eq, not_true_eq_false, not_false_eq_true, Option.map_some, eq_self, compC_eq, compT_eq, compE_t, compE_f, wp_n, wp_c, evTs_n, evTs_1]
      refine tail_sat hx hM hS hrs nd (fun d hd => ?_) (q _ _ _ hp5 hn5)
      obtain ⟨d0, hd0, rfl⟩ := List.mem_map.mp hd
      obtain ⟨j, rfl, hj⟩ := ho d0 hd0
      refine ⟨j, _, _, xs[j], rfl, List.getElem?_eq_getElem hj, ?_⟩
      have := hLx _ (List.getElem_mem hj)
      show L * w + z - 0 ≤ 2 * cycD xs[j] - 1
      omega
    · simp only [exs_n, exs_c, cf_nx, cf_rt, cf_bk, cf_ct, ex_nm, setC_eq, ex_tp, ex_sb, asgC_eq, at_nm, at_tp, at_sb, ats_n, ats_c, ex_exp, ex_ret, ex_retN, ex_pass, ex_brk, ex_cont, ex_par, ex_iff, iffC_t, iffC_f, iffC_n, ex_for, forC_eq, turnC_eq, ev_con, ev_glo, ev_var, ev_tup, ev_lst, ev_bin, ev_neg, ev_cmp, ev_sub, ev_call, ev_prim, primC_eq, ev_meth, ev_and, ev_or, ev_not, ev_ife, ifeC_t, ifeC_f, ev_slc, ev_new, newC_f, ev_comp, evs_n, evs_c, evT_eq, endC_rt, endC_nx, lk_int, lk_bl, lk_str, lk_non, lk_tup, lk_lst, lk_dct, lk_scr, lk_ref, fd_v, fd_f, tr_bl, tr_int, tr_non, tr_tup, tr_lst, tR_some, bR_some, vR_some, oI_some, gd_t, o_add, o_sub, o_mul, o_fdiv, o_mod, o_pow, o_addt, o_addl, o_adds, o_neg, c_eq, c_ne, c_lt, c_gt, c_le, c_ge, c_isn, c_notn, q_int, q_str, q_bl, q_map, i_tup, i_lst, ai_0, ai_1, ai_2, ai_3, ai_4, ai_5, ai_6, ai_7, ai_8, ai_9, ai_10, ai_11, bd_ok, bdd_ok, sat_ok, List.getElem?_cons_succ, List.getElem?_cons_zero, List.set_cons_succ, List.set_cons_zero, List.map_cons, List.map_nil, bd_bd, bdd_bd, bdd_bdd, bd_bdd, kc_eq, kd_eq, Int.reduceLT, Int.reduceLE, Int.reduceToNat, Int.reducePow, decide_true, decide_false, Bool.and_true, Bool.true_and, Bool.or_true, Bool.true_or, if_true, if_false, reduceCtorEq, andC_t, andC_f, orC_t, orC_f, Bool.not_true, Bool.not_false, ne_eq, not_true_eq_false, not_false_eq_true, Option.map_some, eq_self, compC_eq, compT_eq, compE_t, compE_f, wp_n, wp_c, evTs_n, evTs_1]
      refine sat_bddq (ticked_sat (by omega) (by omega) hx (by omega) (by omega) (hs _) (hS' _) hrs hp2 hn2 fun tick p3 n3 m3 hp3 hn3 => ?_)
      simp only [exs_n, exs_c, cf_nx, cf_rt, cf_bk, cf_ct, ex_nm, setC_eq, ex_tp, ex_sb, asgC_eq, at_nm, at_tp, at_sb, ats_n, ats_c, ex_exp, ex_ret, ex_retN, ex_pass, ex_brk, ex_cont, ex_par, ex_iff, iffC_t, iffC_f, iffC_n, ex_for, forC_eq, turnC_eq, ev_con, ev_glo, ev_var, ev_tup, ev_lst, ev_bin, ev_neg, ev_cmp, ev_sub, ev_call, ev_prim, primC_eq, ev_meth, ev_and, ev_or, ev_not, ev_ife, ifeC_t, ifeC_f, ev_slc, ev_new, newC_f, ev_comp, evs_n, evs_c, evT_eq, endC_rt, endC_nx, lk_int, lk_bl, lk_str, lk_non, lk_tup, lk_lst, lk_dct, lk_scr, lk_ref, fd_v, fd_f, tr_bl, tr_int, tr_non, tr_tup, tr_lst, tR_some, bR_some, vR_some, oI_some, gd_t, o_add, o_sub, o_mul, o_fdiv, o_mod, o_pow, o_addt, o_addl, o_adds, o_neg, c_eq, c_ne, c_lt, c_gt, c_le, c_ge, c_isn, c_notn, q_int, q_str, q_bl, q_map, i_tup, i_lst, ai_0, ai_1, ai_2, ai_3, ai_4, ai_5, ai_6, ai_7, ai_8, ai_9, ai_10, ai_11, bd_ok, bdd_ok, sat_ok, List.getElem?_cons_succ, List.getElem?_cons_zero, List.set_cons_succ, List.set_cons_zero, List.map_cons, List.map_nil, bd_bd, bdd_bd, bdd_bdd, bd_bdd, kc_eq, kd_eq, Int.reduceLT, Int.reduceLE, Int.reduceToNat, Int.reducePow, decide_true, decide_false, Bool.and_true, Bool.true_and, Bool.or_true, Bool.true_or, if_true, if_false, reduceCtorEq, andC_t, andC_f, orC_t, orC_f, Bool.not_true, Bool.not_false, ne_eq, not_true_eq_false, not_false_eq_true, Option.map_some, eq_self, compC_eq, compT_eq, compE_t, compE_f, wp_n, wp_c, evTs_n, evTs_1, List.set_set]
      refine sat_bddq (draw_sat f_draw (hs _) hp3 hn3 (by omega) fun b p4 n4 m4 hb0 hb1 hp4 hn4 => ?_)
      simp only [exs_n, exs_c, cf_nx, cf_rt, cf_bk, cf_ct, ex_nm, setC_eq, ex_tp, ex_sb, asgC_eq, at_nm, at_tp, at_sb, ats_n, ats_c, ex_exp, ex_ret, ex_retN, ex_pass, ex_brk, ex_cont, ex_par, ex_iff, iffC_t, iffC_f, iffC_n, ex_for, forC_eq, turnC_eq, ev_con, ev_glo, ev_var, ev_tup, ev_lst, ev_bin, ev_neg, ev_cmp, ev_sub, ev_call, ev_prim, primC_eq, ev_meth, ev_and, ev_or, ev_not, ev_ife, ifeC_t, ifeC_f, ev_slc, ev_new, newC_f, ev_comp, evs_n, evs_c, evT_eq, endC_rt, endC_nx, lk_int, lk_bl, lk_str, lk_non, lk_tup, lk_lst, lk_dct, lk_scr, lk_ref, fd_v, fd_f, tr_bl, tr_int, tr_non, tr_tup, tr_lst, tR_some, bR_some, vR_some, oI_some, gd_t, o_add, o_sub, o_mul, o_fdiv, o_mod, o_pow, o_addt, o_addl, o_adds, o_neg, c_eq, c_ne, c_lt, c_gt, c_le, c_ge, c_isn, c_notn, q_int, q_str, q_bl, q_map, i_tup, i_lst, ai_0, ai_1, ai_2, ai_3, ai_4, ai_5, ai_6, ai_7, ai_8, ai_9, ai_10, ai_11, bd_ok, bdd_ok, sat_ok, List.getElem?_cons_succ, List.getElem?_cons_zero, List.set_cons_succ, List.set_cons_zero, List.map_cons, List.map_nil, bd_bd, bdd_bd, bdd_bdd, bd_bdd, kc_eq, kd_eq, Int.reduceLT, Int.reduceLE, Int.reduceToNat, Int.reducePow, decide_true, decide_false, Bool.and_true, Bool.true_and, Bool.or_true, Bool.true_or, if_true, if_false, reduceCtorEq, andC_t, andC_f, orC_t, orC_f, Bool.not_true, Bool.not_false, ne_eq, not_true_eq_false, not_false_eq_true, Option.map_some, eq_self, compC_eq, compT_eq, compE_t, compE_f, wp_n, wp_c, evTs_n, evTs_1, List.set_set, hS', getD_some', w_lstr]
      refine comp_map gY (gcyc _ _ _ rfl) (by omega) (okg _) ?_
      simp only [exs_n, exs_c, cf_nx, cf_rt, cf_bk, cf_ct, ex_nm, setC_eq, ex_tp, ex_sb, asgC_eq, at_nm, at_tp, at_sb, ats_n, ats_c, ex_exp, ex_ret, ex_retN, ex_pass, ex_brk, ex_cont, ex_par, ex_iff, iffC_t, iffC_f, iffC_n, ex_for, forC_eq, turnC_eq, ev_con, ev_glo, ev_var, ev_tup, ev_lst, ev_bin, ev_neg, ev_cmp, ev_sub, ev_call, ev_prim, primC_eq, ev_meth, ev_and, ev_or, ev_not, ev_ife, ifeC_t, ifeC_f, ev_slc, ev_new, newC_f, ev_comp, evs_n, evs_c, evT_eq, endC_rt, endC_nx, lk_int, lk_bl, lk_str, lk_non, lk_tup, lk_lst, lk_dct, lk_scr, lk_ref, fd_v, fd_f, tr_bl, tr_int, tr_non, tr_tup, tr_lst, tR_some, bR_some, vR_some, oI_some, gd_t, o_add, o_sub, o_mul, o_fdiv, o_mod, o_pow, o_addt, o_addl, o_adds, o_neg, c_eq, c_ne, c_lt, c_gt, c_le, c_ge, c_isn, c_notn, q_int, q_str, q_bl, q_map, i_tup, i_lst, ai_0, ai_1, ai_2, ai_3, ai_4, ai_5, ai_6, ai_7, ai_8, ai_9, ai_10, ai_11, bd_ok, bdd_ok, sat_ok, List.getElem?_cons_succ, List.getElem?_cons_zero, List.set_cons_succ, List.set_cons_zero, List.map_cons, List.map_nil, bd_bd, bdd_bd, bdd_bdd, bd_bdd, kc_eq, kd_eq, Int.reduceLT, Int.reduceLE, Int.reduceToNat, Int.reducePow, decide_true, decide_false, Bool.and_true, Bool.true_and, Bool.or_true, Bool.true_or, if_true, if_false, reduceCtorEq, andC_t, andC_f, orC_t, orC_f, Bool.not_true, Bool.not_false, ne_eq, not_true_eq_false, not_false_eq_true, Option.map_some, eq_self, compC_eq, compT_eq, compE_t, compE_f, wp_n, wp_c, evTs_n, evTs_1, w_lst]
      refine comp_map (gR tick fun j => ((xs.map cycD)[j.toNat]?).getD 0 * (if tick / ((xs.map cycD)[j.toNat]?).getD 0 - b > 0 then tick / ((xs.map cycD)[j.toNat]?).getD 0 - b else 0)) (fun d hd => ?_) (by omega) okG_n ?_
      · obtain ⟨j, rfl, hj⟩ := ho d hd
        obtain ⟨c1, c2⟩ := cyc_bd (hx _ (List.getElem_mem hj))
        have e : L2.atI (xs.map gY) (j : Int) = some (.int (cycD xs[j])) := atI_nat (by rw [List.getElem?_map, List.getElem?_eq_getElem hj] <;> rfl)
        have e2 : ((xs.map cycD)[(j : Int).toNat]?).getD 0 = cycD xs[j] := by
          rw [Int.toNat_natCast, List.getElem?_map, List.getElem?_eq_getElem hj] <;> rfl
        have gc : inW (cycD xs[j]) = true := inW_i (by omega) (by omega)
        have gp : decide (0 < cycD xs[j]) = true := decide_eq_true (by omega)
        simp only [exs_n, exs_c, cf_nx, cf_rt, cf_bk, cf_ct, ex_nm, setC_eq, ex_tp, ex_sb, asgC_eq, at_nm, at_tp, at_sb, ats_n, ats_c, ex_exp, ex_ret, ex_retN, ex_pass, ex_brk, ex_cont, ex_par, ex_iff, iffC_t, iffC_f, iffC_n, ex_for, forC_eq, turnC_eq, ev_con, ev_glo, ev_var, ev_tup, ev_lst, ev_bin, ev_neg, ev_cmp, ev_sub, ev_call, ev_prim, primC_eq, ev_meth, ev_and, ev_or, ev_not, ev_ife, ifeC_t, ifeC_f, ev_slc, ev_new, newC_f, ev_comp, evs_n, evs_c, evT_eq, endC_rt, endC_nx, lk_int, lk_bl, lk_str, lk_non, lk_tup, lk_lst, lk_dct, lk_scr, lk_ref, fd_v, fd_f, tr_bl, tr_int, tr_non, tr_tup, tr_lst, tR_some, bR_some, vR_some, oI_some, gd_t, o_add, o_sub, o_mul, o_fdiv, o_mod, o_pow, o_addt, o_addl, o_adds, o_neg, c_eq, c_ne, c_lt, c_gt, c_le, c_ge, c_isn, c_notn, q_int, q_str, q_bl, q_map, i_tup, i_lst, ai_0, ai_1, ai_2, ai_3, ai_4, ai_5, ai_6, ai_7, ai_8, ai_9, ai_10, ai_11, bd_ok, bdd_ok, sat_ok, List.getElem?_cons_succ, List.getElem?_cons_zero, List.set_cons_succ, List.set_cons_zero, List.map_cons, List.map_nil, bd_bd, bdd_bd, bdd_bdd, bd_bdd, kc_eq, kd_eq, Int.reduceLT, Int.reduceLE, Int.reduceToNat, Int.reducePow, decide_true, decide_false, Bool.and_true, Bool.true_and, Bool.or_true, Bool.true_or, if_true, if_false, reduceCtorEq, andC_t, andC_f, orC_t, orC_f, Bool.not_true, Bool.not_false, ne_eq, not_true_eq_false, not_false_eq_true, Option.map_some, eq_self, compC_eq, compT_eq, compE_t, compE_f, wp_n, wp_c, evTs_n, evTs_1, e, gc, gp, q_max, Bool.true_or]
        refine ⟨?_, by trivial⟩
        simp only [gR, e2]
      simp only [exs_n, exs_c, cf_nx, cf_rt, cf_bk, cf_ct, ex_nm, setC_eq, ex_tp, ex_sb, asgC_eq, at_nm, at_tp, at_sb, ats_n, ats_c, ex_exp, ex_ret, ex_retN, ex_pass, ex_brk, ex_cont, ex_par, ex_iff, iffC_t, iffC_f, iffC_n, ex_for, forC_eq, turnC_eq, ev_con, ev_glo, ev_var, ev_tup, ev_lst, ev_bin, ev_neg, ev_cmp, ev_sub, ev_call, ev_prim, primC_eq, ev_meth, ev_and, ev_or, ev_not, ev_ife, ifeC_t, ifeC_f, ev_slc, ev_new, newC_f, ev_comp, evs_n, evs_c, evT_eq, endC_rt, endC_nx, lk_int, lk_bl, lk_str, lk_non, lk_tup, lk_lst, lk_dct, lk_scr, lk_ref, fd_v, fd_f, tr_bl, tr_int, tr_non, tr_tup, tr_lst, tR_some, bR_some, vR_some, oI_some, gd_t, o_add, o_sub, o_mul, o_fdiv, o_mod, o_pow, o_addt, o_addl, o_adds, o_neg, c_eq, c_ne, c_lt, c_gt, c_le, c_ge, c_isn, c_notn, q_int, q_str, q_bl, q_map, i_tup, i_lst, ai_0, ai_1, ai_2, ai_3, ai_4, ai_5, ai_6, ai_7, ai_8, ai_9, ai_10, ai_11, bd_ok, bdd_ok, sat_ok, List.getElem?_cons_succ, List.getElem?_cons_zero, List.set_cons_succ, List.set_cons_zero, List.map_cons, List.map_nil, bd_bd, bdd_bd, bdd_bdd, bd_bdd, kc_eq, kd_eq, Int.reduceLT, Int.reduceLE, Int.reduceToNat, Int.reducePow, decide_true, decide_false, Bool.and_true, Bool.true_and, Bool.or_true, Bool.true_or, if_true, if_false, reduceCtorEq, andC_t, andC_f, orC_t, orC_f, Bool.not_true, Bool.not_false, ne_eq, not_true_eq_false, not_false_eq_true, Option.map_some, eq_self, compC_eq, compT_eq, compE_t, compE_f, wp_n, wp_c, evTs_n, evTs_1]
      refine tail_sat hx hM hS hrs nd (fun d hd => ?_) (q _ _ _ hp4 hn4)
      obtain ⟨d0, hd0, rfl⟩ := List.mem_map.mp hd
      obtain ⟨j, rfl, hj⟩ := ho d0 hd0
      have e2 : ((xs.map cycD)[(j : Int).toNat]?).getD 0 = cycD xs[j] := by
        rw [Int.toNat_natCast, List.getElem?_map, List.getElem?_eq_getElem hj] <;> rfl
      refine ⟨j, _, _, xs[j], rfl, List.getElem?_eq_getElem hj, ?_⟩
      simp only [e2]
      exact mark_le (cyc_bd (hx _ (List.getElem_mem hj))).1 hb0 (by omega)
end
end Lw
namespace Lw
open PySem PyI
section
variable {k : Nat} {M : Store} {p i t mark : Int} {ps ls cs : List D} {ks : List (Int × Int)} {Q : FV → Store → Prop} {tp n m : Int} {ns : List Int} {r s : Nat} {xs : List D}
theorem smp_int {i : Int} : smp k (.int i) = true := by cases k <;> rfl
theorem smp_str {i : Str} : smp k (.str i) = true := by cases k <;> rfl
theorem smp_non : smp k .non = true := by cases k <;> rfl
theorem smp_bl {i : Bool} : smp k (.bl i) = true := by cases k <;> rfl
theorem smp_tup {xs : List D} : smp (k + 1) (.tup xs) = (xs.all (smp k) && inR xs.length) := rfl
theorem smp_work {c l : Int} : smp (k + 1) (workD c l t) = true := by
  unfold workD
  split
  · simp only [smp_tup, List.all_cons, List.all_nil, smp_int, smp_str, Bool.and_true, Bool.true_and]
    rfl
  split
  · simp only [smp_tup, List.all_cons, List.all_nil, smp_int, smp_str, Bool.and_true, Bool.true_and]
    rfl
  split
  · simp only [smp_tup, List.all_cons, List.all_nil, smp_int, smp_str, Bool.and_true, Bool.true_and]
    rfl
  split
  · simp only [smp_tup, List.all_cons, List.all_nil, smp_int, smp_str, Bool.and_true, Bool.true_and]
    rfl
  · exact smp_non
theorem q_lrng {a : Int} {ds : List D} : primS .lrng1 [.int a] ds M = guardR (leS a && inR a) (.ok (.f (.lst (rngD 0 a))) M) := rfl
theorem cut_mem {ys : List D} {d : D} (h : d ∈ ys ++ cutD ys none (some 1)) : d ∈ ys := by
  rcases List.mem_append.mp h with h | h
  · exact h
  · exact List.mem_of_mem_drop (List.mem_of_mem_take h)
theorem cut_len {ys : List D} : (cutD ys none (some 1)).length ≤ ys.length := by
  unfold cutD
  rw [List.length_take, List.length_drop]
  omega
def Lst (ns : List Int) (xs : List D) (N : Store) : Prop := ∃ p n m, 0 ≤ p ∧ 0 ≤ n ∧ N = [TapeD ns p n m, .lst xs]
theorem law_ok : ∃ M', callF fs gl (k + 9 + 1) 19 [.scr ns] [] = .ok (.v (.bl true)) M' := by
  suffices h : (callF fs gl (k + 9 + 1) 19 [.scr ns] []).sat fun v N => v = .v (.bl true) by
    obtain ⟨a, N, e, rfl⟩ := sat_ex h
    exact ⟨N, e⟩
  have hsl : sl = 16777216 := rfl
  refine go (fn := ⟨1, 8, b_law⟩) (ρ := [some (.scr ns), none, none, none, none, none, none, none]) rfl rfl rfl ?_
  simp only [b_law, exs_n, exs_c, cf_nx, cf_rt, cf_bk, cf_ct, ex_nm, setC_eq, ex_tp, ex_sb, asgC_eq, at_nm, at_tp, at_sb, ats_n, ats_c, ex_exp, ex_ret, ex_retN, ex_pass, ex_brk, ex_cont, ex_par, ex_iff, iffC_t, iffC_f, iffC_n, ex_for, forC_eq, turnC_eq, ev_con, ev_glo, ev_var, ev_tup, ev_lst, ev_bin, ev_neg, ev_cmp, ev_sub, ev_call, ev_prim, primC_eq, ev_meth, ev_and, ev_or, ev_not, ev_ife, ifeC_t, ifeC_f, ev_slc, ev_new, newC_f, ev_comp, evs_n, evs_c, evT_eq, endC_rt, endC_nx, lk_int, lk_bl, lk_str, lk_non, lk_tup, lk_lst, lk_dct, lk_scr, lk_ref, fd_v, fd_f, tr_bl, tr_int, tr_non, tr_tup, tr_lst, tR_some, bR_some, vR_some, oI_some, gd_t, o_add, o_sub, o_mul, o_fdiv, o_mod, o_pow, o_addt, o_addl, o_adds, o_neg, c_eq, c_ne, c_lt, c_gt, c_le, c_ge, c_isn, c_notn, q_int, q_str, q_bl, q_map, i_tup, i_lst, ai_0, ai_1, ai_2, ai_3, ai_4, ai_5, ai_6, ai_7, ai_8, ai_9, ai_10, ai_11, bd_ok, bdd_ok, sat_ok, List.getElem?_cons_succ, List.getElem?_cons_zero, List.set_cons_succ, List.set_cons_zero, List.map_cons, List.map_nil, bd_bd, bdd_bd, bdd_bdd, bd_bdd, kc_eq, kd_eq, Int.reduceLT, Int.reduceLE, Int.reduceToNat, Int.reducePow, decide_true, decide_false, Bool.and_true, Bool.true_and, Bool.or_true, Bool.true_or, if_true, if_false, reduceCtorEq, andC_t, andC_f, orC_t, orC_f, Bool.not_true, Bool.not_false, ne_eq, not_true_eq_false, not_false_eq_true, Option.map_some, eq_self, compC_eq, compT_eq, compE_t, compE_f, wp_n, wp_c, evTs_n, evTs_1]
  refine sat_bdq (tape_sat f_tape fun m0 => ?_)
  simp only [exs_n, exs_c, cf_nx, cf_rt, cf_bk, cf_ct, ex_nm, setC_eq, ex_tp, ex_sb, asgC_eq, at_nm, at_tp, at_sb, ats_n, ats_c, ex_exp, ex_ret, ex_retN, ex_pass, ex_brk, ex_cont, ex_par, ex_iff, iffC_t, iffC_f, iffC_n, ex_for, forC_eq, turnC_eq, ev_con, ev_glo, ev_var, ev_tup, ev_lst, ev_bin, ev_neg, ev_cmp, ev_sub, ev_call, ev_prim, primC_eq, ev_meth, ev_and, ev_or, ev_not, ev_ife, ifeC_t, ifeC_f, ev_slc, ev_new, newC_f, ev_comp, evs_n, evs_c, evT_eq, endC_rt, endC_nx, lk_int, lk_bl, lk_str, lk_non, lk_tup, lk_lst, lk_dct, lk_scr, lk_ref, fd_v, fd_f, tr_bl, tr_int, tr_non, tr_tup, tr_lst, tR_some, bR_some, vR_some, oI_some, gd_t, o_add, o_sub, o_mul, o_fdiv, o_mod, o_pow, o_addt, o_addl, o_adds, o_neg, c_eq, c_ne, c_lt, c_gt, c_le, c_ge, c_isn, c_notn, q_int, q_str, q_bl, q_map, i_tup, i_lst, ai_0, ai_1, ai_2, ai_3, ai_4, ai_5, ai_6, ai_7, ai_8, ai_9, ai_10, ai_11, bd_ok, bdd_ok, sat_ok, List.getElem?_cons_succ, List.getElem?_cons_zero, List.set_cons_succ, List.set_cons_zero, List.map_cons, List.map_nil, bd_bd, bdd_bd, bdd_bdd, bd_bdd, kc_eq, kd_eq, Int.reduceLT, Int.reduceLE, Int.reduceToNat, Int.reducePow, decide_true, decide_false, Bool.and_true, Bool.true_and, Bool.or_true, Bool.true_or, if_true, if_false, reduceCtorEq, andC_t, andC_f, orC_t, orC_f, Bool.not_true, Bool.not_false, ne_eq, not_true_eq_false, not_false_eq_true, Option.map_some, eq_self, compC_eq, compT_eq, compE_t, compE_f, wp_n, wp_c, evTs_n, evTs_1, List.length_nil, List.nil_append]
  refine sat_bddq (bare_sat (r := 0) rfl (Int.le_refl _) (Int.le_refl _) fun d0 p1 n1 m1 hd0 hp1 hn1 => ?_)
  simp only [exs_n, exs_c, cf_nx, cf_rt, cf_bk, cf_ct, ex_nm, setC_eq, ex_tp, ex_sb, asgC_eq, at_nm, at_tp, at_sb, ats_n, ats_c, ex_exp, ex_ret, ex_retN, ex_pass, ex_brk, ex_cont, ex_par, ex_iff, iffC_t, iffC_f, iffC_n, ex_for, forC_eq, turnC_eq, ev_con, ev_glo, ev_var, ev_tup, ev_lst, ev_bin, ev_neg, ev_cmp, ev_sub, ev_call, ev_prim, primC_eq, ev_meth, ev_and, ev_or, ev_not, ev_ife, ifeC_t, ifeC_f, ev_slc, ev_new, newC_f, ev_comp, evs_n, evs_c, evT_eq, endC_rt, endC_nx, lk_int, lk_bl, lk_str, lk_non, lk_tup, lk_lst, lk_dct, lk_scr, lk_ref, fd_v, fd_f, tr_bl, tr_int, tr_non, tr_tup, tr_lst, tR_some, bR_some, vR_some, oI_some, gd_t, o_add, o_sub, o_mul, o_fdiv, o_mod, o_pow, o_addt, o_addl, o_adds, o_neg, c_eq, c_ne, c_lt, c_gt, c_le, c_ge, c_isn, c_notn, q_int, q_str, q_bl, q_map, i_tup, i_lst, ai_0, ai_1, ai_2, ai_3, ai_4, ai_5, ai_6, ai_7, ai_8, ai_9, ai_10, ai_11, bd_ok, bdd_ok, sat_ok, List.getElem?_cons_succ, List.getElem?_cons_zero, List.set_cons_succ, List.set_cons_zero, List.map_cons, List.map_nil, bd_bd, bdd_bd, bdd_bdd, bd_bdd, kc_eq, kd_eq, Int.reduceLT, Int.reduceLE, Int.reduceToNat, Int.reducePow, decide_true, decide_false, Bool.and_true, Bool.true_and, Bool.or_true, Bool.true_or, if_true, if_false, reduceCtorEq, andC_t, andC_f, orC_t, orC_f, Bool.not_true, Bool.not_false, ne_eq, not_true_eq_false, not_false_eq_true, Option.map_some, eq_self, compC_eq, compT_eq, compE_t, compE_f, wp_n, wp_c, evTs_n, evTs_1, List.length_cons, List.length_nil, List.cons_append, List.nil_append]
  refine sat_bddq (draw_sat (t := 0) f_draw rfl hp1 hn1 (by omega) fun x p2 n2 m2 hx0 hx1 hp2 hn2 => ?_)
  simp only [exs_n, exs_c, cf_nx, cf_rt, cf_bk, cf_ct, ex_nm, setC_eq, ex_tp, ex_sb, asgC_eq, at_nm, at_tp, at_sb, ats_n, ats_c, ex_exp, ex_ret, ex_retN, ex_pass, ex_brk, ex_cont, ex_par, ex_iff, iffC_t, iffC_f, iffC_n, ex_for, forC_eq, turnC_eq, ev_con, ev_glo, ev_var, ev_tup, ev_lst, ev_bin, ev_neg, ev_cmp, ev_sub, ev_call, ev_prim, primC_eq, ev_meth, ev_and, ev_or, ev_not, ev_ife, ifeC_t, ifeC_f, ev_slc, ev_new, newC_f, ev_comp, evs_n, evs_c, evT_eq, endC_rt, endC_nx, lk_int, lk_bl, lk_str, lk_non, lk_tup, lk_lst, lk_dct, lk_scr, lk_ref, fd_v, fd_f, tr_bl, tr_int, tr_non, tr_tup, tr_lst, tR_some, bR_some, vR_some, oI_some, gd_t, o_add, o_sub, o_mul, o_fdiv, o_mod, o_pow, o_addt, o_addl, o_adds, o_neg, c_eq, c_ne, c_lt, c_gt, c_le, c_ge, c_isn, c_notn, q_int, q_str, q_bl, q_map, i_tup, i_lst, ai_0, ai_1, ai_2, ai_3, ai_4, ai_5, ai_6, ai_7, ai_8, ai_9, ai_10, ai_11, bd_ok, bdd_ok, sat_ok, List.getElem?_cons_succ, List.getElem?_cons_zero, List.set_cons_succ, List.set_cons_zero, List.map_cons, List.map_nil, bd_bd, bdd_bd, bdd_bdd, bd_bdd, kc_eq, kd_eq, Int.reduceLT, Int.reduceLE, Int.reduceToNat, Int.reducePow, decide_true, decide_false, Bool.and_true, Bool.true_and, Bool.or_true, Bool.true_or, if_true, if_false, reduceCtorEq, andC_t, andC_f, orC_t, orC_f, Bool.not_true, Bool.not_false, ne_eq, not_true_eq_false, not_false_eq_true, Option.map_some, eq_self, compC_eq, compT_eq, compE_t, compE_f, wp_n, wp_c, evTs_n, evTs_1, w_rng1]
  rw [gd_p (inR_i (by omega) (by omega))]
  simp only [exs_n, exs_c, cf_nx, cf_rt, cf_bk, cf_ct, ex_nm, setC_eq, ex_tp, ex_sb, asgC_eq, at_nm, at_tp, at_sb, ats_n, ats_c, ex_exp, ex_ret, ex_retN, ex_pass, ex_brk, ex_cont, ex_par, ex_iff, iffC_t, iffC_f, iffC_n, ex_for, forC_eq, turnC_eq, ev_con, ev_glo, ev_var, ev_tup, ev_lst, ev_bin, ev_neg, ev_cmp, ev_sub, ev_call, ev_prim, primC_eq, ev_meth, ev_and, ev_or, ev_not, ev_ife, ifeC_t, ifeC_f, ev_slc, ev_new, newC_f, ev_comp, evs_n, evs_c, evT_eq, endC_rt, endC_nx, lk_int, lk_bl, lk_str, lk_non, lk_tup, lk_lst, lk_dct, lk_scr, lk_ref, fd_v, fd_f, tr_bl, tr_int, tr_non, tr_tup, tr_lst, tR_some, bR_some, vR_some, oI_some, gd_t, o_add, o_sub, o_mul, o_fdiv, o_mod, o_pow, o_addt, o_addl, o_adds, o_neg, c_eq, c_ne, c_lt, c_gt, c_le, c_ge, c_isn, c_notn, q_int, q_str, q_bl, q_map, i_tup, i_lst, ai_0, ai_1, ai_2, ai_3, ai_4, ai_5, ai_6, ai_7, ai_8, ai_9, ai_10, ai_11, bd_ok, bdd_ok, sat_ok, List.getElem?_cons_succ, List.getElem?_cons_zero, List.set_cons_succ, List.set_cons_zero, List.map_cons, List.map_nil, bd_bd, bdd_bd, bdd_bdd, bd_bdd, kc_eq, kd_eq, Int.reduceLT, Int.reduceLE, Int.reduceToNat, Int.reducePow, decide_true, decide_false, Bool.and_true, Bool.true_and, Bool.or_true, Bool.true_or, if_true, if_false, reduceCtorEq, andC_t, andC_f, orC_t, orC_f, Bool.not_true, Bool.not_false, ne_eq, not_true_eq_false, not_false_eq_true, Option.map_some, eq_self, compC_eq, compT_eq, compE_t, compE_f, wp_n, wp_c, evTs_n, evTs_1]
  have at0 : ∀ {a b : D}, ([a, b] : Store)[0]? = some a := rfl
  have at1 : ∀ {a b : D}, ([a, b] : Store)[1]? = some b := rfl
  refine sat_bd (P := fun f N => ∃ xs, Lst ns xs N ∧ (∀ d ∈ xs, IsSys d) ∧ 0 < xs.length ∧ xs.length ≤ 3 ∧ ∃ a3, f = .nx [some (.scr ns), some (.ref 0), some (.ref 1), a3, none, none, none, none])
    (for_i (fun j ρ N => ∃ xs, Lst ns xs N ∧ (∀ d ∈ xs, IsSys d) ∧ xs.length = j + 1 ∧ ∃ a3, ρ = [some (.scr ns), some (.ref 0), some (.ref 1), a3, none, none, none, none])
      ⟨[d0], ⟨p2, n2, m2, hp2, hn2, rfl⟩, (fun d hd => by rw [List.mem_singleton.mp hd]; exact hd0), rfl, _, rfl⟩ (fun _ _ _ _ _ => okG_n) (fun j ρ N d hd w => ?_) fun ρ N w => ?_) fun f N w => ?_
  · obtain ⟨xs, ⟨p, n, m, hp, hn, rfl⟩, hx, hl, a3, rfl⟩ := w
    obtain ⟨rfl, hj⟩ := rng_get hd
    obtain ⟨x0, xr, rfl⟩ : ∃ x0 xr, xs = x0 :: xr := by
      cases xs with
      | nil => simp at hl
      | cons a b => exact ⟨_, _, rfl⟩
    have e : L2.atI (x0 :: xr) 0 = some x0 := atI_nat (n := 0) rfl
    simp only [exs_n, exs_c, cf_nx, cf_rt, cf_bk, cf_ct, ex_nm, setC_eq, ex_tp, ex_sb, asgC_eq, at_nm, at_tp, at_sb, ats_n, ats_c, ex_exp, ex_ret, ex_retN, ex_pass, ex_brk, ex_cont, ex_par, ex_iff, iffC_t, iffC_f, iffC_n, ex_for, forC_eq, turnC_eq, ev_con, ev_glo, ev_var, ev_tup, ev_lst, ev_bin, ev_neg, ev_cmp, ev_sub, ev_call, ev_prim, primC_eq, ev_meth, ev_and, ev_or, ev_not, ev_ife, ifeC_t, ifeC_f, ev_slc, ev_new, newC_f, ev_comp, evs_n, evs_c, evT_eq, endC_rt, endC_nx, lk_int, lk_bl, lk_str, lk_non, lk_tup, lk_lst, lk_dct, lk_scr, lk_ref, fd_v, fd_f, tr_bl, tr_int, tr_non, tr_tup, tr_lst, tR_some, bR_some, vR_some, oI_some, gd_t, o_add, o_sub, o_mul, o_fdiv, o_mod, o_pow, o_addt, o_addl, o_adds, o_neg, c_eq, c_ne, c_lt, c_gt, c_le, c_ge, c_isn, c_notn, q_int, q_str, q_bl, q_map, i_tup, i_lst, ai_0, ai_1, ai_2, ai_3, ai_4, ai_5, ai_6, ai_7, ai_8, ai_9, ai_10, ai_11, bd_ok, bdd_ok, sat_ok, List.getElem?_cons_succ, List.getElem?_cons_zero, List.set_cons_succ, List.set_cons_zero, List.map_cons, List.map_nil, bd_bd, bdd_bd, bdd_bdd, bd_bdd, kc_eq, kd_eq, Int.reduceLT, Int.reduceLE, Int.reduceToNat, Int.reducePow, decide_true, decide_false, Bool.and_true, Bool.true_and, Bool.or_true, Bool.true_or, if_true, if_false, reduceCtorEq, andC_t, andC_f, orC_t, orC_f, Bool.not_true, Bool.not_false, ne_eq, not_true_eq_false, not_false_eq_true, Option.map_some, eq_self, compC_eq, compT_eq, compE_t, compE_f, wp_n, wp_c, evTs_n, evTs_1, at1, getD_some', k_app, e]
    refine sat_bddq (near_sat (hx x0 List.mem_cons_self) (r := 0) at0 hp hn fun d p' n' m' hd hp' hn' => ?_)
    simp only [exs_n, exs_c, cf_nx, cf_rt, cf_bk, cf_ct, ex_nm, setC_eq, ex_tp, ex_sb, asgC_eq, at_nm, at_tp, at_sb, ats_n, ats_c, ex_exp, ex_ret, ex_retN, ex_pass, ex_brk, ex_cont, ex_par, ex_iff, iffC_t, iffC_f, iffC_n, ex_for, forC_eq, turnC_eq, ev_con, ev_glo, ev_var, ev_tup, ev_lst, ev_bin, ev_neg, ev_cmp, ev_sub, ev_call, ev_prim, primC_eq, ev_meth, ev_and, ev_or, ev_not, ev_ife, ifeC_t, ifeC_f, ev_slc, ev_new, newC_f, ev_comp, evs_n, evs_c, evT_eq, endC_rt, endC_nx, lk_int, lk_bl, lk_str, lk_non, lk_tup, lk_lst, lk_dct, lk_scr, lk_ref, fd_v, fd_f, tr_bl, tr_int, tr_non, tr_tup, tr_lst, tR_some, bR_some, vR_some, oI_some, gd_t, o_add, o_sub, o_mul, o_fdiv, o_mod, o_pow, o_addt, o_addl, o_adds, o_neg, c_eq, c_ne, c_lt, c_gt, c_le, c_ge, c_isn, c_notn, q_int, q_str, q_bl, q_map, i_tup, i_lst, ai_0, ai_1, ai_2, ai_3, ai_4, ai_5, ai_6, ai_7, ai_8, ai_9, ai_10, ai_11, bd_ok, bdd_ok, sat_ok, List.getElem?_cons_succ, List.getElem?_cons_zero, List.set_cons_succ, List.set_cons_zero, List.map_cons, List.map_nil, bd_bd, bdd_bd, bdd_bdd, bd_bdd, kc_eq, kd_eq, Int.reduceLT, Int.reduceLE, Int.reduceToNat, Int.reducePow, decide_true, decide_false, Bool.and_true, Bool.true_and, Bool.or_true, Bool.true_or, if_true, if_false, reduceCtorEq, andC_t, andC_f, orC_t, orC_f, Bool.not_true, Bool.not_false, ne_eq, not_true_eq_false, not_false_eq_true, Option.map_some, eq_self, compC_eq, compT_eq, compE_t, compE_f, wp_n, wp_c, evTs_n, evTs_1, at1, getD_some']
    rw [m_app (by rw [hl]; omega)]
    simp only [exs_n, exs_c, cf_nx, cf_rt, cf_bk, cf_ct, ex_nm, setC_eq, ex_tp, ex_sb, asgC_eq, at_nm, at_tp, at_sb, ats_n, ats_c, ex_exp, ex_ret, ex_retN, ex_pass, ex_brk, ex_cont, ex_par, ex_iff, iffC_t, iffC_f, iffC_n, ex_for, forC_eq, turnC_eq, ev_con, ev_glo, ev_var, ev_tup, ev_lst, ev_bin, ev_neg, ev_cmp, ev_sub, ev_call, ev_prim, primC_eq, ev_meth, ev_and, ev_or, ev_not, ev_ife, ifeC_t, ifeC_f, ev_slc, ev_new, newC_f, ev_comp, evs_n, evs_c, evT_eq, endC_rt, endC_nx, lk_int, lk_bl, lk_str, lk_non, lk_tup, lk_lst, lk_dct, lk_scr, lk_ref, fd_v, fd_f, tr_bl, tr_int, tr_non, tr_tup, tr_lst, tR_some, bR_some, vR_some, oI_some, gd_t, o_add, o_sub, o_mul, o_fdiv, o_mod, o_pow, o_addt, o_addl, o_adds, o_neg, c_eq, c_ne, c_lt, c_gt, c_le, c_ge, c_isn, c_notn, q_int, q_str, q_bl, q_map, i_tup, i_lst, ai_0, ai_1, ai_2, ai_3, ai_4, ai_5, ai_6, ai_7, ai_8, ai_9, ai_10, ai_11, bd_ok, bdd_ok, sat_ok, List.getElem?_cons_succ, List.getElem?_cons_zero, List.set_cons_succ, List.set_cons_zero, List.map_cons, List.map_nil, bd_bd, bdd_bd, bdd_bdd, bd_bdd, kc_eq, kd_eq, Int.reduceLT, Int.reduceLE, Int.reduceToNat, Int.reducePow, decide_true, decide_false, Bool.and_true, Bool.true_and, Bool.or_true, Bool.true_or, if_true, if_false, reduceCtorEq, andC_t, andC_f, orC_t, orC_f, Bool.not_true, Bool.not_false, ne_eq, not_true_eq_false, not_false_eq_true, Option.map_some, eq_self, compC_eq, compT_eq, compE_t, compE_f, wp_n, wp_c, evTs_n, evTs_1]
    refine ⟨x0 :: xr ++ [d], ⟨p', n', m', hp', hn', rfl⟩, fun d' hd' => ?_, by rw [List.length_append, hl] <;> rfl, _, rfl⟩
    rcases List.mem_append.mp hd' with h | h
    · exact hx d' h
    · rw [List.mem_singleton.mp h]; exact hd
  · obtain ⟨xs, hN, hx, hl, a3, rfl⟩ := w
    rw [rng_len'] at hl
    exact ⟨xs, hN, hx, by omega, by omega, _, rfl⟩
  · obtain ⟨xs, ⟨p, n, m, hp, hn, rfl⟩, hx, hl0, hl, a3, rfl⟩ := w
    simp only [exs_n, exs_c, cf_nx, cf_rt, cf_bk, cf_ct, ex_nm, setC_eq, ex_tp, ex_sb, asgC_eq, at_nm, at_tp, at_sb, ats_n, ats_c, ex_exp, ex_ret, ex_retN, ex_pass, ex_brk, ex_cont, ex_par, ex_iff, iffC_t, iffC_f, iffC_n, ex_for, forC_eq, turnC_eq, ev_con, ev_glo, ev_var, ev_tup, ev_lst, ev_bin, ev_neg, ev_cmp, ev_sub, ev_call, ev_prim, primC_eq, ev_meth, ev_and, ev_or, ev_not, ev_ife, ifeC_t, ifeC_f, ev_slc, ev_new, newC_f, ev_comp, evs_n, evs_c, evT_eq, endC_rt, endC_nx, lk_int, lk_bl, lk_str, lk_non, lk_tup, lk_lst, lk_dct, lk_scr, lk_ref, fd_v, fd_f, tr_bl, tr_int, tr_non, tr_tup, tr_lst, tR_some, bR_some, vR_some, oI_some, gd_t, o_add, o_sub, o_mul, o_fdiv, o_mod, o_pow, o_addt, o_addl, o_adds, o_neg, c_eq, c_ne, c_lt, c_gt, c_le, c_ge, c_isn, c_notn, q_int, q_str, q_bl, q_map, i_tup, i_lst, ai_0, ai_1, ai_2, ai_3, ai_4, ai_5, ai_6, ai_7, ai_8, ai_9, ai_10, ai_11, bd_ok, bdd_ok, sat_ok, List.getElem?_cons_succ, List.getElem?_cons_zero, List.set_cons_succ, List.set_cons_zero, List.map_cons, List.map_nil, bd_bd, bdd_bd, bdd_bdd, bd_bdd, kc_eq, kd_eq, Int.reduceLT, Int.reduceLE, Int.reduceToNat, Int.reducePow, decide_true, decide_false, Bool.and_true, Bool.true_and, Bool.or_true, Bool.true_or, if_true, if_false, reduceCtorEq, andC_t, andC_f, orC_t, orC_f, Bool.not_true, Bool.not_false, ne_eq, not_true_eq_false, not_false_eq_true, Option.map_some, eq_self, compC_eq, compT_eq, compE_t, compE_f, wp_n, wp_c, evTs_n, evTs_1]
    refine sat_bddq (draw_sat (t := 0) f_draw at0 hp hn (by omega) fun y p3 n3 m3 hy0 hy1 hp3 hn3 => ?_)
    simp only [exs_n, exs_c, cf_nx, cf_rt, cf_bk, cf_ct, ex_nm, setC_eq, ex_tp, ex_sb, asgC_eq, at_nm, at_tp, at_sb, ats_n, ats_c, ex_exp, ex_ret, ex_retN, ex_pass, ex_brk, ex_cont, ex_par, ex_iff, iffC_t, iffC_f, iffC_n, ex_for, forC_eq, turnC_eq, ev_con, ev_glo, ev_var, ev_tup, ev_lst, ev_bin, ev_neg, ev_cmp, ev_sub, ev_call, ev_prim, primC_eq, ev_meth, ev_and, ev_or, ev_not, ev_ife, ifeC_t, ifeC_f, ev_slc, ev_new, newC_f, ev_comp, evs_n, evs_c, evT_eq, endC_rt, endC_nx, lk_int, lk_bl, lk_str, lk_non, lk_tup, lk_lst, lk_dct, lk_scr, lk_ref, fd_v, fd_f, tr_bl, tr_int, tr_non, tr_tup, tr_lst, tR_some, bR_some, vR_some, oI_some, gd_t, o_add, o_sub, o_mul, o_fdiv, o_mod, o_pow, o_addt, o_addl, o_adds, o_neg, c_eq, c_ne, c_lt, c_gt, c_le, c_ge, c_isn, c_notn, q_int, q_str, q_bl, q_map, i_tup, i_lst, ai_0, ai_1, ai_2, ai_3, ai_4, ai_5, ai_6, ai_7, ai_8, ai_9, ai_10, ai_11, bd_ok, bdd_ok, sat_ok, List.getElem?_cons_succ, List.getElem?_cons_zero, List.set_cons_succ, List.set_cons_zero, List.map_cons, List.map_nil, bd_bd, bdd_bd, bdd_bdd, bd_bdd, kc_eq, kd_eq, Int.reduceLT, Int.reduceLE, Int.reduceToNat, Int.reducePow, decide_true, decide_false, Bool.and_true, Bool.true_and, Bool.or_true, Bool.true_or, if_true, if_false, reduceCtorEq, andC_t, andC_f, orC_t, orC_f, Bool.not_true, Bool.not_false, ne_eq, not_true_eq_false, not_false_eq_true, Option.map_some, eq_self, compC_eq, compT_eq, compE_t, compE_f, wp_n, wp_c, evTs_n, evTs_1, w_rng1]
    rw [gd_p (inR_i (by omega) (by omega))]
    simp only [exs_n, exs_c, cf_nx, cf_rt, cf_bk, cf_ct, ex_nm, setC_eq, ex_tp, ex_sb, asgC_eq, at_nm, at_tp, at_sb, ats_n, ats_c, ex_exp, ex_ret, ex_retN, ex_pass, ex_brk, ex_cont, ex_par, ex_iff, iffC_t, iffC_f, iffC_n, ex_for, forC_eq, turnC_eq, ev_con, ev_glo, ev_var, ev_tup, ev_lst, ev_bin, ev_neg, ev_cmp, ev_sub, ev_call, ev_prim, primC_eq, ev_meth, ev_and, ev_or, ev_not, ev_ife, ifeC_t, ifeC_f, ev_slc, ev_new, newC_f, ev_comp, evs_n, evs_c, evT_eq, endC_rt, endC_nx, lk_int, lk_bl, lk_str, lk_non, lk_tup, lk_lst, lk_dct, lk_scr, lk_ref, fd_v, fd_f, tr_bl, tr_int, tr_non, tr_tup, tr_lst, tR_some, bR_some, vR_some, oI_some, gd_t, o_add, o_sub, o_mul, o_fdiv, o_mod, o_pow, o_addt, o_addl, o_adds, o_neg, c_eq, c_ne, c_lt, c_gt, c_le, c_ge, c_isn, c_notn, q_int, q_str, q_bl, q_map, i_tup, i_lst, ai_0, ai_1, ai_2, ai_3, ai_4, ai_5, ai_6, ai_7, ai_8, ai_9, ai_10, ai_11, bd_ok, bdd_ok, sat_ok, List.getElem?_cons_succ, List.getElem?_cons_zero, List.set_cons_succ, List.set_cons_zero, List.map_cons, List.map_nil, bd_bd, bdd_bd, bdd_bdd, bd_bdd, kc_eq, kd_eq, Int.reduceLT, Int.reduceLE, Int.reduceToNat, Int.reducePow, decide_true, decide_false, Bool.and_true, Bool.true_and, Bool.or_true, Bool.true_or, if_true, if_false, reduceCtorEq, andC_t, andC_f, orC_t, orC_f, Bool.not_true, Bool.not_false, ne_eq, not_true_eq_false, not_false_eq_true, Option.map_some, eq_self, compC_eq, compT_eq, compE_t, compE_f, wp_n, wp_c, evTs_n, evTs_1]
    refine sat_bd (P := fun f N => Lst ns xs N ∧ ∃ a3 a4 a5 a6 a7, f = .nx [some (.scr ns), some (.ref 0), some (.ref 1), a3, a4, a5, a6, a7])
      (for_i (fun j ρ N => Lst ns xs N ∧ ∃ a3 a4 a5 a6 a7, ρ = [some (.scr ns), some (.ref 0), some (.ref 1), a3, a4, a5, a6, a7]) ⟨⟨p3, n3, m3, hp3, hn3, rfl⟩, _, _, _, _, _, rfl⟩ (fun _ _ _ _ _ => okG_n) (fun j ρ N d hd w => ?_) fun ρ N w => ?_) fun f N w => ?_
    · obtain ⟨⟨p, n, m, hp, hn, rfl⟩, a3, a4, a5, a6, a7, rfl⟩ := w
      simp only [exs_n, exs_c, cf_nx, cf_rt, cf_bk, cf_ct, ex_nm, setC_eq, ex_tp, ex_sb, asgC_eq, at_nm, at_tp, at_sb, ats_n, ats_c, ex_exp, ex_ret, ex_retN, ex_pass, ex_brk, ex_cont, ex_par, ex_iff, iffC_t, iffC_f, iffC_n, ex_for, forC_eq, turnC_eq, ev_con, ev_glo, ev_var, ev_tup, ev_lst, ev_bin, ev_neg, ev_cmp, ev_sub, ev_call, ev_prim, primC_eq, ev_meth, ev_and, ev_or, ev_not, ev_ife, ifeC_t, ifeC_f, ev_slc, ev_new, newC_f, ev_comp, evs_n, evs_c, evT_eq, endC_rt, endC_nx, lk_int, lk_bl, lk_str, lk_non, lk_tup, lk_lst, lk_dct, lk_scr, lk_ref, fd_v, fd_f, tr_bl, tr_int, tr_non, tr_tup, tr_lst, tR_some, bR_some, vR_some, oI_some, gd_t, o_add, o_sub, o_mul, o_fdiv, o_mod, o_pow, o_addt, o_addl, o_adds, o_neg, c_eq, c_ne, c_lt, c_gt, c_le, c_ge, c_isn, c_notn, q_int, q_str, q_bl, q_map, i_tup, i_lst, ai_0, ai_1, ai_2, ai_3, ai_4, ai_5, ai_6, ai_7, ai_8, ai_9, ai_10, ai_11, bd_ok, bdd_ok, sat_ok, List.getElem?_cons_succ, List.getElem?_cons_zero, List.set_cons_succ, List.set_cons_zero, List.map_cons, List.map_nil, bd_bd, bdd_bd, bdd_bdd, bd_bdd, kc_eq, kd_eq, Int.reduceLT, Int.reduceLE, Int.reduceToNat, Int.reducePow, decide_true, decide_false, Bool.and_true, Bool.true_and, Bool.or_true, Bool.true_or, if_true, if_false, reduceCtorEq, andC_t, andC_f, orC_t, orC_f, Bool.not_true, Bool.not_false, ne_eq, not_true_eq_false, not_false_eq_true, Option.map_some, eq_self, compC_eq, compT_eq, compE_t, compE_f, wp_n, wp_c, evTs_n, evTs_1, at1, getD_some', q_len, q_lrng]
      rw [gd_p (by rw [leS_i (by omega), inR_i (by omega) (by omega)] <;> rfl)]
      simp only [exs_n, exs_c, cf_nx, cf_rt, cf_bk, cf_ct, ex_nm, setC_eq, ex_tp, ex_sb, asgC_eq, at_nm, at_tp, at_sb, ats_n, ats_c, ex_exp, ex_ret, ex_retN, ex_pass, ex_brk, ex_cont, ex_par, ex_iff, iffC_t, iffC_f, iffC_n, ex_for, forC_eq, turnC_eq, ev_con, ev_glo, ev_var, ev_tup, ev_lst, ev_bin, ev_neg, ev_cmp, ev_sub, ev_call, ev_prim, primC_eq, ev_meth, ev_and, ev_or, ev_not, ev_ife, ifeC_t, ifeC_f, ev_slc, ev_new, newC_f, ev_comp, evs_n, evs_c, evT_eq, endC_rt, endC_nx, lk_int, lk_bl, lk_str, lk_non, lk_tup, lk_lst, lk_dct, lk_scr, lk_ref, fd_v, fd_f, tr_bl, tr_int, tr_non, tr_tup, tr_lst, tR_some, bR_some, vR_some, oI_some, gd_t, o_add, o_sub, o_mul, o_fdiv, o_mod, o_pow, o_addt, o_addl, o_adds, o_neg, c_eq, c_ne, c_lt, c_gt, c_le, c_ge, c_isn, c_notn, q_int, q_str, q_bl, q_map, i_tup, i_lst, ai_0, ai_1, ai_2, ai_3, ai_4, ai_5, ai_6, ai_7, ai_8, ai_9, ai_10, ai_11, bd_ok, bdd_ok, sat_ok, List.getElem?_cons_succ, List.getElem?_cons_zero, List.set_cons_succ, List.set_cons_zero, List.map_cons, List.map_nil, bd_bd, bdd_bd, bdd_bdd, bd_bdd, kc_eq, kd_eq, Int.reduceLT, Int.reduceLE, Int.reduceToNat, Int.reducePow, decide_true, decide_false, Bool.and_true, Bool.true_and, Bool.or_true, Bool.true_or, if_true, if_false, reduceCtorEq, andC_t, andC_f, orC_t, orC_f, Bool.not_true, Bool.not_false, ne_eq, not_true_eq_false, not_false_eq_true, Option.map_some, eq_self, compC_eq, compT_eq, compE_t, compE_f, wp_n, wp_c, evTs_n, evTs_1]
      refine sat_bddq (shuf_sat (t := 0) f_shuf f_draw at0 hp hn (by rw [rng_len]; omega) (scps_mem.mpr fun d hd => by obtain ⟨j, rfl, _⟩ := rng_mem hd; rfl) fun ys p4 n4 m4 hperm hp4 hn4 => ?_)
      have hyl : ys.length = xs.length := by rw [hperm.length_eq, rng_len]
      have hord : OrdOk (ys ++ cutD ys none (some 1)) xs := fun d hd => by
        obtain ⟨j, rfl, hj⟩ := rng_mem (hperm.mem_iff.mp (cut_mem hd))
        exact ⟨j, rfl, by omega⟩
      have hcl := cut_len (ys := ys)
      have hsl2 : ∀ N, slS (.lst ys) none (some 1) N = .ok (.f (.lst (cutD ys none (some 1)))) N := fun N => rfl
      simp only [exs_n, exs_c, cf_nx, cf_rt, cf_bk, cf_ct, ex_nm, setC_eq, ex_tp, ex_sb, asgC_eq, at_nm, at_tp, at_sb, ats_n, ats_c, ex_exp, ex_ret, ex_retN, ex_pass, ex_brk, ex_cont, ex_par, ex_iff, iffC_t, iffC_f, iffC_n, ex_for, forC_eq, turnC_eq, ev_con, ev_glo, ev_var, ev_tup, ev_lst, ev_bin, ev_neg, ev_cmp, ev_sub, ev_call, ev_prim, primC_eq, ev_meth, ev_and, ev_or, ev_not, ev_ife, ifeC_t, ifeC_f, ev_slc, ev_new, newC_f, ev_comp, evs_n, evs_c, evT_eq, endC_rt, endC_nx, lk_int, lk_bl, lk_str, lk_non, lk_tup, lk_lst, lk_dct, lk_scr, lk_ref, fd_v, fd_f, tr_bl, tr_int, tr_non, tr_tup, tr_lst, tR_some, bR_some, vR_some, oI_some, gd_t, o_add, o_sub, o_mul, o_fdiv, o_mod, o_pow, o_addt, o_addl, o_adds, o_neg, c_eq, c_ne, c_lt, c_gt, c_le, c_ge, c_isn, c_notn, q_int, q_str, q_bl, q_map, i_tup, i_lst, ai_0, ai_1, ai_2, ai_3, ai_4, ai_5, ai_6, ai_7, ai_8, ai_9, ai_10, ai_11, bd_ok, bdd_ok, sat_ok, List.getElem?_cons_succ, List.getElem?_cons_zero, List.set_cons_succ, List.set_cons_zero, List.map_cons, List.map_nil, bd_bd, bdd_bd, bdd_bdd, bd_bdd, kc_eq, kd_eq, Int.reduceLT, Int.reduceLE, Int.reduceToNat, Int.reducePow, decide_true, decide_false, Bool.and_true, Bool.true_and, Bool.or_true, Bool.true_or, if_true, if_false, reduceCtorEq, andC_t, andC_f, orC_t, orC_f, Bool.not_true, Bool.not_false, ne_eq, not_true_eq_false, not_false_eq_true, Option.map_some, eq_self, compC_eq, compT_eq, compE_t, compE_f, wp_n, wp_c, evTs_n, evTs_1, hsl2]
      rw [gd_p (decide_eq_true (by omega))]
      simp only [exs_n, exs_c, cf_nx, cf_rt, cf_bk, cf_ct, ex_nm, setC_eq, ex_tp, ex_sb, asgC_eq, at_nm, at_tp, at_sb, ats_n, ats_c, ex_exp, ex_ret, ex_retN, ex_pass, ex_brk, ex_cont, ex_par, ex_iff, iffC_t, iffC_f, iffC_n, ex_for, forC_eq, turnC_eq, ev_con, ev_glo, ev_var, ev_tup, ev_lst, ev_bin, ev_neg, ev_cmp, ev_sub, ev_call, ev_prim, primC_eq, ev_meth, ev_and, ev_or, ev_not, ev_ife, ifeC_t, ifeC_f, ev_slc, ev_new, newC_f, ev_comp, evs_n, evs_c, evT_eq, endC_rt, endC_nx, lk_int, lk_bl, lk_str, lk_non, lk_tup, lk_lst, lk_dct, lk_scr, lk_ref, fd_v, fd_f, tr_bl, tr_int, tr_non, tr_tup, tr_lst, tR_some, bR_some, vR_some, oI_some, gd_t, o_add, o_sub, o_mul, o_fdiv, o_mod, o_pow, o_addt, o_addl, o_adds, o_neg, c_eq, c_ne, c_lt, c_gt, c_le, c_ge, c_isn, c_notn, q_int, q_str, q_bl, q_map, i_tup, i_lst, ai_0, ai_1, ai_2, ai_3, ai_4, ai_5, ai_6, ai_7, ai_8, ai_9, ai_10, ai_11, bd_ok, bdd_ok, sat_ok, List.getElem?_cons_succ, List.getElem?_cons_zero, List.set_cons_succ, List.set_cons_zero, List.map_cons, List.map_nil, bd_bd, bdd_bd, bdd_bdd, bd_bdd, kc_eq, kd_eq, Int.reduceLT, Int.reduceLE, Int.reduceToNat, Int.reducePow, decide_true, decide_false, Bool.and_true, Bool.true_and, Bool.or_true, Bool.true_or, if_true, if_false, reduceCtorEq, andC_t, andC_f, orC_t, orC_f, Bool.not_true, Bool.not_false, ne_eq, not_true_eq_false, not_false_eq_true, Option.map_some, eq_self, compC_eq, compT_eq, compE_t, compE_f, wp_n, wp_c, evTs_n, evTs_1]
      generalize ho : ys ++ cutD ys none (some 1) = os at hord ⊢
      have hol : os.length ≤ 1000 := by rw [← ho, List.length_append]; omega
      refine sat_bddq (draw_sat (t := 0) f_draw at0 hp4 hn4 (by omega) fun z p5 n5 m5 hz0 hz1 hp5 hn5 => ?_)
      simp only [exs_n, exs_c, cf_nx, cf_rt, cf_bk, cf_ct, ex_nm, setC_eq, ex_tp, ex_sb, asgC_eq, at_nm, at_tp, at_sb, ats_n, ats_c, ex_exp, ex_ret, ex_retN, ex_pass, ex_brk, ex_cont, ex_par, ex_iff, iffC_t, iffC_f, iffC_n, ex_for, forC_eq, turnC_eq, ev_con, ev_glo, ev_var, ev_tup, ev_lst, ev_bin, ev_neg, ev_cmp, ev_sub, ev_call, ev_prim, primC_eq, ev_meth, ev_and, ev_or, ev_not, ev_ife, ifeC_t, ifeC_f, ev_slc, ev_new, newC_f, ev_comp, evs_n, evs_c, evT_eq, endC_rt, endC_nx, lk_int, lk_bl, lk_str, lk_non, lk_tup, lk_lst, lk_dct, lk_scr, lk_ref, fd_v, fd_f, tr_bl, tr_int, tr_non, tr_tup, tr_lst, tR_some, bR_some, vR_some, oI_some, gd_t, o_add, o_sub, o_mul, o_fdiv, o_mod, o_pow, o_addt, o_addl, o_adds, o_neg, c_eq, c_ne, c_lt, c_gt, c_le, c_ge, c_isn, c_notn, q_int, q_str, q_bl, q_map, i_tup, i_lst, ai_0, ai_1, ai_2, ai_3, ai_4, ai_5, ai_6, ai_7, ai_8, ai_9, ai_10, ai_11, bd_ok, bdd_ok, sat_ok, List.getElem?_cons_succ, List.getElem?_cons_zero, List.set_cons_succ, List.set_cons_zero, List.map_cons, List.map_nil, bd_bd, bdd_bd, bdd_bdd, bd_bdd, kc_eq, kd_eq, Int.reduceLT, Int.reduceLE, Int.reduceToNat, Int.reducePow, decide_true, decide_false, Bool.and_true, Bool.true_and, Bool.or_true, Bool.true_or, if_true, if_false, reduceCtorEq, andC_t, andC_f, orC_t, orC_f, Bool.not_true, Bool.not_false, ne_eq, not_true_eq_false, not_false_eq_true, Option.map_some, eq_self, compC_eq, compT_eq, compE_t, compE_f, wp_n, wp_c, evTs_n, evTs_1]
      have hz : z = 0 ∨ z = 1 ∨ z = 2 := by omega
      rcases hz with rfl | rfl | rfl
      · simp only [exs_n, exs_c, cf_nx, cf_rt, cf_bk, cf_ct, ex_nm, setC_eq, ex_tp, ex_sb, asgC_eq, at_nm, at_tp, at_sb, ats_n, ats_c, ex_exp, ex_ret, ex_retN, ex_pass, ex_brk, ex_cont, ex_par, ex_iff, iffC_t, iffC_f, iffC_n, ex_for, forC_eq, turnC_eq, ev_con, ev_glo, ev_var, ev_tup, ev_lst, ev_bin, ev_neg, ev_cmp, ev_sub, ev_call, ev_prim, primC_eq, ev_meth, ev_and, ev_or, ev_not, ev_ife, ifeC_t, ifeC_f, ev_slc, ev_new, newC_f, ev_comp, evs_n, evs_c, evT_eq, endC_rt, endC_nx, lk_int, lk_bl, lk_str, lk_non, lk_tup, lk_lst, lk_dct, lk_scr, lk_ref, fd_v, fd_f, tr_bl, tr_int, tr_non, tr_tup, tr_lst, tR_some, bR_some, vR_some, oI_some, gd_t, o_add, o_sub, o_mul, o_fdiv, o_mod, o_pow, o_addt, o_addl, o_adds, o_neg, c_eq, c_ne, c_lt, c_gt, c_le, c_ge, c_isn, c_notn, q_int, q_str, q_bl, q_map, i_tup, i_lst, ai_0, ai_1, ai_2, ai_3, ai_4, ai_5, ai_6, ai_7, ai_8, ai_9, ai_10, ai_11, bd_ok, bdd_ok, sat_ok, List.getElem?_cons_succ, List.getElem?_cons_zero, List.set_cons_succ, List.set_cons_zero, List.map_cons, List.map_nil, bd_bd, bdd_bd, bdd_bdd, bd_bdd, kc_eq, kd_eq, Int.reduceLT, Int.reduceLE, Int.reduceToNat, Int.reducePow, decide_true, decide_false, Bool.and_true, Bool.true_and, Bool.or_true, Bool.true_or, if_true, if_false, reduceCtorEq, andC_t, andC_f, orC_t, orC_f, Bool.not_true, Bool.not_false, ne_eq, not_true_eq_false, not_false_eq_true, Option.map_some, eq_self, compC_eq, compT_eq, compE_t, compE_f, wp_n, wp_c, evTs_n, evTs_1, Int.reduceEq]
        refine sat_bddq (ticked_sat (r := 0) (s := 1) (by omega) (by omega) hx hl0 (by omega) at0 at1 (by omega) hp5 hn5 fun tick p6 n6 m6 hp6 hn6 => ?_)
        simp only [exs_n, exs_c, cf_nx, cf_rt, cf_bk, cf_ct, ex_nm, setC_eq, ex_tp, ex_sb, asgC_eq, at_nm, at_tp, at_sb, ats_n, ats_c, ex_exp, ex_ret, ex_retN, ex_pass, ex_brk, ex_cont, ex_par, ex_iff, iffC_t, iffC_f, iffC_n, ex_for, forC_eq, turnC_eq, ev_con, ev_glo, ev_var, ev_tup, ev_lst, ev_bin, ev_neg, ev_cmp, ev_sub, ev_call, ev_prim, primC_eq, ev_meth, ev_and, ev_or, ev_not, ev_ife, ifeC_t, ifeC_f, ev_slc, ev_new, newC_f, ev_comp, evs_n, evs_c, evT_eq, endC_rt, endC_nx, lk_int, lk_bl, lk_str, lk_non, lk_tup, lk_lst, lk_dct, lk_scr, lk_ref, fd_v, fd_f, tr_bl, tr_int, tr_non, tr_tup, tr_lst, tR_some, bR_some, vR_some, oI_some, gd_t, o_add, o_sub, o_mul, o_fdiv, o_mod, o_pow, o_addt, o_addl, o_adds, o_neg, c_eq, c_ne, c_lt, c_gt, c_le, c_ge, c_isn, c_notn, q_int, q_str, q_bl, q_map, i_tup, i_lst, ai_0, ai_1, ai_2, ai_3, ai_4, ai_5, ai_6, ai_7, ai_8, ai_9, ai_10, ai_11, bd_ok, bdd_ok, sat_ok, List.getElem?_cons_succ, List.getElem?_cons_zero, List.set_cons_succ, List.set_cons_zero, List.map_cons, List.map_nil, bd_bd, bdd_bd, bdd_bdd, bd_bdd, kc_eq, kd_eq, Int.reduceLT, Int.reduceLE, Int.reduceToNat, Int.reducePow, decide_true, decide_false, Bool.and_true, Bool.true_and, Bool.or_true, Bool.true_or, if_true, if_false, reduceCtorEq, andC_t, andC_f, orC_t, orC_f, Bool.not_true, Bool.not_false, ne_eq, not_true_eq_false, not_false_eq_true, Option.map_some, eq_self, compC_eq, compT_eq, compE_t, compE_f, wp_n, wp_c, evTs_n, evTs_1, w_lst]
        refine sat_bd (P := fun f N => N = [TapeD ns p6 n6 m6, .lst xs] ∧ ∃ a7 : Option D, f = .nx [some (.scr ns), some (.ref 0), some (.ref 1), some d, some (.lst os), some (.int 0), some (.int tick), a7])
          (for_i (fun j ρ N => N = [TapeD ns p6 n6 m6, .lst xs] ∧ ∃ a7 : Option D, ρ = [some (.scr ns), some (.ref 0), some (.ref 1), some d, some (.lst os), some (.int 0), some (.int tick), a7]) ⟨rfl, _, rfl⟩ (fun _ _ _ _ _ => okG_n) (fun j2 ρ N d2 hd2 w => ?_) fun ρ N w => ?_) fun f N w => ?_
        · obtain ⟨rfl, a7, rfl⟩ := w
          obtain ⟨j3, rfl, hj3⟩ := hord d2 (List.mem_of_getElem? hd2)
          have hg := List.getElem?_eq_getElem hj3
          obtain ⟨p, i, ps, ls, cs, hsys, ok, b1, b2, b3, b4⟩ := hx xs[j3] (List.getElem_mem hj3)
          rw [hsys] at hg
          have e := atI_nat hg
          have hw := fun N => work_ok (k := k + 7) (M := N) (t := tick) ok
          have hdw := fun N => dwork_ok (k := k + 8) (M := N) (t := tick) ok
          have hsm := fun N => same_ok (gl := gl) f_same (k + 7 + 1) (workD (i * p) ps.length tick) N smp_work
          simp only [exs_n, exs_c, cf_nx, cf_rt, cf_bk, cf_ct, ex_nm, setC_eq, ex_tp, ex_sb, asgC_eq, at_nm, at_tp, at_sb, ats_n, ats_c, ex_exp, ex_ret, ex_retN, ex_pass, ex_brk, ex_cont, ex_par, ex_iff, iffC_t, iffC_f, iffC_n, ex_for, forC_eq, turnC_eq, ev_con, ev_glo, ev_var, ev_tup, ev_lst, ev_bin, ev_neg, ev_cmp, ev_sub, ev_call, ev_prim, primC_eq, ev_meth, ev_and, ev_or, ev_not, ev_ife, ifeC_t, ifeC_f, ev_slc, ev_new, newC_f, ev_comp, evs_n, evs_c, evT_eq, endC_rt, endC_nx, lk_int, lk_bl, lk_str, lk_non, lk_tup, lk_lst, lk_dct, lk_scr, lk_ref, fd_v, fd_f, tr_bl, tr_int, tr_non, tr_tup, tr_lst, tR_some, bR_some, vR_some, oI_some, gd_t, o_add, o_sub, o_mul, o_fdiv, o_mod, o_pow, o_addt, o_addl, o_adds, o_neg, c_eq, c_ne, c_lt, c_gt, c_le, c_ge, c_isn, c_notn, q_int, q_str, q_bl, q_map, i_tup, i_lst, ai_0, ai_1, ai_2, ai_3, ai_4, ai_5, ai_6, ai_7, ai_8, ai_9, ai_10, ai_11, bd_ok, bdd_ok, sat_ok, List.getElem?_cons_succ, List.getElem?_cons_zero, List.set_cons_succ, List.set_cons_zero, List.map_cons, List.map_nil, bd_bd, bdd_bd, bdd_bdd, bd_bdd, kc_eq, kd_eq, Int.reduceLT, Int.reduceLE, Int.reduceToNat, Int.reducePow, decide_true, decide_false, Bool.and_true, Bool.true_and, Bool.or_true, Bool.true_or, if_true, if_false, reduceCtorEq, andC_t, andC_f, orC_t, orC_f, Bool.not_true, Bool.not_false, ne_eq, not_true_eq_false, not_false_eq_true, Option.map_some, eq_self, compC_eq, compT_eq, compE_t, compE_f, wp_n, wp_c, evTs_n, evTs_1, at1, getD_some', e, hw, hdw, hsm]
          exact ⟨by trivial, _, rfl⟩
        · obtain ⟨rfl, a7, rfl⟩ := w
          exact ⟨rfl, _, rfl⟩
        · obtain ⟨rfl, a7, rfl⟩ := w
          simp only [exs_n, exs_c, cf_nx, cf_rt, cf_bk, cf_ct, ex_nm, setC_eq, ex_tp, ex_sb, asgC_eq, at_nm, at_tp, at_sb, ats_n, ats_c, ex_exp, ex_ret, ex_retN, ex_pass, ex_brk, ex_cont, ex_par, ex_iff, iffC_t, iffC_f, iffC_n, ex_for, forC_eq, turnC_eq, ev_con, ev_glo, ev_var, ev_tup, ev_lst, ev_bin, ev_neg, ev_cmp, ev_sub, ev_call, ev_prim, primC_eq, ev_meth, ev_and, ev_or, ev_not, ev_ife, ifeC_t, ifeC_f, ev_slc, ev_new, newC_f, ev_comp, evs_n, evs_c, evT_eq, endC_rt, endC_nx, lk_int, lk_bl, lk_str, lk_non, lk_tup, lk_lst, lk_dct, lk_scr, lk_ref, fd_v, fd_f, tr_bl, tr_int, tr_non, tr_tup, tr_lst, tR_some, bR_some, vR_some, oI_some, gd_t, o_add, o_sub, o_mul, o_fdiv, o_mod, o_pow, o_addt, o_addl, o_adds, o_neg, c_eq, c_ne, c_lt, c_gt, c_le, c_ge, c_isn, c_notn, q_int, q_str, q_bl, q_map, i_tup, i_lst, ai_0, ai_1, ai_2, ai_3, ai_4, ai_5, ai_6, ai_7, ai_8, ai_9, ai_10, ai_11, bd_ok, bdd_ok, sat_ok, List.getElem?_cons_succ, List.getElem?_cons_zero, List.set_cons_succ, List.set_cons_zero, List.map_cons, List.map_nil, bd_bd, bdd_bd, bdd_bdd, bd_bdd, kc_eq, kd_eq, Int.reduceLT, Int.reduceLE, Int.reduceToNat, Int.reducePow, decide_true, decide_false, Bool.and_true, Bool.true_and, Bool.or_true, Bool.true_or, if_true, if_false, reduceCtorEq, andC_t, andC_f, orC_t, orC_f, Bool.not_true, Bool.not_false, ne_eq, not_true_eq_false, not_false_eq_true, Option.map_some, eq_self, compC_eq, compT_eq, compE_t, compE_f, wp_n, wp_c, evTs_n, evTs_1, Int.reduceEq]
          exact ⟨⟨p6, n6, m6, hp6, hn6, rfl⟩, _, _, _, _, _, rfl⟩
      · simp only [exs_n, exs_c, cf_nx, cf_rt, cf_bk, cf_ct, ex_nm, setC_eq, ex_tp, ex_sb, asgC_eq, at_nm, at_tp, at_sb, ats_n, ats_c, ex_exp, ex_ret, ex_retN, ex_pass, ex_brk, ex_cont, ex_par, ex_iff, iffC_t, iffC_f, iffC_n, ex_for, forC_eq, turnC_eq, ev_con, ev_glo, ev_var, ev_tup, ev_lst, ev_bin, ev_neg, ev_cmp, ev_sub, ev_call, ev_prim, primC_eq, ev_meth, ev_and, ev_or, ev_not, ev_ife, ifeC_t, ifeC_f, ev_slc, ev_new, newC_f, ev_comp, evs_n, evs_c, evT_eq, endC_rt, endC_nx, lk_int, lk_bl, lk_str, lk_non, lk_tup, lk_lst, lk_dct, lk_scr, lk_ref, fd_v, fd_f, tr_bl, tr_int, tr_non, tr_tup, tr_lst, tR_some, bR_some, vR_some, oI_some, gd_t, o_add, o_sub, o_mul, o_fdiv, o_mod, o_pow, o_addt, o_addl, o_adds, o_neg, c_eq, c_ne, c_lt, c_gt, c_le, c_ge, c_isn, c_notn, q_int, q_str, q_bl, q_map, i_tup, i_lst, ai_0, ai_1, ai_2, ai_3, ai_4, ai_5, ai_6, ai_7, ai_8, ai_9, ai_10, ai_11, bd_ok, bdd_ok, sat_ok, List.getElem?_cons_succ, List.getElem?_cons_zero, List.set_cons_succ, List.set_cons_zero, List.map_cons, List.map_nil, bd_bd, bdd_bd, bdd_bdd, bd_bdd, kc_eq, kd_eq, Int.reduceLT, Int.reduceLE, Int.reduceToNat, Int.reducePow, decide_true, decide_false, Bool.and_true, Bool.true_and, Bool.or_true, Bool.true_or, if_true, if_false, reduceCtorEq, andC_t, andC_f, orC_t, orC_f, Bool.not_true, Bool.not_false, ne_eq, not_true_eq_false, not_false_eq_true, Option.map_some, eq_self, compC_eq, compT_eq, compE_t, compE_f, wp_n, wp_c, evTs_n, evTs_1, Int.reduceEq]
        refine sat_bddq (draw_sat (t := 0) f_draw at0 hp5 hn5 (by omega) fun a p6 n6 m6 ha0 ha1 hp6 hn6 => ?_)
        have hb := fun N h => blocks_ok (k := k + 5) (M := N) (s := 1) hx h hord ha0 (by omega)
        simp only [exs_n, exs_c, cf_nx, cf_rt, cf_bk, cf_ct, ex_nm, setC_eq, ex_tp, ex_sb, asgC_eq, at_nm, at_tp, at_sb, ats_n, ats_c, ex_exp, ex_ret, ex_retN, ex_pass, ex_brk, ex_cont, ex_par, ex_iff, iffC_t, iffC_f, iffC_n, ex_for, forC_eq, turnC_eq, ev_con, ev_glo, ev_var, ev_tup, ev_lst, ev_bin, ev_neg, ev_cmp, ev_sub, ev_call, ev_prim, primC_eq, ev_meth, ev_and, ev_or, ev_not, ev_ife, ifeC_t, ifeC_f, ev_slc, ev_new, newC_f, ev_comp, evs_n, evs_c, evT_eq, endC_rt, endC_nx, lk_int, lk_bl, lk_str, lk_non, lk_tup, lk_lst, lk_dct, lk_scr, lk_ref, fd_v, fd_f, tr_bl, tr_int, tr_non, tr_tup, tr_lst, tR_some, bR_some, vR_some, oI_some, gd_t, o_add, o_sub, o_mul, o_fdiv, o_mod, o_pow, o_addt, o_addl, o_adds, o_neg, c_eq, c_ne, c_lt, c_gt, c_le, c_ge, c_isn, c_notn, q_int, q_str, q_bl, q_map, i_tup, i_lst, ai_0, ai_1, ai_2, ai_3, ai_4, ai_5, ai_6, ai_7, ai_8, ai_9, ai_10, ai_11, bd_ok, bdd_ok, sat_ok, List.getElem?_cons_succ, List.getElem?_cons_zero, List.set_cons_succ, List.set_cons_zero, List.map_cons, List.map_nil, bd_bd, bdd_bd, bdd_bdd, bd_bdd, kc_eq, kd_eq, Int.reduceLT, Int.reduceLE, Int.reduceToNat, Int.reducePow, decide_true, decide_false, Bool.and_true, Bool.true_and, Bool.or_true, Bool.true_or, if_true, if_false, reduceCtorEq, andC_t, andC_f, orC_t, orC_f, Bool.not_true, Bool.not_false, ne_eq, not_true_eq_false, not_false_eq_true, Option.map_some, eq_self, compC_eq, compT_eq, compE_t, compE_f, wp_n, wp_c, evTs_n, evTs_1, hb _ at1, Int.reduceEq]
        exact ⟨⟨p6, n6, m6, hp6, hn6, rfl⟩, _, _, _, _, _, rfl⟩
      · simp only [exs_n, exs_c, cf_nx, cf_rt, cf_bk, cf_ct, ex_nm, setC_eq, ex_tp, ex_sb, asgC_eq, at_nm, at_tp, at_sb, ats_n, ats_c, ex_exp, ex_ret, ex_retN, ex_pass, ex_brk, ex_cont, ex_par, ex_iff, iffC_t, iffC_f, iffC_n, ex_for, forC_eq, turnC_eq, ev_con, ev_glo, ev_var, ev_tup, ev_lst, ev_bin, ev_neg, ev_cmp, ev_sub, ev_call, ev_prim, primC_eq, ev_meth, ev_and, ev_or, ev_not, ev_ife, ifeC_t, ifeC_f, ev_slc, ev_new, newC_f, ev_comp, evs_n, evs_c, evT_eq, endC_rt, endC_nx, lk_int, lk_bl, lk_str, lk_non, lk_tup, lk_lst, lk_dct, lk_scr, lk_ref, fd_v, fd_f, tr_bl, tr_int, tr_non, tr_tup, tr_lst, tR_some, bR_some, vR_some, oI_some, gd_t, o_add, o_sub, o_mul, o_fdiv, o_mod, o_pow, o_addt, o_addl, o_adds, o_neg, c_eq, c_ne, c_lt, c_gt, c_le, c_ge, c_isn, c_notn, q_int, q_str, q_bl, q_map, i_tup, i_lst, ai_0, ai_1, ai_2, ai_3, ai_4, ai_5, ai_6, ai_7, ai_8, ai_9, ai_10, ai_11, bd_ok, bdd_ok, sat_ok, List.getElem?_cons_succ, List.getElem?_cons_zero, List.set_cons_succ, List.set_cons_zero, List.map_cons, List.map_nil, bd_bd, bdd_bd, bdd_bdd, bd_bdd, kc_eq, kd_eq, Int.reduceLT, Int.reduceLE, Int.reduceToNat, Int.reducePow, decide_true, decide_false, Bool.and_true, Bool.true_and, Bool.or_true, Bool.true_or, if_true, if_false, reduceCtorEq, andC_t, andC_f, orC_t, orC_f, Bool.not_true, Bool.not_false, ne_eq, not_true_eq_false, not_false_eq_true, Option.map_some, eq_self, compC_eq, compT_eq, compE_t, compE_f, wp_n, wp_c, evTs_n, evTs_1, Int.reduceEq]
        refine sat_bddq (backs_sat (r := 0) (s := 1) hord hol hx hl0 (by omega) at0 at1 (by omega) hp5 hn5 fun p6 n6 m6 hp6 hn6 => ?_)
        simp only [exs_n, exs_c, cf_nx, cf_rt, cf_bk, cf_ct, ex_nm, setC_eq, ex_tp, ex_sb, asgC_eq, at_nm, at_tp, at_sb, ats_n, ats_c, ex_exp, ex_ret, ex_retN, ex_pass, ex_brk, ex_cont, ex_par, ex_iff, iffC_t, iffC_f, iffC_n, ex_for, forC_eq, turnC_eq, ev_con, ev_glo, ev_var, ev_tup, ev_lst, ev_bin, ev_neg, ev_cmp, ev_sub, ev_call, ev_prim, primC_eq, ev_meth, ev_and, ev_or, ev_not, ev_ife, ifeC_t, ifeC_f, ev_slc, ev_new, newC_f, ev_comp, evs_n, evs_c, evT_eq, endC_rt, endC_nx, lk_int, lk_bl, lk_str, lk_non, lk_tup, lk_lst, lk_dct, lk_scr, lk_ref, fd_v, fd_f, tr_bl, tr_int, tr_non, tr_tup, tr_lst, tR_some, bR_some, vR_some, oI_some, gd_t, o_add, o_sub, o_mul, o_fdiv, o_mod, o_pow, o_addt, o_addl, o_adds, o_neg, c_eq, c_ne, c_lt, c_gt, c_le, c_ge, c_isn, c_notn, q_int, q_str, q_bl, q_map, i_tup, i_lst, ai_0, ai_1, ai_2, ai_3, ai_4, ai_5, ai_6, ai_7, ai_8, ai_9, ai_10, ai_11, bd_ok, bdd_ok, sat_ok, List.getElem?_cons_succ, List.getElem?_cons_zero, List.set_cons_succ, List.set_cons_zero, List.map_cons, List.map_nil, bd_bd, bdd_bd, bdd_bdd, bd_bdd, kc_eq, kd_eq, Int.reduceLT, Int.reduceLE, Int.reduceToNat, Int.reducePow, decide_true, decide_false, Bool.and_true, Bool.true_and, Bool.or_true, Bool.true_or, if_true, if_false, reduceCtorEq, andC_t, andC_f, orC_t, orC_f, Bool.not_true, Bool.not_false, ne_eq, not_true_eq_false, not_false_eq_true, Option.map_some, eq_self, compC_eq, compT_eq, compE_t, compE_f, wp_n, wp_c, evTs_n, evTs_1]
        exact ⟨⟨p6, n6, m6, hp6, hn6, rfl⟩, _, _, _, _, _, rfl⟩
    · obtain ⟨h, a3, a4, a5, a6, a7, rfl⟩ := w
      exact ⟨h, _, _, _, _, _, rfl⟩
    · obtain ⟨⟨p, n, m, hp, hn, rfl⟩, a3, a4, a5, a6, a7, rfl⟩ := w
      simp only [exs_n, exs_c, cf_nx, cf_rt, cf_bk, cf_ct, ex_nm, setC_eq, ex_tp, ex_sb, asgC_eq, at_nm, at_tp, at_sb, ats_n, ats_c, ex_exp, ex_ret, ex_retN, ex_pass, ex_brk, ex_cont, ex_par, ex_iff, iffC_t, iffC_f, iffC_n, ex_for, forC_eq, turnC_eq, ev_con, ev_glo, ev_var, ev_tup, ev_lst, ev_bin, ev_neg, ev_cmp, ev_sub, ev_call, ev_prim, primC_eq, ev_meth, ev_and, ev_or, ev_not, ev_ife, ifeC_t, ifeC_f, ev_slc, ev_new, newC_f, ev_comp, evs_n, evs_c, evT_eq, endC_rt, endC_nx, lk_int, lk_bl, lk_str, lk_non, lk_tup, lk_lst, lk_dct, lk_scr, lk_ref, fd_v, fd_f, tr_bl, tr_int, tr_non, tr_tup, tr_lst, tR_some, bR_some, vR_some, oI_some, gd_t, o_add, o_sub, o_mul, o_fdiv, o_mod, o_pow, o_addt, o_addl, o_adds, o_neg, c_eq, c_ne, c_lt, c_gt, c_le, c_ge, c_isn, c_notn, q_int, q_str, q_bl, q_map, i_tup, i_lst, ai_0, ai_1, ai_2, ai_3, ai_4, ai_5, ai_6, ai_7, ai_8, ai_9, ai_10, ai_11, bd_ok, bdd_ok, sat_ok, List.getElem?_cons_succ, List.getElem?_cons_zero, List.set_cons_succ, List.set_cons_zero, List.map_cons, List.map_nil, bd_bd, bdd_bd, bdd_bdd, bd_bdd, kc_eq, kd_eq, Int.reduceLT, Int.reduceLE, Int.reduceToNat, Int.reducePow, decide_true, decide_false, Bool.and_true, Bool.true_and, Bool.or_true, Bool.true_or, if_true, if_false, reduceCtorEq, andC_t, andC_f, orC_t, orC_f, Bool.not_true, Bool.not_false, ne_eq, not_true_eq_false, not_false_eq_true, Option.map_some, eq_self, compC_eq, compT_eq, compE_t, compE_f, wp_n, wp_c, evTs_n, evTs_1]
      exact exit_v rfl rfl rfl rfl
end
theorem law_says : LawSays (drs.map DR.fn) gl 40 19 63 := fun ns _ => law_ok (k := 30)
end Lw
set_option maxHeartbeats 0
namespace Lw
open PySem PySem.Spec L2 PyI
open PyProof.Rows hiding St
def fa : List He.Fa := ([.glo "cycle_of", .glo "parts_of", .glo "work_at", .glo "many_blocks", .glo "first_block", .glo "back_to", .glo "_law_same", .glo "_law_shuffled", .glo "_law_draw", .glo "_law_pick", .glo "_law_tape", .glo "_law_d_made", .glo "_law_d_bare", .glo "_law_d_near", .glo "_law_d_work", .glo "_law_d_back"] : List He.Fa) ++ ([.glo "_law_d_ticked", .glo "_law_d_backs", .glo "_law_d_blocks", .glo "law", .free "isinstance", .free "tuple", .free "str", .free "list", .free "range", .free "len", .free "max", .free "int", .free "min", .free "bool", .free "abs", .free "dict"] : List He.Fa)
abbrev R : PySem.W.OpenRow := PySem.W.OpenLaw.row PySem.Challenge.rw_capkern_k60_work_of_several_systems_by_t
abbrev hk : PySem.W.Hook := He.hookD 4 fa (drs.map DR.d)
def ob (s : PySem.W.SharedT) : He.AlD := He.obsDG 4 fa (drs.map DR.d) (HandSHeadRun.getT s)
def loose : List Str := (["cycle_of", "parts_of", "work_at", "many_blocks", "first_block", "back_to", "_law_same", "_law_shuffled", "_law_draw", "_law_pick", "_law_tape", "_law_d_made", "_law_d_bare", "_law_d_near", "_law_d_work", "_law_d_back"] : List Str) ++ (["_law_d_ticked", "_law_d_backs", "_law_d_blocks"] : List Str)
theorem ob_eq (s : PySem.W.SharedT) : ob s = hk.obs s.abs := He.obsDG_eq (HandSHeadRun.getT_eq s)
theorem run (w : World) : HandSHeadRun.RunEq R (PySem.W.view R.prog [22]) hk ob 40000 loose w := by
  refine PySem.W.byRow2 "special-get-raises" (P := fun w => HandSHeadRun.RunEq R (PySem.W.view R.prog [22]) hk ob 40000 loose w) (fun w os => ?_) (fun w os => ?_) w
  · kernel_rfl
  · kernel_rfl
theorem glsM {K : PySem.W.Frag} {h : Heap} {mg : Str → Option Value} (X : K.In h) (G : h.Ns mainGlobals mg) (c : He.SaysD fa (drs.map DR.d) K) : ∀ x g, gls.lookup x = some g → ∃ u v, mg x = some u ∧ RelV v u ∧ ∀ H F m, Rep K H F m (gl g) v := by
  intro x g h
  simp [gls] at h
theorem hgM : ∀ r ∈ drs, He.Fa.glo r.nm ∈ fa := by
  have h : (drs.all fun r => fa.any fun f => match f with
    | .glo x => decide (x = r.nm)
    | _ => false) = true := by decide +kernel
  intro r hr
  have := List.all_eq_true.mp h r hr
  obtain ⟨f, hf, e⟩ := List.any_eq_true.mp this
  cases f <;> first | (cases e; done) | (have := of_decide_eq_true e; subst this; exact hf)
theorem hblM : ∀ x ∈ bl, He.Fa.free x ∈ fa := by
  have h : (bl.all fun r => fa.any fun f => match f with
    | .free x => decide (x = r)
    | _ => false) = true := by decide +kernel
  intro r hr
  have := List.all_eq_true.mp h r hr
  obtain ⟨f, hf, e⟩ := List.any_eq_true.mp this
  cases f <;> first | (cases e; done) | (have := of_decide_eq_true e; subst this; exact hf)
end Lw
open PySem PySem.W PySem.Calls PyProof.Rows
theorem PySem.Challenge.cw_capkern_k60_work_of_several_systems_by_t_holds : PySem.Challenge.rw_capkern_k60_work_of_several_systems_by_t.Holds := by
  w_on; o_law
  refine HandSHeadRun.head_any (r := OpenLaw.row PySem.Challenge.rw_capkern_k60_work_of_several_systems_by_t) (q := view (OpenLaw.row PySem.Challenge.rw_capkern_k60_work_of_several_systems_by_t).prog [22]) (H := Lw.hk) (ob := Lw.ob) (M := 40000) (loose := Lw.loose) (d := HandSHeadRun.topDef (OpenLaw.row PySem.Challenge.rw_capkern_k60_work_of_several_systems_by_t).prog 22) (kwd := []) Lw.ob_eq
    (by kernel_rfl) (fun s => by kernel_rfl) Lw.run (by kernel_rfl) (by kernel_rfl) (by kernel_rfl) (by rfl) (by first | assumption | decide +kernel) (by decide +kernel) ⟨rfl, rfl, rfl, rfl, rfl, by decide +kernel⟩ ?hw ?hc
  case hw => w_witness2
  case hc =>
    refine L2.walk_ofE (l := PySem.Challenge.rw_capkern_k60_work_of_several_systems_by_t) (n := 63) (k := 40) (x := "script") (CX := L2.CX0) rfl (by decide) (by kernel_rfl) ⟨rfl, by decide, by decide⟩ ?F (fun _ _ _ _ z => z)
    intro w mg fa h Y G hmg0
    have hmg : mg (Lw.r_law).nm = some (.ref fa) := by
      have e : (HandSHeadRun.topDef (OpenLaw.row PySem.Challenge.rw_capkern_k60_work_of_several_systems_by_t).prog 22).name = (Lw.r_law).nm := by kernel_rfl
      rw [← e]
      exact hmg0
    exact PyI.join (gl := Lw.gl) (r := Lw.r_law) Y G Lw.all_ok Lw.hgM Lw.hblM (fun K KX c => Lw.glsM KX G c) rfl (by decide +kernel) hmg Lw.law_says
