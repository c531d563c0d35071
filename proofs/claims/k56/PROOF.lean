import PyProof.Rows.All
import Wide.All
import OpenK.AllK
import Wide.FinOn
import HandS.ForMost
import HandS.Deep
import HandS.Style
import HandS.TupAny
import HandS.NoneIn
import HandS.Gcd
import HandS.Wide
import HandS.Conv
import HandS.IsInst
import HandS.Zip
import HandS.Walk
import HandS.Flow
import HandS.HeadEnd
import HandS.HeadHook2
import HandS.Head2
import HandS.Small
import HandS.SetFor
import KE.SortData
import KE.DataMinMax
import KE.KeyNested
import HandS.TupMul
import KE.GoesMore
import HandS.Star
import HandS.Strs
import HandS.Sort
import KE.GoesZip
import KE.GoesEnumKw
import KE.KDictPairs
import HandS.SetBool
import KE.KDictKeyed
import KE.KDictSum
import HandS.TupLen
import KE.DataFind
import KE.KDictDisplayH
import KE.KDictCopyH
import PyProof.DictTable
import HandS.EndBits
import HandS.Codes
import HandS.Words
import HandS.Defaults
import HandS.Head0
import HandS.Head1
import HandS.Head3
import HandS.HeadHook1
import HandS.HeadHook4
import PySem.Challenge.RW_rimnets_k56_whole_pairings_that_come
set_option Elab.async false
set_option linter.all false
set_option maxRecDepth 100000
set_option maxHeartbeats 0
/-! Rx, part 0: a small language of reckoning over plain data, and what it reckons. -/
namespace Rx
open PySem L2

/-- a thing in a slot: frozen data; a list of its own whose items are frozen; a list, a tuple, a dict of its own things; the script; a range -/
inductive MV where
  | val (d : PyData)
  | ls (ds : List PyData)
  | lst (ms : List MV)
  | tup (ms : List MV)
  | dct (ks : List Key) (ms : List MV)
  | scr (ns : List Int)
  | rng (lo hi : Int)
  | dtt (kvs : List (NestedKey × PyData))
  | fdt (kvs : List (NestedKey × PyData))

abbrev MEnv := List (Option MV)
abbrev lim : Nat := 1000000

mutual
def MV.frz : MV → Option PyData
  | .val d => some d
  | .ls ds => some (.list ds)
  | .lst ms => (frzAll ms).map .list
  | .tup ms => (frzAll ms).map .tuple
  | .dct _ _ => none
  | .scr _ => none
  | .rng _ _ => none
  | .dtt _ => none
  | .fdt _ => none
def frzAll : List MV → Option (List PyData)
  | [] => some []
  | m :: ms => m.frz.bind fun d => (frzAll ms).map fun ds => d :: ds
end

/-- what a slot shows at a glance -/
def MV.pk : MV → Option PyData
  | .val d => some d
  | .ls ds => some (.list ds)
  | _ => none

inductive Ty where
  | int | bool | str | tuple | list
  deriving DecidableEq

inductive Op where
  | add | sub | mul | fdiv | mod | pow | neg
  | eq | ne | lt | le | gt | ge | inn | nin | isN | notN | isB | notB
  | ix | sl (lo hi : Bool) | rev
  | len | int | abs | repr | toTup | toLst | sorted | sum | min2 | max2 | min1 | max1 | all | gcd | index | count
  | lrange1 | lrange2 | trange3 | lend | lindex | tsum | isa (t : Ty)
  deriving DecidableEq

def eqD : PyData → PyData → Option Bool
  | .str x, .str y => some (decide (x = y))
  | a, b => if (SeqAt.shaped a && SeqAt.shaped b) = true then some (PyData.eqv a b) else none

def seqOf : PyData → Option (List PyData)
  | .list xs => some xs
  | .tuple xs => some xs
  | _ => none
def cutL {α : Type} (xs : List α) (lo hi : Option Int) : List α := (xs.drop (HT.sIx xs.length 0 lo)).take (HT.sIx xs.length xs.length hi - HT.sIx xs.length 0 lo)
def slOf (d : PyData) (lo hi : Option Int) : Option PyData := match d with
  | .list xs => some (.list (cutL xs lo hi))
  | .tuple xs => some (.tuple (cutL xs lo hi))
  | _ => none
def intsOf : List PyData → Option (List Int)
  | [] => some []
  | .int i :: r => (intsOf r).map fun is => i :: is
  | _ => none
def boolsOf : List PyData → Option (List Bool)
  | [] => some []
  | .bool i :: r => (boolsOf r).map fun is => i :: is
  | _ => none
/-- how many signs a datum's repr has at most -/
def signs : PyData → Nat
  | .list xs => signsAll xs + 2
  | .tuple xs => signsAll xs + 3
  | .str x => (reprText x).length
  | .int i => i.natAbs.log2 + 3
  | _ => 5
where signsAll : List PyData → Nat
  | [] => 0
  | x :: xs => signs x + 2 + signsAll xs
def showOk (d : PyData) : Bool := d.showable && decide (signs d ≤ lim) && decide (d.depth ≤ 64) && !d.hasDict
def alikes (ds : List PyData) : Bool := ds.all fun d => ds.all fun e => PySem.W.alike d e
def sortables (ds : List PyData) : Bool := (ds.all fun d => match d with | .tuple (_ :: _) => true | _ => false) || (ds.all fun d => match d with | .none => false | .tuple _ => false | _ => true) ||
  (match ds with | .tuple [] :: r => r.all (fun d => match d with | .tuple _ => true | _ => false) | _ => false)
def deepOk (ds : List PyData) : Bool := ds.all fun d => decide (d.depth ≤ 64)
def mgF {α : Type} (le : α → α → Bool) : Nat → List α → List α → List α
  | 0, xs, ys => xs ++ ys
  | _ + 1, [], ys => ys
  | _ + 1, x :: xs, [] => x :: xs
  | n + 1, x :: xs, y :: ys => bif le x y then x :: mgF le n xs (y :: ys) else y :: mgF le n (x :: xs) ys
def msF {α : Type} (le : α → α → Bool) : Nat → List α → List α
  | 0, xs => xs
  | _ + 1, [] => []
  | _ + 1, [a] => [a]
  | n + 1, a :: b :: xs => mgF le (xs.length + 2) (msF le n ((a :: b :: xs).take ((xs.length + 2 + 1) / 2))) (msF le n ((a :: b :: xs).drop ((xs.length + 2 + 1) / 2)))
theorem mgF_eq {α : Type} (le : α → α → Bool) : ∀ (n : Nat) (xs ys : List α), xs.length + ys.length ≤ n → mgF le n xs ys = List.merge xs ys le
  | 0, xs, ys, h => by
    have h1 : xs = [] := List.eq_nil_of_length_eq_zero (by omega)
    have h2 : ys = [] := List.eq_nil_of_length_eq_zero (by omega)
    subst h1 h2
    simp [mgF]
  | n + 1, [], ys, h => by simp [mgF]
  | n + 1, x :: xs, [], h => by simp [mgF]
  | n + 1, x :: xs, y :: ys, h => by
    rw [List.length_cons, List.length_cons] at h
    unfold mgF
    rw [mgF_eq le n xs (y :: ys) (by rw [List.length_cons]; omega), mgF_eq le n (x :: xs) ys (by rw [List.length_cons]; omega), List.cons_merge_cons]
    cases le x y <;> rfl
theorem msF_eq {α : Type} (le : α → α → Bool) : ∀ (n : Nat) (xs : List α), xs.length ≤ n → msF le n xs = xs.mergeSort le
  | 0, xs, h => by
    have h1 : xs = [] := List.eq_nil_of_length_eq_zero (by omega)
    subst h1
    simp [msF]
  | n + 1, [], h => by simp [msF]
  | n + 1, [a], h => by simp [msF]
  | n + 1, a :: b :: xs, h => by
    rw [List.length_cons, List.length_cons] at h
    unfold msF
    have h1 : ((a :: b :: xs).take ((xs.length + 2 + 1) / 2)).length ≤ n := by rw [List.length_take, List.length_cons, List.length_cons]; omega
    have h2 : ((a :: b :: xs).drop ((xs.length + 2 + 1) / 2)).length ≤ n := by rw [List.length_drop, List.length_cons, List.length_cons]; omega
    rw [msF_eq le n _ h1, msF_eq le n _ h2, mgF_eq]
    · rw [List.mergeSort, List.MergeSort.Internal.splitInTwo_fst, List.MergeSort.Internal.splitInTwo_snd]
      rfl
    · rw [List.length_mergeSort, List.length_mergeSort, List.length_take, List.length_drop, List.length_cons, List.length_cons]; omega
def sortD (ds : List PyData) : List PyData := msF (PySem.W.dataLe false id) ds.length ds
theorem sortD_eq (ds : List PyData) : sortD ds = ds.mergeSort (PySem.W.dataLe false id) := msF_eq _ _ _ (Nat.le_refl _)
def bigOk (i : Int) : Bool := decide (i.natAbs.log2 < 60000000)
def smlOk (i : Int) : Bool := decide (i.natAbs < 1152921504606846976)
def mulOk (i j : Int) : Bool := smlOk i || smlOk j || (bigOk i && bigOk j)
def rangeD (lo hi : Int) : List PyData := (List.range (hi - lo).toNat).map fun (k : Nat) => PyData.int (lo + (k : Int))

def s_add : List PyData → Option PyData
  | [.int i, .int j] => some (.int (i + j))
  | [.list xs, .list ys] => if xs.length + ys.length ≤ lim then some (.list (xs ++ ys)) else none
  | [.tuple xs, .tuple ys] => if xs.length + ys.length ≤ lim then some (.tuple (xs ++ ys)) else none
  | _ => none
def s_sub : List PyData → Option PyData
  | [.int i, .int j] => some (.int (i - j))
  | _ => none
def s_mul : List PyData → Option PyData
  | [.int i, .int j] => if mulOk i j = true then some (.int (i * j)) else none
  | [.list xs, .int k] => if xs.length * k.toNat ≤ lim ∧ k ≤ lim ∧ -1000000 ≤ k then some (.list (List.replicate k.toNat xs).flatten) else none
  | [.tuple xs, .int k] => if xs.length ≤ 1000 ∧ k ≤ 1000 ∧ -1000 ≤ k then some (.tuple (List.replicate k.toNat xs).flatten) else none
  | _ => none
def s_fdiv : List PyData → Option PyData
  | [.int i, .int j] => if j ≠ 0 ∧ j.natAbs.log2 < 9000 then some (.int (i.fdiv j)) else none
  | _ => none
def s_mod : List PyData → Option PyData
  | [.int i, .int j] => if j ≠ 0 then some (.int (i.fmod j)) else none
  | _ => none
def s_pow : List PyData → Option PyData
  | [.int i, .int j] => if 0 ≤ j ∧ j ≤ 1000 ∧ i.natAbs < 2 ^ 64 then some (.int (i ^ j.toNat)) else none
  | _ => none
def s_neg : List PyData → Option PyData
  | [.int i] => some (.int (-i))
  | _ => none
def s_eq : List PyData → Option PyData
  | [a, b] => (eqD a b).map .bool
  | _ => none
def s_ne : List PyData → Option PyData
  | [a, b] => (eqD a b).map fun c => .bool (!c)
  | _ => none
def s_lt : List PyData → Option PyData
  | [.int i, .int j] => some (.bool (decide (i < j)))
  | _ => none
def s_le : List PyData → Option PyData
  | [.int i, .int j] => some (.bool (decide (i ≤ j)))
  | _ => none
def s_gt : List PyData → Option PyData
  | [.int i, .int j] => some (.bool (decide (j < i)))
  | _ => none
def s_ge : List PyData → Option PyData
  | [.int i, .int j] => some (.bool (decide (j ≤ i)))
  | _ => none
def s_inn : List PyData → Option PyData
  | [a, .list xs] => if (SeqAt.shaped a && SeqAt.shaped (.list xs)) = true then some (.bool (xs.any fun z => PyData.eqv z a)) else none
  | [a, .tuple xs] => if (SeqAt.shaped a && SeqAt.shaped (.tuple xs)) = true then some (.bool (xs.any fun z => PyData.eqv z a)) else none
  | _ => none
def s_nin : List PyData → Option PyData
  | [a, .list xs] => if (SeqAt.shaped a && SeqAt.shaped (.list xs)) = true then some (.bool (!xs.any fun z => PyData.eqv z a)) else none
  | [a, .tuple xs] => if (SeqAt.shaped a && SeqAt.shaped (.tuple xs)) = true then some (.bool (!xs.any fun z => PyData.eqv z a)) else none
  | _ => none
def s_isN : List PyData → Option PyData
  | [a] => some (.bool (match a with | .none => true | _ => false))
  | _ => none
def s_notN : List PyData → Option PyData
  | [a] => some (.bool (match a with | .none => false | _ => true))
  | _ => none
def s_isB : List PyData → Option PyData
  | [.bool a, .bool b] => some (.bool (decide (a = b)))
  | _ => none
def s_notB : List PyData → Option PyData
  | [.bool a, .bool b] => some (.bool (!decide (a = b)))
  | _ => none
def s_ix : List PyData → Option PyData
  | [.list xs, .int i] => atI xs i
  | [.tuple xs, .int i] => atI xs i
  | _ => none
def s_sl_false_false : List PyData → Option PyData
  | [d] => slOf d none none
  | _ => none
def s_sl_true_false : List PyData → Option PyData
  | [d, .int i] => slOf d (some i) none
  | _ => none
def s_sl_false_true : List PyData → Option PyData
  | [d, .int i] => slOf d none (some i)
  | _ => none
def s_sl_true_true : List PyData → Option PyData
  | [d, .int i, .int j] => slOf d (some i) (some j)
  | _ => none
def s_rev : List PyData → Option PyData
  | [.list xs] => some (.list xs.reverse)
  | [.tuple xs] => some (.tuple xs.reverse)
  | _ => none
def s_len : List PyData → Option PyData
  | [.list xs] => some (.int xs.length)
  | [.tuple xs] => some (.int xs.length)
  | _ => none
def s_int : List PyData → Option PyData
  | [.int i] => some (.int i)
  | [.bool b] => some (.int (if b then 1 else 0))
  | _ => none
def s_abs : List PyData → Option PyData
  | [.int i] => some (.int (if i < 0 then -i else i))
  | _ => none
def s_repr : List PyData → Option PyData
  | [d] => if showOk d = true then some (.str (PyData.shown d)) else none
  | _ => none
def s_toTup : List PyData → Option PyData
  | [.list xs] => some (.tuple xs)
  | [.tuple xs] => some (.tuple xs)
  | _ => none
def s_toLst : List PyData → Option PyData
  | [.list xs] => some (.list xs)
  | [.tuple xs] => some (.list xs)
  | _ => none
def s_sorted : List PyData → Option PyData
  | [.list xs] => if (alikes xs && sortables xs && deepOk xs) = true then some (.list (sortD xs)) else none
  | [.tuple xs] => if (alikes xs && sortables xs && deepOk xs) = true then some (.list (sortD xs)) else none
  | _ => none
def s_sum : List PyData → Option PyData
  | [.list xs] => (intsOf xs).map fun is => .int is.sum
  | _ => none
def s_min2 : List PyData → Option PyData
  | [.int i, .int j] => some (.int (if j < i then j else i))
  | _ => none
def s_max2 : List PyData → Option PyData
  | [.int i, .int j] => some (.int (if j > i then j else i))
  | _ => none
def s_min1 : List PyData → Option PyData
  | [.list (x :: xs)] => if (alikes (x :: xs) && sortables (x :: xs) && deepOk (x :: xs)) = true then some (PySem.W.minD x xs) else none
  | _ => none
def s_max1 : List PyData → Option PyData
  | [.list (x :: xs)] => if (alikes (x :: xs) && sortables (x :: xs) && deepOk (x :: xs)) = true then some (PySem.W.maxD x xs) else none
  | _ => none
def s_all : List PyData → Option PyData
  | [.list xs] => (boolsOf xs).map fun bs => .bool (bs.all id)
  | _ => none
def s_gcd : List PyData → Option PyData
  | [.int a, .int b] => some (.int ((Nat.gcd a.natAbs b.natAbs : Nat) : Int))
  | _ => none
def s_count : List PyData → Option PyData
  | [.tuple xs, a] => if (SeqAt.shaped a && SeqAt.shaped (.tuple xs)) = true then some (.int ((xs.countP fun z => PyData.eqv z a : Nat) : Int)) else none
  | _ => none
def s_tsum : List PyData → Option PyData
  | [.tuple xs] => (intsOf xs).map fun is => .int is.sum
  | _ => none
def s_index : List PyData → Option PyData
  | [.tuple xs, a] => if (SeqAt.shaped a && SeqAt.shaped (.tuple xs)) = true then (xs.findIdx? fun z => PyData.eqv z a).map fun j => .int (j : Nat) else none
  | _ => none
def s_lindex : List PyData → Option PyData
  | [.list xs, a] => if (SeqAt.shaped a && SeqAt.shaped (.list xs)) = true then (xs.findIdx? fun z => PyData.eqv z a).map fun j => .int (j : Nat) else none
  | _ => none
def s_lrange1 : List PyData → Option PyData
  | [.int j] => if -lim ≤ j ∧ j ≤ lim then some (.list (rangeD 0 j)) else none
  | _ => none
def s_lrange2 : List PyData → Option PyData
  | [.int i, .int j] => if -lim ≤ i ∧ i ≤ lim ∧ -lim ≤ j ∧ j ≤ lim then some (.list (rangeD i j)) else none
  | _ => none
def s_trange3 : List PyData → Option PyData
  | [.int i, .int j, .int k] => if -lim ≤ i ∧ i ≤ lim ∧ -lim ≤ j ∧ j ≤ lim ∧ 0 < k ∧ k ≤ lim then some (.tuple ((List.range ((j - i + k - 1) / k).toNat).map fun (m : Nat) => PyData.int (i + (m : Int) * k))) else none
  | _ => none
/-- the keys of pairs, whole numbers or truth values; how many unlike ones -/
def pairsI : List PyData → Option (List Int)
  | [] => some []
  | .tuple [.int k, _] :: r => (pairsI r).map fun ks => k :: ks
  | _ => none
def pairsB : List PyData → Option (List Bool)
  | [] => some []
  | .tuple [.bool k, _] :: r => (pairsB r).map fun ks => k :: ks
  | _ => none
def dnum {α : Type} [DecidableEq α] : List α → List α → Nat
  | acc, [] => acc.length
  | acc, k :: ks => dnum (if k ∈ acc then acc else acc ++ [k]) ks
def s_lend : List PyData → Option PyData
  | [.list ds] => match pairsI ds with
    | some ks => some (.int (dnum [] ks : Nat))
    | none => (pairsB ds).map fun bs => .int (dnum [] bs : Nat)
  | _ => none
def tyOk : Ty → PyData → Bool
  | .int, .int _ => true
  | .int, .bool _ => true
  | .bool, .bool _ => true
  | .str, .str _ => true
  | .tuple, .tuple _ => true
  | .list, .list _ => true
  | _, _ => false
def s_isa (t : Ty) : List PyData → Option PyData
  | [.dict _] => none
  | [d] => some (.bool (tyOk t d))
  | _ => none
def opSem : Op → List PyData → Option PyData
  | .add => s_add
  | .sub => s_sub
  | .mul => s_mul
  | .fdiv => s_fdiv
  | .mod => s_mod
  | .pow => s_pow
  | .neg => s_neg
  | .eq => s_eq
  | .ne => s_ne
  | .lt => s_lt
  | .le => s_le
  | .gt => s_gt
  | .ge => s_ge
  | .inn => s_inn
  | .nin => s_nin
  | .isN => s_isN
  | .notN => s_notN
  | .isB => s_isB
  | .notB => s_notB
  | .ix => s_ix
  | .sl false false => s_sl_false_false
  | .sl true false => s_sl_true_false
  | .sl false true => s_sl_false_true
  | .sl true true => s_sl_true_true
  | .rev => s_rev
  | .len => s_len
  | .int => s_int
  | .abs => s_abs
  | .repr => s_repr
  | .toTup => s_toTup
  | .toLst => s_toLst
  | .sorted => s_sorted
  | .sum => s_sum
  | .min2 => s_min2
  | .max2 => s_max2
  | .min1 => s_min1
  | .max1 => s_max1
  | .all => s_all
  | .gcd => s_gcd
  | .count => s_count
  | .index => s_index
  | .lrange1 => s_lrange1
  | .lrange2 => s_lrange2
  | .trange3 => s_trange3
  | .lend => s_lend
  | .lindex => s_lindex
  | .tsum => s_tsum
  | .isa t => s_isa t

/-- names: a slot, or several -/
inductive NT where
  | n (i : Nat)
  | t (ts : List NT)

mutual
inductive IE where
  | var (i : Nat)
  | pk (i : Nat)
  | cst (d : PyData)
  | op (o : Op) (as : List IE)
  | tup (as : List IE)
  | otup (as : List IE)
  | lst (as : List IE)
  | olst (as : List IE)
  | and_ (a b : IE)
  | or_ (a b : IE)
  | not_ (a : IE)
  | ite (c a b : IE)
  | chain (o1 o2 : Op) (a b c : IE)
  | chain3 (o1 o2 o3 : Op) (a b c d : IE)
  | stup (ss : List Bool) (as : List IE)
  | rngv (a b : IE)
  | inR (neg : Bool) (a : IE) (i : Nat)
  | call (f : Nat) (as : List IE)
  | frz (i : Nat)
  | mov (i : Nat)
  | comp (ow : Bool) (own : List Nat) (tg : NT) (it : II) (cond : Option IE) (elt : IE)
  | rd (dk : Bool) (i : Nat) (k : IE)
  | rd2 (i : Nat) (k l : IE)
  | pop (i : Nat)
  | popi (i : Nat) (e : IE)
  | dpop (i : Nat) (k : Str)
  | dlen (i : Nat) (k : Str)
  | odct (ks : List Key) (vs : List IE)
  | dget (i : Nat) (k d : IE)
  | kcat (i : Nat) (k e : IE)
  | krev (i : Nat) (k : IE)
  | inD (neg : Bool) (a : IE) (i : Nat)
  | tmk
  | kin (neg : Bool) (a : IE) (i : Nat) (k : IE)
  | tnew (e : IE)
  | trd (i : Nat) (k : IE)
  | tin (neg : Bool) (a : IE) (i : Nat)
  | tget (i : Nat) (k : IE)
  | tlen (i : Nat)
  | tsort (i : Nat)
  | tfz (i : Nat)
  | hcomp (i : Nat) (own : List Nat) (tg : NT) (cond : Option IE) (elt : IE)
inductive II where
  | seq (e : IE)
  | rng1 (a : IE)
  | rng2 (a b : IE)
  | enum (e : IE)
  | zip (st : Bool) (a b : IE)
  | scr (i : Nat)
  | rngs (i : Nat)
  | tkeys (i : Nat)
end

inductive ST where
  | n (i : Nat)
  | sub (i : Nat) (k : IE)
  | sub2 (i : Nat) (k l : IE)
  | tp (ts : List ST)

inductive IS where
  | asg (ow : Bool) (t : ST) (e : IE)
  | aug (i : Nat) (o : Op) (e : IE)
  | ex (e : IE)
  | append (i : Nat) (e : IE)
  | append1 (i : Nat) (k e : IE)
  | extend (i : Nat) (e : IE)
  | remove (i : Nat) (e : IE)
  | dupd (i : Nat) (e : IE)
  | tput (i : Nat) (k e : IE)
  | tupd (i : Nat) (as : List IE)
  | ite (c : IE) (a b : List IS)
  | whl (n : Nat) (c : IE) (b : List IS)
  | for_ (t : NT) (it : II) (b : List IS)
  | ret (ow : Bool) (e : IE)
  | retN
  | brk | cont | pass | never

abbrev Res (α : Type) := Option (α × MEnv)

/-! ### places -/
def idxOf (n : Nat) : PyData → Option Nat
  | .int i => ixN n i
  | _ => none
def keyOf : PyData → Option Key
  | .int i => some (.inl i)
  | .str x => some (.inr x)
  | _ => none
/-- the place of a key -/
def findK : List Key → Key → Option Nat
  | [], _ => none
  | x :: xs, k => if decide (x = k) = true then some 0 else (findK xs k).map (· + 1)
/-- an item that is frozen, read: of a list, of a dict (dk) -/
def rdOf (dk : Bool) (m : MV) (k : PyData) : Option PyData := match dk, m with
  | false, .ls ds => (idxOf ds.length k).bind fun j => ds[j]?
  | false, .lst ms => (idxOf ms.length k).bind fun j => (ms[j]?).bind fun c => match c with | .val d => some d | _ => none
  | true, .dct ks ms => (keyOf k).bind fun q => (findK ks q).bind fun j => (ms[j]?).bind fun c => match c with | .val d => some d | _ => none
  | _, _ => none
/-- what a dict holds at a key, if it holds anything -/
def getOf (m : MV) (k : PyData) : Option (Option PyData) := match m with
  | .dct ks ms => (keyOf k).bind fun q => match findK ks q with
    | none => some none
    | some j => (ms[j]?).bind fun c => match c with | .val d => some (some d) | _ => none
  | _ => none
/-- whether a dict holds something at a key -/
def hasOf (m : MV) (k : PyData) : Option Bool := match m with
  | .dct ks _ => (keyOf k).map fun q => (findK ks q).isSome
  | _ => none
/-- pairs as a table -/
def pairsK : List PyData → Option (List (Key × PyData))
  | [] => some []
  | .tuple [k, v] :: r => (keyOf k).bind fun q => (pairsK r).map fun ps => (q, v) :: ps
  | _ => none
def putA (kvs : List (Key × PyData)) (k : Key) (v : PyData) : List (Key × PyData) :=
  if (kvs.any fun kv => decide (kv.1 = k)) = true then kvs.map (fun kv => if kv.1 = k then (kv.1, v) else kv) else kvs ++ [(k, v)]
def mergeA (kvs more : List (Key × PyData)) : List (Key × PyData) := more.foldl (fun acc kv => putA acc kv.1 kv.2) kvs
def valsOf : List MV → Option (List PyData)
  | [] => some []
  | .val d :: r => (valsOf r).map fun ds => d :: ds
  | _ => none
/-- x.update(dict(ds)), x's values frozen -/
def updOf (ds : List PyData) : MV → Option MV
  | .dct ks cs => (valsOf cs).bind fun vs => (pairsK ds).bind fun ps => if ks.length + ps.length ≤ lim then
      some (.dct ((mergeA (ks.zip vs) (mergeA [] ps)).map (·.1)) ((mergeA (ks.zip vs) (mergeA [] ps)).map fun kv => .val kv.2)) else none
  | _ => none
mutual
/-- data as a key: whole numbers, None, tuples of such -/
def nkOf : PyData → Option NestedKey
  | .int i => some (.num i)
  | .none => some .none
  | .tuple ds => (nksOf ds).map .tup
  | _ => none
def nksOf : List PyData → Option (List NestedKey)
  | [] => some []
  | d :: ds => (nkOf d).bind fun k => (nksOf ds).map fun ks => k :: ks
end
/-- a tuple as a key -/
def keyN : PyData → Option NestedKey
  | .tuple ds => (nksOf ds).bind fun ks => if (NestedKey.tup ks).depth ≤ 8 then some (.tup ks) else none
  | _ => none
def hasN (kvs : List (NestedKey × PyData)) (k : NestedKey) : Bool := kvs.any fun kv => NestedKey.beq kv.1 k
def getN : List (NestedKey × PyData) → NestedKey → Option PyData
  | [], _ => none
  | kv :: r, k => if NestedKey.beq kv.1 k = true then some kv.2 else getN r k
def putN (kvs : List (NestedKey × PyData)) (k : NestedKey) (v : PyData) : List (NestedKey × PyData) :=
  if hasN kvs k = true then kvs.map (fun kv => if NestedKey.beq kv.1 k = true then (kv.1, v) else kv) else kvs ++ [(k, v)]
def mergeN (kvs more : List (NestedKey × PyData)) : List (NestedKey × PyData) := more.foldl (fun acc kv => putN acc kv.1 kv.2) kvs
def pairsN : List PyData → Option (List (NestedKey × PyData))
  | [] => some []
  | .tuple [k, v] :: r => (keyN k).bind fun q => (pairsN r).map fun ps => (q, v) :: ps
  | _ => none
def dttOf : MV → Option (List (NestedKey × PyData))
  | .dtt kvs => some kvs
  | _ => none
def newN (d : PyData) : Option MV := match d with
  | .list ds => (pairsN ds).bind fun ps => if ps.length ≤ lim then some (.dtt (mergeN [] ps)) else none
  | _ => none
def sortN (kvs : List (NestedKey × PyData)) : Option (List PyData) :=
  if (alikes (kvs.map fun kv => kv.1.data) && sortables (kvs.map fun kv => kv.1.data) && deepOk (kvs.map fun kv => kv.1.data)) = true then some (sortD (kvs.map fun kv => kv.1.data)) else none
/-- some world: keys without texts hash alike in all -/
def w0 : World := ⟨fun _ _ => 0, { strHash := fun _ => 0, shareClass := fun _ => 0, mergeTok := id, idOf := fun _ => 0, idOfShared := fun _ _ => 0, followText := fun _ => false, idOfImm := fun _ => 0 }⟩
/-- no two keys hash alike -/
def apart (kvs : List (NestedKey × PyData)) : Bool := decide ((kvs.map fun kv => kv.1.hash w0).Nodup)
/-- a display's keys and values, one behind the other -/
def pairs2 : List PyData → Option (List (NestedKey × PyData))
  | [] => some []
  | k :: v :: r => (keyN k).bind fun q => (pairs2 r).map fun ps => (q, v) :: ps
  | _ => none
def mixN (ps : List (NestedKey × PyData)) : MV → Option MV
  | .dtt kvs => if ps ≠ [] ∧ ps.length ≤ 15 ∧ kvs.length + ps.length ≤ lim ∧ apart (mergeN [] ps) = true then some (.dtt (mergeN kvs (mergeN [] ps))) else none
  | _ => none
def storeN (q : NestedKey) (d : PyData) : MV → Option MV
  | .dtt kvs => if kvs.length < lim then some (.dtt (putN kvs q d)) else none
  | _ => none
/-- the one below at k -/
def kidOf (m : MV) (k : PyData) : Option (Nat × MV) := match m with
  | .lst ms => (idxOf ms.length k).bind fun j => (ms[j]?).map fun c => (j, c)
  | .tup ms => (idxOf ms.length k).bind fun j => (ms[j]?).map fun c => (j, c)
  | _ => none
def putKid (m : MV) (j : Nat) (c : MV) : MV := match m with
  | .lst ms => .lst (ms.set j c)
  | .tup ms => .tup (ms.set j c)
  | m => m
def popLast : MV → Option (PyData × MV)
  | .ls ds => (ds.getLast?).map fun d => (d, .ls ds.dropLast)
  | _ => none
def popAt (k : PyData) : MV → Option (PyData × MV)
  | .ls ds => if ds.length < lim then (idxOf ds.length k).bind fun j => (ds[j]?).map fun d => (d, .ls (ds.eraseIdx j)) else none
  | _ => none
def appOf (d : PyData) : MV → Option MV
  | .ls ds => if ds.length < lim then some (.ls (ds ++ [d])) else none
  | _ => none
def extOf (es : List PyData) : MV → Option MV
  | .ls ds => if ds.length + es.length < lim then some (.ls (ds ++ es)) else none
  | _ => none
def remOf (d : PyData) : MV → Option MV
  | .ls ds => match d with
    | .int k => (intsOf ds).bind fun is => if k ∈ is then some (.ls ((is.erase k).map PyData.int)) else none
    | _ => none
  | _ => none
/-- x[k] = m -/
def storeOf (k : PyData) (m : MV) : MV → Option MV
  | .ls ds => match m with
    | .val d => (idxOf ds.length k).map fun j => .ls (ds.set j d)
    | _ => none
  | .lst ms => (idxOf ms.length k).map fun j => .lst (ms.set j m)
  | .dct ks ms => (keyOf k).bind fun q => match findK ks q with
    | some j => if ks.Nodup ∧ ks.length < lim then some (.dct ks (ms.set j m)) else none
    | none => if ks.length < lim then some (.dct (ks ++ [q]) (ms ++ [m])) else none
  | _ => none

/-! ### names -/
mutual
def NT.put : NT → PyData → MEnv → Option MEnv
  | .n i, d, ms => if i < ms.length then some (ms.set i (some (.val d))) else none
  | .t ts, .tuple ds, ms => putAll ts ds ms
  | .t _, _, _ => none
def putAll : List NT → List PyData → MEnv → Option MEnv
  | [], [], ms => some ms
  | t :: ts, d :: ds, ms => (t.put d ms).bind fun ms' => putAll ts ds ms'
  | _, _, _ => none
end

abbrev Funs := Nat → List MV → Option (MV × List (Option MV))

def wipeM (ms : MEnv) : List Nat → MEnv
  | [] => ms
  | v :: vs => (wipeM ms vs).set v none
/-- the slots of a comprehension's own names hold nothing of their own -/
def idle (ms : MEnv) : List Nat → Bool
  | [] => true
  | v :: vs => (match ms[v]? with | some none => true | some (some (.val _)) => true | _ => false) && idle ms vs
/-- back to what stood there -/
def backM (old new : MEnv) : List Nat → MEnv
  | [] => new
  | v :: vs => (backM old new vs).set v (old[v]?.getD none)

/-- a comprehension's turns -/
def compL (put : PyData → MEnv → Option MEnv) (cond : MEnv → Res Bool) (elt : MEnv → Res MV) (own : List Nat) : List PyData → MEnv → List MV → Res (List MV)
  | [], ms, acc => some (acc, ms)
  | d :: ds, ms, acc => (put d ms).bind fun ms1 => (cond ms1).bind fun (b, ms2) =>
    if b = true then (elt ms2).bind fun (m, ms3) => if acc.length < lim then compL put cond elt own ds (wipeM ms3 own) (acc ++ [m]) else none
    else compL put cond elt own ds (wipeM ms2 own) acc

def Op.fresh : Op → Bool
  | .add | .mul | .sl _ _ | .rev | .toLst | .sorted | .lrange1 | .lrange2 => true
  | _ => false
/-- what an operation makes: a new list is its maker's own -/
def madeBy (o : Op) (d : PyData) : MV := match o.fresh, d with
  | true, .list ds => .ls ds
  | _, d => .val d
/-- what an operation sees: its arguments frozen; a slot at a glance, as it stands behind them all -/
def seen : List IE → List MV → MEnv → Option (List PyData)
  | [], [], _ => some []
  | .pk i :: as, _ :: vs, ms => (ms[i]?.join).bind fun m => m.pk.bind fun d => (seen as vs ms).map fun ds => d :: ds
  | _ :: as, v :: vs, ms => v.frz.bind fun d => (seen as vs ms).map fun ds => d :: ds
  | _, _, _ => none
/-- an argument: lent, or frozen -/
def argOf (e : IE) (v : MV) : MV := match e with
  | .mov _ => v
  | _ => match v.frz with
    | some d => .val d
    | none => v

def isB : MV → Option Bool
  | .val (.bool b) => some b
  | _ => none

/-- what a call gives back of the lent things -/
def backArgs : List IE → List (Option MV) → MEnv → Option MEnv
  | [], [], ms => some ms
  | .mov i :: es, v :: vs, ms => match ms[i]? with
    | some none => backArgs es vs (ms.set i v)
    | _ => none
  | _ :: es, _ :: vs, ms => backArgs es vs ms
  | _, _, _ => none

def rng1Of : MV → Option (List PyData)
  | .val (.int j) => if -lim ≤ j ∧ j ≤ lim then some (rangeD 0 j) else none
  | _ => none
def rng2Of : MV → MV → Option (List PyData)
  | .val (.int i), .val (.int j) => if -lim ≤ i ∧ i ≤ lim ∧ -lim ≤ j ∧ j ≤ lim then some (rangeD i j) else none
  | _, _ => none
def rngvOf : MV → MV → Option MV
  | .val (.int i), .val (.int j) => if -lim ≤ i ∧ i ≤ lim ∧ -lim ≤ j ∧ j ≤ lim then some (.rng i j) else none
  | _, _ => none
def inRof (neg : Bool) : MV → MV → Option Bool
  | .val (.int x), .rng lo hi => some (xor neg (decide (lo ≤ x ∧ x < hi)))
  | _, _ => none
/-- two sequences side by side; st: they must be of one length -/
def zipOf (st : Bool) : List PyData → Option (List PyData)
  | [d, e] => (seqOf d).bind fun ds => (seqOf e).bind fun es => if st = true ∧ ds.length ≠ es.length then none else some (List.zipWith (fun x y => .tuple [x, y]) ds es)
  | _ => none
/-- a part of a display: a thing, or all of a sequence -/
def partOf : Bool → MV → Option (List PyData)
  | true, .val d => seqOf d
  | false, .val d => some [d]
  | _, _ => none
/-- a slot holds something; a list of its own -/
def there (ms : MEnv) (i : Nat) : Option Unit := (ms[i]?.join).map fun _ => ()
def lsAt (ms : MEnv) (i : Nat) : Option Unit := match ms[i]?.join with
  | some (.ls _) => some ()
  | _ => none
def dcAt (ms : MEnv) (i : Nat) : Option Unit := match ms[i]?.join with
  | some (.dct _ _) => some ()
  | _ => none
def lsOf : MV → Option (List PyData)
  | .ls ds => some ds
  | _ => none
def dtAt (ms : MEnv) (i : Nat) : Option Unit := match ms[i]?.join with
  | some (.dtt _) => some ()
  | _ => none
def rtOf : MV → Option (List (NestedKey × PyData))
  | .dtt kvs => some kvs
  | .fdt kvs => some kvs
  | _ => none
def rtAt (ms : MEnv) (i : Nat) : Option Unit := (ms[i]?.join).bind fun o => (rtOf o).map fun _ => ()
def isLst : PyData → Option Unit
  | .list _ => some ()
  | _ => none
def isLs : MV → Option Unit
  | .ls _ => some ()
  | _ => none
mutual
def evE (Φ : Funs) : IE → MEnv → Res MV
  | .var i, ms => match ms[i]? with
    | some (some (.val d)) => some (.val d, ms)
    | some (some (.scr ns)) => some (.scr ns, ms)
    | some (some (.rng a b)) => some (.rng a b, ms)
    | some (some (.fdt kvs)) => some (.fdt kvs, ms)
    | _ => none
  | .pk i, ms => (ms[i]?.join).map fun _ => (.val .none, ms)
  | .cst d, ms => some (.val d, ms)
  | .op o as, ms => (evEs Φ as ms).bind fun (vs, ms1) => (seen as vs ms1).bind fun ds => (opSem o ds).map fun d => (madeBy o d, ms1)
  | .tup as, ms => (evEs Φ as ms).bind fun (vs, ms1) => (frzAll vs).bind fun ds => if ds.length ≤ lim then some (.val (.tuple ds), ms1) else none
  | .otup as, ms => (evEs Φ as ms).bind fun (vs, ms1) => if vs.length ≤ lim then some (.tup vs, ms1) else none
  | .lst as, ms => (evEs Φ as ms).bind fun (vs, ms1) => (frzAll vs).bind fun ds => if ds.length ≤ lim then some (.ls ds, ms1) else none
  | .olst as, ms => (evEs Φ as ms).bind fun (vs, ms1) => if vs.length ≤ lim then some (.lst vs, ms1) else none
  | .and_ a b, ms => (evE Φ a ms).bind fun (v, ms1) => (isB v).bind fun c => if c = true then evE Φ b ms1 else some (.val (.bool false), ms1)
  | .or_ a b, ms => (evE Φ a ms).bind fun (v, ms1) => (isB v).bind fun c => if c = true then some (.val (.bool true), ms1) else evE Φ b ms1
  | .not_ a, ms => (evE Φ a ms).bind fun (v, ms1) => (isB v).map fun c => (.val (.bool (!c)), ms1)
  | .ite c a b, ms => (evE Φ c ms).bind fun (v, ms1) => (isB v).bind fun c => if c = true then evE Φ a ms1 else evE Φ b ms1
  | .chain o1 o2 a b c, ms => (evE Φ a ms).bind fun (x, ms1) => (evE Φ b ms1).bind fun (y, ms2) => (frzAll [x, y]).bind fun ds => (opSem o1 ds).bind fun r => (isB (.val r)).bind fun k =>
    if k = true then (evE Φ c ms2).bind fun (z, ms3) => (frzAll [y, z]).bind fun es => (opSem o2 es).map fun d => (.val d, ms3) else some (.val (.bool false), ms2)
  | .chain3 o1 o2 o3 a b c e, ms => (evE Φ a ms).bind fun (x, ms1) => (evE Φ b ms1).bind fun (y, ms2) => (frzAll [x, y]).bind fun ds => (opSem o1 ds).bind fun r => (isB (.val r)).bind fun k =>
    if k = true then (evE Φ c ms2).bind fun (z, ms3) => (frzAll [y, z]).bind fun es => (opSem o2 es).bind fun r2 => (isB (.val r2)).bind fun k2 =>
      if k2 = true then (evE Φ e ms3).bind fun (u, ms4) => (frzAll [z, u]).bind fun fs => (opSem o3 fs).map fun d => (.val d, ms4) else some (.val (.bool false), ms3)
    else some (.val (.bool false), ms2)
  | .stup ss as, ms => (evSts Φ as ss ms).bind fun (ds, ms1) => if ds.length ≤ lim then some (.val (.tuple ds), ms1) else none
  | .rngv a b, ms => (evE Φ a ms).bind fun (v, ms1) => (evE Φ b ms1).bind fun (u, ms2) => (rngvOf v u).map fun m => (m, ms2)
  | .inR neg a i, ms => (evE Φ a ms).bind fun (v, ms1) => (ms1[i]?.join).bind fun m => (inRof neg v m).map fun c => (.val (.bool c), ms1)
  | .call f as, ms => (evAs Φ as ms).bind fun (vs, ms1) => (Φ f vs).bind fun (r, vs') => (backArgs as vs' ms1).map fun ms2 => (r, ms2)
  | .frz i, ms => (ms[i]?.join).bind fun m => m.frz.map fun d => (.val d, ms.set i (some (.val d)))
  | .mov i, ms => (ms[i]?.join).map fun m => (m, ms.set i none)
  | .comp ow own tg it cond elt, ms => (evI Φ it ms).bind fun (ds, ms1) =>
    if idle ms1 own = true then
      (compL (tg.put) (fun ms => evC Φ cond ms) (fun ms => evE Φ elt ms) own ds (wipeM ms1 own) []).bind fun (rs, ms2) =>
        if ow = true then some (.lst rs, backM ms1 ms2 own) else (frzAll rs).map fun es => (.ls es, backM ms1 ms2 own)
    else none
  | .hcomp i own tg cond elt, ms => match ms[i]?.join with
    | some (.ls ds) => if idle (ms.set i none) own = true then
        (compL (tg.put) (fun ms => evC Φ cond ms) (fun ms => evE Φ elt ms) own ds (wipeM (ms.set i none) own) []).bind fun (rs, ms2) => (frzAll rs).bind fun es => match (backM (ms.set i none) ms2 own)[i]? with
          | some none => some (.ls es, (backM (ms.set i none) ms2 own).set i (some (.ls ds)))
          | _ => none
      else none
    | _ => none
  | .rd dk i k, ms => (there ms i).bind fun _ => (evE Φ k ms).bind fun (q, ms1) => q.frz.bind fun kd => (ms1[i]?.join).bind fun m => (rdOf dk m kd).map fun d => (.val d, ms1)
  | .rd2 i k l, ms => (there ms i).bind fun _ => (evE Φ k ms).bind fun (q, ms1) => q.frz.bind fun kd => (ms1[i]?.join).bind fun o => (kidOf o kd).bind fun (j, c) => (isLs c).bind fun _ =>
    (evE Φ l (ms1.set i none)).bind fun (r, ms2) => r.frz.bind fun ld => match ms2[i]? with
      | some none => (rdOf false c ld).map fun d => (.val d, ms2.set i (some o))
      | _ => none
  | .dget i k d, ms => (dcAt ms i).bind fun _ => (evE Φ k ms).bind fun (q, ms1) => q.frz.bind fun kd => (evE Φ d ms1).bind fun (u, ms2) => u.frz.bind fun dd => (ms2[i]?.join).bind fun m => (getOf m kd).map fun r => (.val (r.getD dd), ms2)
  | .kcat i k e, ms => (there ms i).bind fun _ => (evE Φ k ms).bind fun (q, ms1) => q.frz.bind fun kd => (ms1[i]?.join).bind fun o => (kidOf o kd).bind fun (j, c) => (lsOf c).bind fun ds =>
    (evE Φ e (ms1.set i none)).bind fun (r, ms2) => r.frz.bind fun ed => match ms2[i]? with
      | some none => (s_add [.list ds, ed]).map fun d => (madeBy .add d, ms2.set i (some o))
      | _ => none
  | .krev i k, ms => (there ms i).bind fun _ => (evE Φ k ms).bind fun (q, ms1) => q.frz.bind fun kd => (ms1[i]?.join).bind fun o => (kidOf o kd).bind fun (j, c) => (lsOf c).map fun ds => (.ls ds.reverse, ms1)
  | .inD neg a i, ms => (evE Φ a ms).bind fun (v, ms1) => v.frz.bind fun kd => (ms1[i]?.join).bind fun m => (hasOf m kd).map fun c => (.val (.bool (xor neg c)), ms1)
  | .tmk, ms => some (.dtt [], ms)
  | .kin neg a i k, ms => (evE Φ a ms).bind fun (v, ms1) => v.frz.bind fun ad => (there ms1 i).bind fun _ => (evE Φ k ms1).bind fun (q, ms2) => q.frz.bind fun kd => (ms2[i]?.join).bind fun o => (kidOf o kd).bind fun (j, c) => (lsOf c).bind fun ds =>
    (opSem (if neg = true then .nin else .inn) [ad, .list ds]).map fun d => (.val d, ms2)
  | .tnew e, ms => (evE Φ e ms).bind fun (v, ms1) => v.frz.bind fun d => (newN d).map fun m => (m, ms1)
  | .trd i k, ms => (rtAt ms i).bind fun _ => (evE Φ k ms).bind fun (q, ms1) => q.frz.bind fun kd => (keyN kd).bind fun nk => (ms1[i]?.join).bind fun o => (rtOf o).bind fun kvs => (getN kvs nk).map fun d => (.val d, ms1)
  | .tin neg a i, ms => (evE Φ a ms).bind fun (q, ms1) => q.frz.bind fun kd => (keyN kd).bind fun nk => (ms1[i]?.join).bind fun o => (dttOf o).map fun kvs => (.val (.bool (xor neg (hasN kvs nk))), ms1)
  | .tget i k, ms => (dtAt ms i).bind fun _ => (evE Φ k ms).bind fun (q, ms1) => q.frz.bind fun kd => (keyN kd).bind fun nk => (ms1[i]?.join).bind fun o => (dttOf o).map fun kvs => (.val ((getN kvs nk).getD .none), ms1)
  | .tlen i, ms => (ms[i]?.join).bind fun o => (dttOf o).map fun kvs => (.val (.int (kvs.length : Nat)), ms)
  | .tfz i, ms => (ms[i]?.join).bind fun o => (dttOf o).map fun kvs => (.fdt kvs, ms.set i (some (.fdt kvs)))
  | .tsort i, ms => (ms[i]?.join).bind fun o => (dttOf o).bind fun kvs => (sortN kvs).map fun ds => (.ls ds, ms)
  | .pop i, ms => (ms[i]?.join).bind fun m => (popLast m).map fun (d, m') => (.val d, ms.set i (some m'))
  | .popi i e, ms => (lsAt ms i).bind fun _ => (evE Φ e ms).bind fun (v, ms1) => v.frz.bind fun k => (ms1[i]?.join).bind fun m => (popAt k m).map fun (d, m') => (.val d, ms1.set i (some m'))
  | .dpop i k, ms => match ms[i]?.join with
    | some (.dct ks vs) => (findK ks (.inr k)).bind fun j => (vs[j]?).bind fun c => (popLast c).map fun (d, c') => (.val d, ms.set i (some (.dct ks (vs.set j c'))))
    | _ => none
  | .dlen i k, ms => match ms[i]?.join with
    | some (.dct ks vs) => (findK ks (.inr k)).bind fun j => (vs[j]?).bind fun c => match c with
      | .ls ds => some (.val (.int ds.length), ms)
      | _ => none
    | _ => none
  | .odct ks es, ms => (evEs Φ es ms).bind fun (vs, ms1) => if vs.length = ks.length ∧ ks.Nodup ∧ ks.length ≤ 15 then some (.dct ks vs, ms1) else none
def evEs (Φ : Funs) : List IE → MEnv → Res (List MV)
  | [], ms => some ([], ms)
  | e :: es, ms => (evE Φ e ms).bind fun (v, ms1) => (evEs Φ es ms1).map fun (vs, ms2) => (v :: vs, ms2)
def evSts (Φ : Funs) : List IE → List Bool → MEnv → Res (List PyData)
  | [], [], ms => some ([], ms)
  | e :: es, b :: ss, ms => (evE Φ e ms).bind fun (v, ms1) => (partOf b v).bind fun ds => (evSts Φ es ss ms1).map fun (rs, ms2) => (ds ++ rs, ms2)
  | [], _ :: _, _ => none
  | _ :: _, [], _ => none
def evAs (Φ : Funs) : List IE → MEnv → Res (List MV)
  | [], ms => some ([], ms)
  | e :: es, ms => (evE Φ e ms).bind fun (v, ms1) => (evAs Φ es ms1).map fun (vs, ms2) => (argOf e v :: vs, ms2)
def evC (Φ : Funs) : Option IE → MEnv → Res Bool
  | none, ms => some (true, ms)
  | some e, ms => (evE Φ e ms).bind fun (v, ms1) => (isB v).map fun b => (b, ms1)
def evO (Φ : Funs) : Option IE → MEnv → Res (Option PyData)
  | none, ms => some (none, ms)
  | some e, ms => (evE Φ e ms).bind fun (v, ms1) => match v with
    | .val d => some (some d, ms1)
    | _ => none
def evI (Φ : Funs) : II → MEnv → Res (List PyData)
  | .seq e, ms => (evE Φ e ms).bind fun (v, ms1) => v.frz.bind fun d => (seqOf d).map fun ds => (ds, ms1)
  | .rng1 a, ms => (evE Φ a ms).bind fun (v, ms1) => (rng1Of v).map fun ds => (ds, ms1)
  | .rng2 a b, ms => (evE Φ a ms).bind fun (v, ms1) => (evE Φ b ms1).bind fun (u, ms2) => (rng2Of v u).map fun ds => (ds, ms2)
  | .enum e, ms => (evE Φ e ms).bind fun (v, ms1) => v.frz.bind fun d => (seqOf d).map fun ds => (ds.zipIdx.map fun p => .tuple [.int p.2, p.1], ms1)
  | .zip st a b, ms => (evE Φ a ms).bind fun (v, ms1) => (evE Φ b ms1).bind fun (u, ms2) => (frzAll [v, u]).bind fun ds => (zipOf st ds).map fun es => (es, ms2)
  | .scr i, ms => match ms[i]? with
    | some (some (.scr ns)) => some (ns.map .int, ms)
    | _ => none
  | .rngs i, ms => match ms[i]? with
    | some (some (.rng lo hi)) => if -lim ≤ lo ∧ lo ≤ lim ∧ -lim ≤ hi ∧ hi ≤ lim then some (rangeD lo hi, ms) else none
    | _ => none
  | .tkeys i, ms => match ms[i]? with
    | some (some (.fdt kvs)) => some (kvs.map fun kv => kv.1.data, ms)
    | _ => none
end

inductive Out where
  | nx (ms : MEnv)
  | ret (m : MV) (ms : MEnv)
  | brk (ms : MEnv)
  | cnt (ms : MEnv)

def whileF (c : MEnv → Res Bool) (b : MEnv → Option Out) : Nat → MEnv → Option Out
  | 0, _ => none
  | n + 1, ms => (c ms).bind fun (k, ms1) => if k = true then (b ms1).bind fun o => match o with
      | .nx ms2 => whileF c b n ms2
      | .cnt ms2 => whileF c b n ms2
      | .brk ms2 => some (.nx ms2)
      | .ret m ms2 => some (.ret m ms2)
    else some (.nx ms1)
def forF (put : PyData → MEnv → Option MEnv) (b : MEnv → Option Out) : List PyData → MEnv → Option Out
  | [], ms => some (.nx ms)
  | d :: ds, ms => (put d ms).bind fun ms1 => (b ms1).bind fun o => match o with
      | .nx ms2 => forF put b ds ms2
      | .cnt ms2 => forF put b ds ms2
      | .brk ms2 => some (.nx ms2)
      | .ret m ms2 => some (.ret m ms2)

def setS (ms : MEnv) (i : Nat) (m : MV) : Option MEnv := if i < ms.length then some (ms.set i (some m)) else none
/-- a slot's thing changed -/
def chg (ms : MEnv) (i : Nat) (f : MV → Option MV) : Option MEnv := (ms[i]?.join).bind fun o => (f o).map fun o' => ms.set i (some o')
/-- one below changed -/
def chg1 (ms : MEnv) (i : Nat) (k : PyData) (f : MV → Option MV) : Option MEnv := (ms[i]?.join).bind fun o => (kidOf o k).bind fun (j, c) => (f c).map fun c' => ms.set i (some (putKid o j c'))
mutual
def evT (Φ : Funs) : ST → MV → MEnv → Option MEnv
  | .n i, m, ms => setS ms i m
  | .sub i k, m, ms => (there ms i).bind fun _ => (evE Φ k ms).bind fun (q, ms1) => q.frz.bind fun kd => chg ms1 i (storeOf kd m)
  | .sub2 i k l, m, ms => (there ms i).bind fun _ => (evE Φ k ms).bind fun (q, ms1) => q.frz.bind fun kd => (ms1[i]?.join).bind fun o => (kidOf o kd).bind fun (j, c) => (isLs c).bind fun _ =>
    (evE Φ l (ms1.set i none)).bind fun (r, ms2) => r.frz.bind fun ld => match ms2[i]? with
      | some none => (storeOf ld m c).map fun c' => ms2.set i (some (putKid o j c'))
      | _ => none
  | .tp ts, .val (.tuple ds), ms => evTs Φ ts (ds.map .val) ms
  | .tp ts, .val (.list ds), ms => evTs Φ ts (ds.map .val) ms
  | .tp ts, .ls ds, ms => evTs Φ ts (ds.map .val) ms
  | .tp ts, .tup vs, ms => evTs Φ ts vs ms
  | .tp _, _, _ => none
def evTs (Φ : Funs) : List ST → List MV → MEnv → Option MEnv
  | [], [], ms => some ms
  | t :: ts, m :: vs, ms => (evT Φ t m ms).bind fun ms1 => evTs Φ ts vs ms1
  | _, _, _ => none
end
def ownOr (ow : Bool) (m : MV) : Option MV := if ow = true then some m else match m with
  | .rng a b => some (.rng a b)
  | .scr ns => some (.scr ns)
  | m => m.frz.map .val
mutual
def evS (Φ : Funs) : IS → MEnv → Option Out
  | .asg ow t e, ms => (evE Φ e ms).bind fun (m, ms1) => (ownOr ow m).bind fun m' => (evT Φ t m' ms1).map .nx
  | .aug i o e, ms => match ms[i]?.join with
    | some (.val x) => (evE Φ e ms).bind fun (v, ms1) => v.frz.bind fun y => match x, y with
      | .int a, .int b => (opSem o [.int a, .int b]).map fun z => .nx (ms1.set i (some (.val z)))
      | _, _ => none
    | _ => none
  | .ex e, ms => (evE Φ e ms).map fun (_, ms1) => .nx ms1
  | .append i e, ms => (lsAt ms i).bind fun _ => (evE Φ e ms).bind fun (v, ms1) => v.frz.bind fun d => (chg ms1 i (appOf d)).map .nx
  | .append1 i k e, ms => (there ms i).bind fun _ => (evE Φ k ms).bind fun (q, ms1) => q.frz.bind fun kd => (ms1[i]?.join).bind fun o => (kidOf o kd).bind fun (j, c) => (isLs c).bind fun _ =>
    (evE Φ e (ms1.set i none)).bind fun (v, ms2) => v.frz.bind fun d => match ms2[i]? with
      | some none => (appOf d c).map fun c' => .nx (ms2.set i (some (putKid o j c')))
      | _ => none
  | .extend i e, ms => (lsAt ms i).bind fun _ => (evE Φ e ms).bind fun (v, ms1) => v.frz.bind fun d => (seqOf d).bind fun es => (chg ms1 i (extOf es)).map .nx
  | .remove i e, ms => (lsAt ms i).bind fun _ => (evE Φ e ms).bind fun (v, ms1) => v.frz.bind fun d => (chg ms1 i (remOf d)).map .nx
  | .dupd i e, ms => (dcAt ms i).bind fun _ => (evE Φ e ms).bind fun (v, ms1) => v.frz.bind fun d => (seqOf d).bind fun es => (isLst d).bind fun _ => (chg ms1 i (updOf es)).map .nx
  | .tput i k e, ms => (evE Φ e ms).bind fun (v, ms1) => v.frz.bind fun d => (dtAt ms1 i).bind fun _ => (evE Φ k ms1).bind fun (q, ms2) => q.frz.bind fun kd => (keyN kd).bind fun nk => (chg ms2 i (storeN nk d)).map .nx
  | .tupd i as, ms => (dtAt ms i).bind fun _ => (evEs Φ as ms).bind fun (vs, ms1) => (frzAll vs).bind fun ds => (pairs2 ds).bind fun ps => (chg ms1 i (mixN ps)).map .nx
  | .ite c a b, ms => (evE Φ c ms).bind fun (v, ms1) => (isB v).bind fun k => if k = true then evSs Φ a ms1 else evSs Φ b ms1
  | .whl n c b, ms => whileF (fun ms => (evE Φ c ms).bind fun (v, ms1) => (isB v).map fun k => (k, ms1)) (fun ms => evSs Φ b ms) n ms
  | .for_ t it b, ms => (evI Φ it ms).bind fun (ds, ms1) => forF t.put (fun ms => evSs Φ b ms) ds ms1
  | .ret ow e, ms => (evE Φ e ms).bind fun (m, ms1) => (ownOr ow m).map fun m' => .ret m' ms1
  | .retN, ms => some (.ret (.val .none) ms)
  | .brk, ms => some (.brk ms)
  | .cont, ms => some (.cnt ms)
  | .pass, ms => some (.nx ms)
  | .never, _ => none
def evSs (Φ : Funs) : List IS → MEnv → Option Out
  | [], ms => some (.nx ms)
  | s :: r, ms => (evS Φ s ms).bind fun o => match o with
    | .nx ms1 => evSs Φ r ms1
    | o => some o
end

/-- a def: parameters, slots, the parameters that are given back, the body -/
structure FD where
  np : Nat
  nl : Nat
  prot : List Nat
  body : List IS
def back (prot : List Nat) (n : Nat) (ms : MEnv) : List (Option MV) := (List.range n).map fun j => if prot.contains j = true then ms[j]?.join else none
def runF (Φ : Funs) (fd : FD) (args : List MV) : Option (MV × List (Option MV)) :=
  if args.length = fd.np then (evSs Φ fd.body (args.map some ++ List.replicate (fd.nl - fd.np) none)).bind fun o => match o with
    | .ret m ms => some (m, back fd.prot fd.np ms)
    | .nx ms => some (.val .none, back fd.prot fd.np ms)
    | _ => none
  else none
def Phi (tbl : List FD) : Nat → Funs
  | 0 => fun _ _ => none
  | k + 1 => fun f args => match tbl[f]? with
    | some fd => runF (Phi tbl k) fd args
    | none => none
end Rx
/-! Rx: tuples whose object is known: how they are made. -/
namespace Rx
open PySem PySem.Spec L2 PyProof.Rows
/-- a tuple's object, without a dict of its own -/
def TupO (o : Obj) : Prop := o.cls = .type "tuple" ∧ o.dict = none
def TupK (F : Hp) (a : Addr) (vs : List V) : Prop := ∃ o, F a = some (.frz o (.tup vs)) ∧ TupO o
theorem TupO.mk {d : Data} : TupO { cls := .type "tuple", data := d } := ⟨rfl, rfl⟩
theorem TupK.sq {K : PySem.W.Frag} {F : Hp} {a : Addr} {vs : List V} (h : TupK F a vs) : SqT K F a vs := let ⟨o, e, _⟩ := h; .inl (.inr ⟨o, e⟩)
theorem TupK.at_ {F : Hp} {a : Addr} {vs : List V} (h : TupK F a vs) : ∃ o, F a = some o := let ⟨_, e, _⟩ := h; ⟨_, e⟩
theorem TupK.eq {F G : Hp} {a : Addr} {vs : List V} (h : TupK F a vs) (e : G a = F a) : TupK G a vs := let ⟨o, q, w⟩ := h; ⟨o, e.trans q, w⟩
theorem TupK.same {F : Hp} {a : Addr} {vs : List V} {o : Obj} (w : TupO o) : TupK (upd F a (.frz o (.tup vs))) a vs := ⟨o, upd_same, w⟩
section
variable {X : Cx} {es : List Expr} {t : TA} {pos : Pos}
def tTupK (t : TA) : TE := fun σ H Q => t σ H fun xs H1 => xs.length ≤ sizeLine ∧ ∀ p o, H1 p = none → TupO o → Q (.ref p) (upd H1 p (.frz o (.tup xs)))
theorem pe_tupK {x1} (h : PA X es t) : PE X (.Tuple es x1 pos) (tTupK t) := by
  refine ⟨fun pins s σ H Q I hq => ?_⟩
  refine wpAny_Tuple_spliced (thn (h.run pos pins s σ H _ I hq) fun us s1 ⟨xs, H1, I1, r, z, q⟩ => ⟨by rw [← r.length]; exact z, ?_⟩)
  have hf : H1 s1.heap.objs.size = none := I1.hok.fresh (Nat.le_refl _)
  refine ⟨.ref s1.heap.objs.size, upd H1 s1.heap.objs.size (.frz { cls := .type "tuple", data := .seq us.toArray } (.tup xs)), I1.laid (t' := s1.toks) (fun b u e => Heap.get?_push_of_some _ e) (Nat.le_refl _) ?_, rfl, q _ _ hf TupO.mk⟩
  exact ⟨Heap.get?_push_size _ rfl, z, us, r, ⟨_, Heap.get?_push_size _ rfl, rfl, _, rfl⟩⟩
/-- t + u -/
def rCatK (K : PySem.W.Frag) : R2 := fun x y H Q => ∃ a b xs ys, x = .ref a ∧ y = .ref b ∧ SqT K H a xs ∧ SqT K H b ys ∧ xs.length + ys.length ≤ sizeLine ∧
  (xs = [] → Q (.ref b) H) ∧ (xs ≠ [] → ys = [] → Q (.ref a) H) ∧ (xs ≠ [] → ys ≠ [] → ∀ p o, H p = none → TupO o → Q (.ref p) (upd H p (.frz o (.tup (xs ++ ys)))))
theorem op_catK : OpR X (binaryOp .Add) (rCatK X.K) := by
  intro pins s σ H x y v u Q I rx ry h
  obtain ⟨a, b, xs, ys, rfl, rfl, ha, hb, hz, q0, q1, q2⟩ := h
  cases rx
  cases ry
  obtain ⟨its, r1, p1, _⟩ := I.tuple ha
  obtain ⟨its2, r2, p2, _⟩ := I.tuple hb
  by_cases hx : xs = []
  · subst hx
    cases r1
    exact cat_tup0 p1 p2 ⟨.ref b, H, I, rfl, q0 rfl⟩
  · refine HT.cat_tup p1 p2 (fun z => hx (r1.nil_iff.mp z)) (fun z => ⟨.ref a, H, I, rfl, q1 hx (r2.nil_iff.mp z)⟩) (fun z => ?_) (by rw [← r1.length, ← r2.length]; exact hz)
    refine ⟨.ref s.heap.objs.size, _, I.laid (t' := s.toks) (o := .frz { cls := .type "tuple", data := .seq (its ++ its2).toArray } (.tup (xs ++ ys))) (fun b ob q => Heap.get?_push_of_some _ q) (Nat.le_refl _) ?_, rfl, q2 hx (fun w => z (r2.nil_iff.mpr w)) _ _ (I.hok.fresh (Nat.le_refl _)) TupO.mk⟩
    exact ⟨Heap.get?_push_size _ rfl, by rw [List.length_append]; exact hz, _, r1.append r2, IsTup.new _ _⟩
/-- t[lo:hi]: the whole of it is t itself -/
def rSlK (K : PySem.W.Frag) : V → Option Int → Option Int → Hp → VK → Prop := fun x lo hi H Q => ∃ a xs, x = .ref a ∧ SqT K H a xs ∧
  (HT.sIx xs.length 0 lo = 0 ∧ HT.sIx xs.length xs.length hi = xs.length → Q (.ref a) H) ∧ (¬ (HT.sIx xs.length 0 lo = 0 ∧ HT.sIx xs.length xs.length hi = xs.length) → ∀ p o, H p = none → TupO o → Q (.ref p) (upd H p (.frz o (.tup (cutV xs lo hi)))))
theorem sl_tupK : SlR X (rSlK X.K) := by
  intro pins s σ H x v vl vu lo hi sl Q I rx hs pl pu h
  obtain ⟨a, xs, rfl, hx, q1, q2⟩ := h
  cases rx
  obtain ⟨its, r, ht, hz⟩ := I.tuple hx
  have hlen : its.toArray.size = xs.length := by rw [List.size_toArray]; exact r.length.symm
  refine ⟨"tuple", _, PyProof.Rows.slot_tuple_getitem.lookup, ht.typeIs, ?_⟩
  by_cases hw : HT.sIx xs.length 0 lo = 0 ∧ HT.sIx xs.length xs.length hi = xs.length
  · exact getItem_tuple_whole ht hs pl pu (by rw [hlen]; exact hw) ⟨.ref a, H, I, rfl, q1 hw⟩
  · refine HT.getItem_tuple_cut ht hs pl pu (by rw [hlen]; exact hw) ?_ (by rw [hlen]; exact hz)
    rw [hlen]
    refine ⟨.ref s.heap.objs.size, _, I.laid (t' := s.toks) (o := .frz { cls := .type "tuple", data := .seq ((its.drop (HT.sIx xs.length 0 lo)).take (HT.sIx xs.length xs.length hi - HT.sIx xs.length 0 lo)).toArray } (.tup (cutV xs lo hi))) (fun b ob q => Heap.get?_push_of_some _ q) (Nat.le_refl _) ?_, rfl, q2 hw _ _ (I.hok.fresh (Nat.le_refl _)) TupO.mk⟩
    exact ⟨Heap.get?_push_size _ rfl, Nat.le_trans (cutV_length xs lo hi) hz, _, (r.drop (HT.sIx xs.length 0 lo)).take (HT.sIx xs.length xs.length hi - HT.sIx xs.length 0 lo), IsTup.new _ _⟩
/-- tuple(xs) -/
theorem call_tuple_ofK : CallR X (.type "tuple") (fun xs H Q => ∃ p ys, xs = [.ref p] ∧ ((SqL X.K H p ys ∧ ∀ l o, H l = none → TupO o → Q (.ref l) (upd H l (.frz o (.tup ys)))) ∨ (SqT X.K H p ys ∧ Q (.ref p) H))) := by
  intro pins s σ H xs us Q I r h
  obtain ⟨p, ys, rfl, h⟩ := h
  obtain ⟨u, rfl, rx⟩ := vals1 r
  cases rx
  rcases h with ⟨hq, q⟩ | ⟨hq, q⟩
  · obtain ⟨its, r', pl, hz⟩ := I.list hq
    have hlen := r'.length
    refine call_tuple_list pl.isList (fun h' kp => ?_) (by simp only [List.size_toArray] <;> omega)
    have I1 : Inv X pins σ H { s with heap := h' } := I.kept (t' := s.toks) kp
    have I2 : Inv X pins σ (upd H h'.objs.size (.frz { cls := .type "tuple", data := .seq its.toArray } (.tup ys))) { s with heap := h'.push { cls := .type "tuple", data := .seq its.toArray } } :=
      I1.laid (t' := s.toks) (fun b o e => Heap.get?_push_of_some _ e) (Nat.le_refl _) (show ObjOk X.prog X.w _ _ _ (.frz _ (.tup ys)) from ⟨Heap.get?_push_size _ rfl, hz, its, r', IsTup.new _ _⟩)
    exact ⟨.ref h'.objs.size, _, I2, rfl, q _ _ (I1.hok.fresh (Nat.le_refl _)) TupO.mk⟩
  · obtain ⟨its, r', pl, hz⟩ := I.tuple hq
    exact call_tuple_same pl ⟨.ref p, H, I, rfl, q⟩
end
end Rx
/-! Rx, more: t * n, t a tuple: the same one for 1, an empty one below it. -/
namespace Rx
open PySem PySem.Spec L2 PyProof.Rows
open PySem.AutoSeq1 (wpAny_loadPart')
theorem tuple_mul1 (l : Addr) (items : Array Value) (n : Nat) (dd : Option Addr) (sl : Array (Option Value)) (x : Int) (u : Tok) (c0 : (decide (x < -(2 ^ 63)) || decide (x ≥ 2 ^ 63)) = false) (c1 : (items.isEmpty || x == 1) = true) :
    Meets (Builtin.«tuple.__mul__» ⟨[.ref l, .int x u], []⟩) (fun _ R s => s.heap.get? l = some { cls := .type "tuple", dict := dd, data := .seq items n, slots := sl } ∧ R (.ok (.ret (Value.ref l))) s) :=
  .of_wp fun prog w A R s h => by
    obtain ⟨hp, g, d, tk, os⟩ := s
    obtain ⟨hl, h⟩ := h
    have f1 := AutoSeq1.idx_int
    wp_walk using wpAny_loadPart' hl
    repeat (first
      | (refine wpAny_ite_false (decide_eq_false (by rw [c0]; exact Bool.false_ne_true)) ?_; wp_walk using wpAny_loadPart' hl)
      | (refine wpAny_ite_true (decide_eq_true (by rw [c1])) ?_; wp_walk using wpAny_loadPart' hl))
    exact ⟨_, rfl, h⟩
theorem tuple_mul0 (l : Addr) (items : Array Value) (n : Nat) (dd : Option Addr) (sl : Array (Option Value)) (x : Int) (u : Tok) (c0 : (decide (x < -(2 ^ 63)) || decide (x ≥ 2 ^ 63)) = false) (c1 : (items.isEmpty || x == 1) = false) (c2 : (decide (x ≤ 0) || items.isEmpty) = true) :
    Meets (Builtin.«tuple.__mul__» ⟨[.ref l, .int x u], []⟩) (fun _ R s => s.heap.get? l = some { cls := .type "tuple", dict := dd, data := .seq items n, slots := sl } ∧
      R (.ok (.ret (Value.ref s.heap.objs.size))) { s with heap := s.heap.push { cls := Value.type "tuple", data := Data.seq #[] }, toks := s.toks }) :=
  .of_wp fun prog w A R s h => by
    obtain ⟨hp, g, d, tk, os⟩ := s
    obtain ⟨hl, h⟩ := h
    have f1 := AutoSeq1.idx_int
    wp_walk using wpAny_loadPart' hl
    repeat (first
      | (refine wpAny_ite_false (decide_eq_false (by rw [c0]; exact Bool.false_ne_true)) ?_; wp_walk using wpAny_loadPart' hl)
      | (refine wpAny_ite_false (decide_eq_false (by rw [c1]; exact Bool.false_ne_true)) ?_; wp_walk using wpAny_loadPart' hl)
      | (refine wpAny_ite_true (decide_eq_true (by rw [c2])) ?_; wp_walk using wpAny_loadPart' hl))
    exact ⟨_, rfl, h⟩
def rRepK (K : PySem.W.Frag) : R2 := fun x y H Q => ∃ l k xs, x = .ref l ∧ y = .int k ∧ SqT K H l xs ∧ -1000 ≤ k ∧ k ≤ 1000 ∧ xs.length ≤ 1000 ∧ (xs = [] ∨ k = 1 → Q (.ref l) H) ∧
  (xs ≠ [] → k ≠ 1 → ∀ p o, H p = none → TupO o → Q (.ref p) (upd H p (.frz o (.tup (List.replicate k.toNat xs).flatten))))
section
variable {X : Cx}
theorem op_repK : OpR X (binaryOp .Mult) (rRepK X.K) := by
  intro pins s σ H x y v u Q I rx ry h
  obtain ⟨l, k, xs, rfl, rfl, hT, h1, h2, hz, q1, q2⟩ := h
  cases rx
  obtain ⟨t, rfl⟩ := ry
  obtain ⟨its, r, ⟨⟨cls, dd, data, sl⟩, ho, hc, n, hd⟩, hs⟩ := I.tuple hT
  simp only at hc hd
  subst hc hd
  have hle : its.length = xs.length := r.length.symm
  have hsz0 : its.toArray.size = xs.length := by rw [List.size_toArray, hle]
  have c0 : (decide (k < -(2 ^ 63)) || decide (k ≥ 2 ^ 63)) = false := by
    rw [decide_eq_false (by omega), decide_eq_false (by omega)] <;> rfl
  by_cases hx : xs = [] ∨ k = 1
  · have c1 : (its.toArray.isEmpty || k == 1) = true := by
      rcases hx with hx | hx
      · have : its = [] := List.eq_nil_of_length_eq_zero (by rw [hle, hx]; rfl)
        rw [this]; rfl
      · rw [hx]; simp
    refine wpAny_binaryOp_repeat_ref (T := "tuple") (U := "int") (by decide) ⟨_, ho, rfl⟩ (fun s' => typeIs_int s' k t) noFill_tuple_mul F.fills_int_mul F.slot_int_rmul repeat_tuple F.slot_int_index.lookup
      (call_meets F.slot_int_rmul (typeIs_int s k t) F.entry_int_rmul (F.args_int_rmul_2 _ _) (int_rmul_tuple k t l its.toArray n dd sl)
        ⟨ho, rfl, ⟨_, ho, rfl⟩, call_meets F.slot_tuple_mul ⟨_, ho, rfl⟩ F.entry_tuple_mul (F.args_tuple_mul_2 _ _) (tuple_mul1 l its.toArray n dd sl k t c0 c1) ⟨ho, ?_⟩⟩)
    exact ⟨.ref l, H, I, rfl, q1 hx⟩
  · have hne : xs ≠ [] := fun z => hx (.inl z)
    have hk : k ≠ 1 := fun z => hx (.inr z)
    have hn : its ≠ [] := fun e => hne (by
      rw [e] at hle
      exact List.eq_nil_of_length_eq_zero hle.symm)
    have hi : its.toArray.isEmpty = false := by
      cases its with
      | nil => exact absurd rfl hn
      | cons a b => rfl
    have c1 : (its.toArray.isEmpty || k == 1) = false := by
      rw [hi, Bool.false_or]
      exact beq_eq_false_iff_ne.mpr hk
    by_cases h0 : k ≤ 0
    · have c2 : (decide (k ≤ 0) || its.toArray.isEmpty) = true := by rw [decide_eq_true h0]; rfl
      refine wpAny_binaryOp_repeat_ref (T := "tuple") (U := "int") (by decide) ⟨_, ho, rfl⟩ (fun s' => typeIs_int s' k t) noFill_tuple_mul F.fills_int_mul F.slot_int_rmul repeat_tuple F.slot_int_index.lookup
        (call_meets F.slot_int_rmul (typeIs_int s k t) F.entry_int_rmul (F.args_int_rmul_2 _ _) (int_rmul_tuple k t l its.toArray n dd sl)
          ⟨ho, rfl, ⟨_, ho, rfl⟩, call_meets F.slot_tuple_mul ⟨_, ho, rfl⟩ F.entry_tuple_mul (F.args_tuple_mul_2 _ _) (tuple_mul0 l its.toArray n dd sl k t c0 c1 c2) ⟨ho, ?_⟩⟩)
      refine ⟨.ref s.heap.objs.size, _, I.laid (t' := s.toks) (o := .frz { cls := .type "tuple", data := .seq #[] } (.tup [])) (fun b ob q => Heap.get?_push_of_some _ q) (Nat.le_refl _) ?_, rfl, ?_⟩
      · exact ⟨Heap.get?_push_size _ rfl, Nat.zero_le _, [], .nil, IsTup.new _ _⟩
      · have z := q2 hne hk s.heap.objs.size { cls := .type "tuple", data := .seq #[] } (I.hok.fresh (Nat.le_refl _)) TupO.mk
        rw [Int.toNat_of_nonpos h0] at z
        exact z
    · have hm : ((its.toArray.size : Nat) : Int) * k ≤ 1000000 := by
        rw [hsz0]
        have a1 : ((xs.length : Nat) : Int) * k ≤ 1000 * k := Int.mul_le_mul_of_nonneg_right (by omega) (by omega)
        omega
      have flen : (List.replicate k.toNat its).flatten.length ≤ sizeLine := by
        rw [PyProof.Rows.lm_len_rep_flat, hle, sizeLine_eq]
        have a1 : k.toNat * xs.length ≤ 1000 * 1000 := Nat.mul_le_mul (by omega) hz
        omega
      have c2 : (decide (k ≤ 0) || its.toArray.isEmpty) = false := by
        rw [hi, Bool.or_false]
        exact decide_eq_false (by omega)
      have c4 : Builtin.Tuple.tupleTooMany (((its.toArray.size : Nat) : Int) * k) = false := by
        unfold Builtin.Tuple.tupleTooMany
        rw [sizeLine_eq]
        exact decide_eq_false (by omega)
      refine wpAny_binaryOp_repeat_ref (T := "tuple") (U := "int") (by decide) ⟨_, ho, rfl⟩ (fun s' => typeIs_int s' k t) noFill_tuple_mul F.fills_int_mul F.slot_int_rmul repeat_tuple F.slot_int_index.lookup
        (call_meets F.slot_int_rmul (typeIs_int s k t) F.entry_int_rmul (F.args_int_rmul_2 _ _) (int_rmul_tuple k t l its.toArray n dd sl)
          ⟨ho, rfl, ⟨_, ho, rfl⟩, call_meets F.slot_tuple_mul ⟨_, ho, rfl⟩ F.entry_tuple_mul (F.args_tuple_mul_2 _ _) (tuple_mulW l its.toArray n dd sl k t c0 c1 c2 (by omega) c4 (by rw [size_rep, List.size_toArray]; exact flen)) ⟨ho, ?_⟩⟩)
      rw [size_rep]
      refine ⟨.ref s.heap.objs.size, _, I.laid (t' := s.toks) (o := .frz { cls := .type "tuple", data := .seq (List.replicate k.toNat its).flatten.toArray } (.tup (List.replicate k.toNat xs).flatten)) (fun b ob q => Heap.get?_push_of_some _ q) (Nat.le_refl _) ?_, rfl, q2 hne hk _ _ (I.hok.fresh (Nat.le_refl _)) TupO.mk⟩
      exact ⟨Heap.get?_push_size _ rfl, by rw [PyProof.Rows.lm_len_rep_flat, sizeLine_eq]; have a1 : k.toNat * xs.length ≤ 1000 * 1000 := Nat.mul_le_mul (by omega) hz; omega, _, r.rep k.toNat, IsTup.new _ _⟩
end
end Rx
/-! Rx, part 1: frozen data, own things, the relation of slots and heap. -/
namespace Rx
open PySem L2

mutual
/-- frozen data at a value; F: what is frozen -/
inductive Dt (F : Hp) : PyData → V → Prop
  | non : Dt F .none .non
  | bl (b : Bool) : Dt F (.bool b) (.bl b)
  | int (i : Int) : Dt F (.int i) (.int i)
  | str (x : Str) : Dt F (.str x) (.str x)
  | lst {a : Addr} {ds : List PyData} {vs : List V} : F a = some (.lst vs) → DtAll F ds vs → Dt F (.list ds) (.ref a)
  | tup {a : Addr} {ds : List PyData} {vs : List V} : TupK F a vs → DtAll F ds vs → Dt F (.tuple ds) (.ref a)
inductive DtAll (F : Hp) : List PyData → List V → Prop
  | nil : DtAll F [] []
  | cons {d : PyData} {ds : List PyData} {v : V} {vs : List V} : Dt F d v → DtAll F ds vs → DtAll F (d :: ds) (v :: vs)
end
def Sub (F G : Hp) : Prop := ∀ a o, F a = some o → G a = some o
theorem TupK.mono {F G : Hp} {a : Addr} {vs : List V} (h : TupK F a vs) (s : Sub F G) : TupK G a vs := let ⟨o, q, w⟩ := h; ⟨o, s _ _ q, w⟩
theorem Sub.refl (F : Hp) : Sub F F := fun _ _ h => h
theorem Sub.trans {F G H : Hp} (a : Sub F G) (b : Sub G H) : Sub F H := fun x o h => b x o (a x o h)
theorem Sub.new {F : Hp} {a : Addr} {o : HO} (h : F a = none) : Sub F (upd F a o) := fun b u q => by rw [upd_ne (ne_of_none q h)]; exact q
mutual
theorem Dt.mono {F G : Hp} (h : Sub F G) : ∀ {d : PyData} {v : V}, Dt F d v → Dt G d v
  | _, _, .non => .non
  | _, _, .bl b => .bl b
  | _, _, .int i => .int i
  | _, _, .str x => .str x
  | _, _, .lst e r => .lst (h _ _ e) (DtAll.mono h r)
  | _, _, .tup e r => .tup (e.mono h) (DtAll.mono h r)
theorem DtAll.mono {F G : Hp} (h : Sub F G) : ∀ {ds : List PyData} {vs : List V}, DtAll F ds vs → DtAll G ds vs
  | _, _, .nil => .nil
  | _, _, .cons r t => .cons (Dt.mono h r) (DtAll.mono h t)
end
mutual
theorem Dt.dp {K : PySem.W.Frag} {F H : Hp} (h : Sub F H) : ∀ {d : PyData} {v : V}, Dt F d v → Dp K H v d
  | _, _, .non => .non
  | _, _, .bl b => .bl b
  | _, _, .int i => .int i
  | _, _, .str x => .str x
  | _, _, .lst e r => .lst (SqL.of (h _ _ e)) (DtAll.dp h r)
  | _, _, .tup e r => .tup (e.mono h).sq (DtAll.dp h r)
theorem DtAll.dp {K : PySem.W.Frag} {F H : Hp} (h : Sub F H) : ∀ {ds : List PyData} {vs : List V}, DtAll F ds vs → DpAll K H vs ds
  | _, _, .nil => .nil
  | _, _, .cons r t => .cons (Dt.dp h r) (DtAll.dp h t)
end
namespace DtAll
variable {F : Hp}
theorem len : ∀ {ds : List PyData} {vs : List V}, DtAll F ds vs → ds.length = vs.length
  | _, _, .nil => rfl
  | _, _, .cons _ t => by rw [List.length_cons, List.length_cons, t.len]
theorem at_ : ∀ {ds : List PyData} {vs : List V} {i : Nat} {d : PyData}, DtAll F ds vs → ds[i]? = some d → ∃ v, vs[i]? = some v ∧ Dt F d v
  | _, _, _, _, .nil, e => by simp at e
  | _, _, 0, _, .cons r _, e => by simp at e; subst e; exact ⟨_, rfl, r⟩
  | _, _, i + 1, d, .cons _ t, e => by
    obtain ⟨u, h1, h2⟩ := at_ (i := i) (d := d) t (by simpa using e)
    exact ⟨u, by simpa using h1, h2⟩
theorem atV : ∀ {ds : List PyData} {vs : List V} {i : Nat} {v : V}, DtAll F ds vs → vs[i]? = some v → ∃ d, ds[i]? = some d ∧ Dt F d v
  | _, _, _, _, .nil, e => by simp at e
  | _, _, 0, _, .cons r _, e => by simp at e; subst e; exact ⟨_, rfl, r⟩
  | _, _, i + 1, d, .cons _ t, e => by
    obtain ⟨u, h1, h2⟩ := atV (i := i) (v := d) t (by simpa using e)
    exact ⟨u, by simpa using h1, h2⟩
theorem app : ∀ {ds es : List PyData} {vs ws : List V}, DtAll F ds vs → DtAll F es ws → DtAll F (ds ++ es) (vs ++ ws)
  | _, _, _, _, .nil, s => s
  | _, _, _, _, .cons r t, s => .cons r (t.app s)
theorem one {d : PyData} {v : V} (h : Dt F d v) : DtAll F [d] [v] := .cons h .nil
theorem take : ∀ {ds : List PyData} {vs : List V} (n : Nat), DtAll F ds vs → DtAll F (ds.take n) (vs.take n)
  | _, _, 0, _ => .nil
  | _, _, _ + 1, .nil => .nil
  | _, _, n + 1, .cons r t => .cons r (t.take n)
theorem drop : ∀ {ds : List PyData} {vs : List V} (n : Nat), DtAll F ds vs → DtAll F (ds.drop n) (vs.drop n)
  | _, _, 0, r => r
  | _, _, _ + 1, .nil => .nil
  | _, _, n + 1, .cons _ t => t.drop n
theorem rev : ∀ {ds : List PyData} {vs : List V}, DtAll F ds vs → DtAll F ds.reverse vs.reverse
  | _, _, .nil => .nil
  | _, _, .cons r t => by rw [List.reverse_cons, List.reverse_cons]; exact t.rev.app (one r)
theorem set {d : PyData} {v : V} (r : Dt F d v) : ∀ {ds : List PyData} {vs : List V} (i : Nat), DtAll F ds vs → DtAll F (ds.set i d) (vs.set i v)
  | _, _, _, .nil => .nil
  | _, _, 0, .cons _ t => .cons r t
  | _, _, i + 1, .cons q t => .cons q (t.set r i)
theorem era : ∀ {ds : List PyData} {vs : List V} (i : Nat), DtAll F ds vs → DtAll F (ds.eraseIdx i) (vs.eraseIdx i)
  | _, _, _, .nil => .nil
  | _, _, 0, .cons _ t => t
  | _, _, i + 1, .cons q t => .cons q (t.era i)
theorem rep {ds : List PyData} {vs : List V} (h : DtAll F ds vs) : ∀ n : Nat, DtAll F (List.replicate n ds).flatten (List.replicate n vs).flatten
  | 0 => .nil
  | n + 1 => by rw [List.replicate_succ, List.replicate_succ, List.flatten_cons, List.flatten_cons]; exact h.app (h.rep n)
theorem intsA : ∀ (is : List Int), DtAll F (is.map PyData.int) (is.map V.int)
  | [] => .nil
  | i :: is => .cons (.int i) (intsA is)
theorem cut {ds : List PyData} {vs : List V} (h : DtAll F ds vs) (lo hi : Option Int) : DtAll F (cutL ds lo hi) (cutV vs lo hi) := by
  unfold cutL cutV
  rw [h.len]
  exact (h.drop _).take _
theorem inv {ds : List PyData} {vs : List V} (h : DtAll F ds vs) : ∀ {is : List Int}, intsOf ds = some is → ds = is.map PyData.int ∧ vs = is.map V.int := by
  induction ds generalizing vs with
  | nil => intro is e; cases h; cases e; exact ⟨rfl, rfl⟩
  | cons d ds ih =>
    intro is e
    cases h with
    | cons r t =>
      cases d with
      | int i =>
        unfold intsOf at e
        cases q : intsOf ds with
        | none => rw [q] at e; cases e
        | some js =>
          rw [q] at e
          cases e
          cases r
          obtain ⟨a, b⟩ := ih t q
          exact ⟨by rw [a]; rfl, by rw [b]; rfl⟩
      | _ => cases e
theorem invB {ds : List PyData} {vs : List V} (h : DtAll F ds vs) : ∀ {is : List Bool}, boolsOf ds = some is → vs = is.map V.bl := by
  induction ds generalizing vs with
  | nil => intro is e; cases h; cases e; rfl
  | cons d ds ih =>
    intro is e
    cases h with
    | cons r t =>
      cases d with
      | bool i =>
        unfold boolsOf at e
        cases q : boolsOf ds with
        | none => rw [q] at e; cases e
        | some js =>
          rw [q] at e
          cases e
          cases r
          rw [ih t q]; rfl
      | _ => cases e
end DtAll

mutual
def noText : NestedKey → Bool
  | .none => true
  | .num _ => true
  | .text _ => false
  | .tup ks => noTexts ks
def noTexts : List NestedKey → Bool
  | [] => true
  | k :: ks => noText k && noTexts ks
end
/-- the tuple at b is the key k -/
def KeyAt (F : Hp) (k : NestedKey) (b : Addr) : Prop := Dt F k.data (.ref b) ∧ k.depth ≤ 8 ∧ noText k = true
theorem KeyAt.mono {F G : Hp} (h : Sub F G) {k : NestedKey} {b : Addr} (x : KeyAt F k b) : KeyAt G k b := ⟨x.1.mono h, x.2⟩
/-- a table whose keys are tuples, as it stands -/
inductive Tks (F : Hp) : List (NestedKey × PyData) → List (NestedKey × Addr × Value) → Prop
  | nil : Tks F [] []
  | cons {k : NestedKey} {d : PyData} {b : Addr} {v : V} {u : Value} {r : List (NestedKey × PyData)} {r' : List (NestedKey × Addr × Value)} : KeyAt F k b → Dt F d v → RelV v u → Tks F r r' → Tks F ((k, d) :: r) ((k, b, u) :: r')
theorem Tks.mono {F G : Hp} (h : Sub F G) : ∀ {kvs : List (NestedKey × PyData)} {xs : List (NestedKey × Addr × Value)}, Tks F kvs xs → Tks G kvs xs
  | _, _, .nil => .nil
  | _, _, .cons a b c t => .cons (a.mono h) (b.mono h) c (Tks.mono h t)
def rawD (a : Addr) (xs : List (NestedKey × Addr × Value)) : HO := .ext fun h => (a == sysModules) = false ∧ ∃ o es ep, h.get? a = some o ∧ o.ExactDict ∧ o.data = .dict es ep ∧ ∀ (p : Program) (w : World), es.toList = xs.map (entryOfKey (nestedKind p w))
mutual
/-- a thing at a value: its own objects stand at L -/
inductive Own (K : PySem.W.Frag) (F H : Hp) : MV → V → List Addr → Prop
  | val {d : PyData} {v : V} : Dt F d v → Own K F H (.val d) v []
  | ls {a : Addr} {ds : List PyData} {vs : List V} : H a = some (.lst vs) → DtAll F ds vs → Own K F H (.ls ds) (.ref a) [a]
  | lst {a : Addr} {ms : List MV} {vs : List V} {L : List Addr} : H a = some (.lst vs) → OwnAll K F H ms vs L → Own K F H (.lst ms) (.ref a) (a :: L)
  | tup {a : Addr} {ms : List MV} {vs : List V} {L : List Addr} : TupK H a vs → OwnAll K F H ms vs L → Own K F H (.tup ms) (.ref a) (a :: L)
  | dct {a : Addr} {ks : List Key} {ms : List MV} {vs : List V} {L : List Addr} : H a = some (.dK (ks.zip vs)) → ks.length = vs.length → OwnAll K F H ms vs L → Own K F H (.dct ks ms) (.ref a) (a :: L)
  | scr {a : Addr} {ns : List Int} : SqL K F a (ns.map V.int) → Own K F H (.scr ns) (.ref a) []
  | rng {a : Addr} {lo hi : Int} : F a = some (.rng lo hi) → Own K F H (.rng lo hi) (.ref a) []
  | dtt {a : Addr} {kvs : List (NestedKey × PyData)} {xs : List (NestedKey × Addr × Value)} : H a = some (rawD a xs) → Tks F kvs xs → (kvs.map Prod.fst).Nodup ∧ kvs.length ≤ lim → Own K F H (.dtt kvs) (.ref a) [a]
  | fdt {a : Addr} {o : Obj} {kvs : List (NestedKey × PyData)} {xs : List (NestedKey × Addr × Value)} : F a = some (.frz o (rawD a xs)) → Tks F kvs xs → (kvs.map Prod.fst).Nodup ∧ kvs.length ≤ lim → Own K F H (.fdt kvs) (.ref a) []
inductive OwnAll (K : PySem.W.Frag) (F H : Hp) : List MV → List V → List Addr → Prop
  | nil : OwnAll K F H [] [] []
  | cons {m : MV} {ms : List MV} {v : V} {vs : List V} {L1 L2 : List Addr} : Own K F H m v L1 → OwnAll K F H ms vs L2 → OwnAll K F H (m :: ms) (v :: vs) (L1 ++ L2)
end
theorem SqL.mono {K : PySem.W.Frag} {F G : Hp} {a : Addr} {xs : List V} (h : Sub F G) (q : SqL K F a xs) : SqL K G a xs := by
  rcases q with (q | ⟨o, q⟩) | q
  · exact .inl (.inl (h _ _ q))
  · exact .inl (.inr ⟨o, h _ _ q⟩)
  · exact .inr q
mutual
theorem Own.keep {K : PySem.W.Frag} {F G H H' : Hp} (h : Sub F G) : ∀ {m : MV} {v : V} {L : List Addr}, Own K F H m v L → (∀ a ∈ L, H' a = H a) → Own K G H' m v L
  | _, _, _, .val r, _ => .val (r.mono h)
  | _, _, _, .ls e r, k => .ls ((k _ (List.mem_singleton.mpr rfl)).trans e) (r.mono h)
  | _, _, _, .lst e r, k => .lst ((k _ (List.mem_cons_self)).trans e) (OwnAll.keep h r fun a ha => k a (List.mem_cons_of_mem _ ha))
  | _, _, _, .tup e r, k => .tup (e.eq (k _ (List.mem_cons_self))) (OwnAll.keep h r fun a ha => k a (List.mem_cons_of_mem _ ha))
  | _, _, _, .dct e q r, k => .dct ((k _ (List.mem_cons_self)).trans e) q (OwnAll.keep h r fun a ha => k a (List.mem_cons_of_mem _ ha))
  | _, _, _, .scr q, _ => .scr (SqL.mono h q)
  | _, _, _, .rng q, _ => .rng (h _ _ q)
  | _, _, _, .dtt e r n, k => .dtt ((k _ (List.mem_singleton.mpr rfl)).trans e) (r.mono h) n
  | _, _, _, .fdt e r n, _ => .fdt (h _ _ e) (r.mono h) n
theorem OwnAll.keep {K : PySem.W.Frag} {F G H H' : Hp} (h : Sub F G) : ∀ {ms : List MV} {vs : List V} {L : List Addr}, OwnAll K F H ms vs L → (∀ a ∈ L, H' a = H a) → OwnAll K G H' ms vs L
  | _, _, _, .nil, _ => .nil
  | _, _, _, .cons r t, k => .cons (Own.keep h r fun a ha => k a (List.mem_append_left _ ha)) (OwnAll.keep h t fun a ha => k a (List.mem_append_right _ ha))
end
mutual
theorem Own.there {K : PySem.W.Frag} {F H : Hp} : ∀ {m : MV} {v : V} {L : List Addr}, Own K F H m v L → ∀ a ∈ L, ∃ o, H a = some o
  | _, _, _, .val _, a, ha => by cases ha
  | _, _, _, .ls e _, a, ha => by rw [List.mem_singleton.mp ha]; exact ⟨_, e⟩
  | _, _, _, .lst e r, a, ha => (List.mem_cons.mp ha).elim (fun z => by rw [z]; exact ⟨_, e⟩) (OwnAll.there r a)
  | _, _, _, .tup e r, a, ha => (List.mem_cons.mp ha).elim (fun z => by rw [z]; exact e.at_) (OwnAll.there r a)
  | _, _, _, .dct e _ r, a, ha => (List.mem_cons.mp ha).elim (fun z => by rw [z]; exact ⟨_, e⟩) (OwnAll.there r a)
  | _, _, _, .scr _, a, ha => by cases ha
  | _, _, _, .rng _, a, ha => by cases ha
  | _, _, _, .dtt e _ _, a, ha => by rw [List.mem_singleton.mp ha]; exact ⟨_, e⟩
  | _, _, _, .fdt _ _ _, a, ha => by cases ha
theorem OwnAll.there {K : PySem.W.Frag} {F H : Hp} : ∀ {ms : List MV} {vs : List V} {L : List Addr}, OwnAll K F H ms vs L → ∀ a ∈ L, ∃ o, H a = some o
  | _, _, _, .nil, a, ha => by cases ha
  | _, _, _, .cons r t, a, ha => (List.mem_append.mp ha).elim (Own.there r a) (OwnAll.there t a)
end

/-- slots -/
inductive OwnS (K : PySem.W.Frag) (F H : Hp) : MEnv → St → List Addr → Prop
  | nil : OwnS K F H [] [] []
  | no {ms : MEnv} {σ : St} {L : List Addr} (x : Option V) : OwnS K F H ms σ L → OwnS K F H (none :: ms) (x :: σ) L
  | so {m : MV} {v : V} {ms : MEnv} {σ : St} {L1 L2 : List Addr} : Own K F H m v L1 → OwnS K F H ms σ L2 → OwnS K F H (some m :: ms) (some v :: σ) (L1 ++ L2)
theorem OwnS.keep {K : PySem.W.Frag} {F G H H' : Hp} (h : Sub F G) : ∀ {ms : MEnv} {σ : St} {L : List Addr}, OwnS K F H ms σ L → (∀ a ∈ L, H' a = H a) → OwnS K G H' ms σ L
  | _, _, _, .nil, _ => .nil
  | _, _, _, .no x t, k => .no x (OwnS.keep h t k)
  | _, _, _, .so r t, k => .so (r.keep h fun a ha => k a (List.mem_append_left _ ha)) (OwnS.keep h t fun a ha => k a (List.mem_append_right _ ha))
theorem OwnS.there {K : PySem.W.Frag} {F H : Hp} : ∀ {ms : MEnv} {σ : St} {L : List Addr}, OwnS K F H ms σ L → ∀ a ∈ L, ∃ o, H a = some o
  | _, _, _, .nil, a, ha => by cases ha
  | _, _, _, .no _ t, a, ha => OwnS.there t a ha
  | _, _, _, .so r t, a, ha => (List.mem_append.mp ha).elim (r.there a) (OwnS.there t a)
theorem OwnS.len {K : PySem.W.Frag} {F H : Hp} : ∀ {ms : MEnv} {σ : St} {L : List Addr}, OwnS K F H ms σ L → ms.length = σ.length
  | _, _, _, .nil => rfl
  | _, _, _, .no _ t => by rw [List.length_cons, List.length_cons, t.len]
  | _, _, _, .so _ t => by rw [List.length_cons, List.length_cons, t.len]
/-- one slot apart: what it holds, and the others, with a hole there -/
theorem OwnS.cut {K : PySem.W.Frag} {F H : Hp} : ∀ {ms : MEnv} {σ : St} {L : List Addr} {i : Nat} {m : MV}, OwnS K F H ms σ L → ms[i]? = some (some m) →
    ∃ v L1 L2, σ[i]? = some (some v) ∧ Own K F H m v L1 ∧ OwnS K F H (ms.set i none) σ L2 ∧ (∀ a, a ∈ L ↔ a ∈ L1 ∨ a ∈ L2) ∧ (L.Nodup → L1.Nodup ∧ L2.Nodup ∧ ∀ a ∈ L1, a ∉ L2)
  | _, _, _, _, _, .nil, e => by simp at e
  | _, _, _, 0, _, .no _ t, e => by simp at e
  | _, _, _, i + 1, m, .no x t, e => by
    obtain ⟨v, L1, L2, h1, h2, h3, h4, h5⟩ := OwnS.cut (i := i) (m := m) t (by simpa using e)
    exact ⟨v, L1, L2, by simpa using h1, h2, .no x h3, h4, h5⟩
  | _, _, _, 0, _, @OwnS.so _ _ _ m v ms σ L1 L2 r t, e => by
    simp at e; subst e
    exact ⟨v, L1, L2, rfl, r, .no _ t, fun a => List.mem_append, fun nd => by
      obtain ⟨n1, n2, n3⟩ := List.nodup_append.mp nd
      exact ⟨n1, n2, fun a ha hb => n3 a ha a hb rfl⟩⟩
  | _, _, _, i + 1, m, @OwnS.so _ _ _ m0 v0 ms σ L0 L9 r t, e => by
    obtain ⟨v, L1, L2, h1, h2, h3, h4, h5⟩ := OwnS.cut (i := i) (m := m) t (by simpa using e)
    refine ⟨v, L1, L0 ++ L2, by simpa using h1, h2, .so r h3, fun a => ?_, fun nd => ?_⟩
    · rw [List.mem_append, h4, List.mem_append]
      constructor
      · rintro (h | h | h)
        · exact .inr (.inl h)
        · exact .inl h
        · exact .inr (.inr h)
      · rintro (h | h | h)
        · exact .inr (.inl h)
        · exact .inl h
        · exact .inr (.inr h)
    · obtain ⟨n1, n2, n3⟩ := List.nodup_append.mp nd
      obtain ⟨m1, m2, m3⟩ := h5 n2
      refine ⟨m1, List.nodup_append.mpr ⟨n1, m2, fun a ha b hb q => n3 a ha b ((h4 b).mpr (.inr hb)) q⟩, fun a ha hb => ?_⟩
      rcases List.mem_append.mp hb with hb | hb
      · exact n3 a hb a ((h4 a).mpr (.inl ha)) rfl
      · exact m3 a ha hb
/-- into a hole -/
theorem OwnS.fill {K : PySem.W.Frag} {F H : Hp} : ∀ {ms : MEnv} {σ : St} {L : List Addr} {i : Nat} {m : MV} {v : V} {L1 : List Addr}, OwnS K F H ms σ L → ms[i]? = some none → σ[i]? = some (some v) → Own K F H m v L1 →
    ∃ L2, OwnS K F H (ms.set i (some m)) σ L2 ∧ (∀ a, a ∈ L2 ↔ a ∈ L1 ∨ a ∈ L) ∧ (L.Nodup → L1.Nodup → (∀ a ∈ L1, a ∉ L) → L2.Nodup)
  | _, _, _, _, _, _, _, .nil, e, _, _ => by simp at e
  | _, _, L, 0, m, v, L1, .no x t, _, q, r => by
    simp at q; subst q
    exact ⟨L1 ++ L, .so r t, fun a => List.mem_append, fun n1 n2 n3 => List.nodup_append.mpr ⟨n2, n1, fun a ha b hb z => n3 a ha (z ▸ hb)⟩⟩
  | _, _, _, 0, _, _, _, .so _ _, e, _, _ => by simp at e
  | _, _, _, i + 1, m, v, L1, .no x t, e, q, r => by
    obtain ⟨L2, h1, h2, h3⟩ := OwnS.fill (i := i) t (by simpa using e) (by simpa using q) r
    exact ⟨L2, .no x h1, h2, h3⟩
  | _, _, _, i + 1, m, v, L1, @OwnS.so _ _ _ m0 v0 ms σ L0 L9 r0 t, e, q, r => by
    obtain ⟨L2, h1, h2, h3⟩ := OwnS.fill (i := i) t (by simpa using e) (by simpa using q) r
    refine ⟨L0 ++ L2, .so r0 h1, fun a => ?_, fun n1 n2 n3 => ?_⟩
    · rw [List.mem_append, h2, List.mem_append]
      constructor
      · rintro (h | h | h)
        · exact .inr (.inl h)
        · exact .inl h
        · exact .inr (.inr h)
      · rintro (h | h | h)
        · exact .inr (.inl h)
        · exact .inl h
        · exact .inr (.inr h)
    · obtain ⟨k1, k2, k3⟩ := List.nodup_append.mp n1
      refine List.nodup_append.mpr ⟨k1, h3 k2 n2 (fun a ha hb => n3 a ha (List.mem_append_right _ hb)), fun a ha b hb z => ?_⟩
      subst z
      rcases (h2 a).mp hb with h | h
      · exact n3 a h (List.mem_append_left _ ha)
      · exact k3 a ha a h rfl
/-- a slot of another value, where a hole is -/
theorem OwnS.hole {K : PySem.W.Frag} {F H : Hp} : ∀ {ms : MEnv} {σ : St} {L : List Addr} {i : Nat} (x : Option V), OwnS K F H ms σ L → ms[i]? = some none → OwnS K F H ms (σ.set i x) L
  | _, _, _, _, _, .nil, e => by simp at e
  | _, _, _, 0, x, .no _ t, _ => .no x t
  | _, _, _, 0, _, .so _ _, e => by simp at e
  | _, _, _, i + 1, x, .no y t, e => .no y (OwnS.hole (i := i) x t (by simpa using e))
  | _, _, _, i + 1, x, .so r t, e => .so r (OwnS.hole (i := i) x t (by simpa using e))
/-- a slot emptied -/
theorem OwnS.drop {K : PySem.W.Frag} {F H : Hp} {ms : MEnv} {σ : St} {L : List Addr} (i : Nat) (h : OwnS K F H ms σ L) : ∃ L2, OwnS K F H (ms.set i none) σ L2 ∧ (∀ a ∈ L2, a ∈ L) ∧ (L.Nodup → L2.Nodup) := by
  cases e : ms[i]? with
  | none =>
    refine ⟨L, ?_, fun _ h => h, fun h => h⟩
    rw [List.set_eq_of_length_le (by simpa using e)]
    exact h
  | some o =>
    cases o with
    | none =>
      refine ⟨L, ?_, fun _ h => h, fun h => h⟩
      have q : ms.set i none = ms := by
        apply List.ext_getElem?
        intro j
        by_cases hj : i = j
        · subst hj
          rw [List.getElem?_set_self (by
            have := List.getElem?_eq_some_iff.mp e
            exact this.1), e]
        · rw [List.getElem?_set_ne hj]
      rw [q]; exact h
    | some m =>
      obtain ⟨v, L1, L2, _, _, h3, h4, h5⟩ := h.cut e
      exact ⟨L2, h3, fun a ha => (h4 a).mpr (.inr ha), fun nd => (h5 nd).2.1⟩

/-- slots and heap stand to each other: F is frozen, L are the slots' own objects -/
structure Rel (K : PySem.W.Frag) (F H : Hp) (ms : MEnv) (σ : St) (L : List Addr) : Prop where
  own : OwnS K F H ms σ L
  nd : L.Nodup
  sub : Sub F H
  dis : ∀ a ∈ L, F a = none

/-- from (F, H) with the own objects L to (F', H') with the own objects L': nothing else is touched -/
structure Ext (F H : Hp) (L : List Addr) (F' H' : Hp) (L' : List Addr) : Prop where
  fr : Sub F F'
  keep : ∀ a o, H a = some o → a ∉ L → H' a = some o
  off : ∀ a o, H a = some o → a ∉ L → a ∉ L'
  same : ∀ a o, H a = some o → a ∉ L → F' a = F a
theorem Ext.refl (F H : Hp) (L : List Addr) : Ext F H L F H L := ⟨Sub.refl F, fun _ _ h _ => h, fun _ _ _ h => h, fun _ _ _ _ => rfl⟩
theorem Ext.trans {F H F1 H1 F2 H2 : Hp} {L L1 L2 : List Addr} (a : Ext F H L F1 H1 L1) (b : Ext F1 H1 L1 F2 H2 L2) : Ext F H L F2 H2 L2 :=
  ⟨a.fr.trans b.fr, fun x o h n => b.keep x o (a.keep x o h n) (a.off x o h n), fun x o h n => b.off x o (a.keep x o h n) (a.off x o h n),
    fun x o h n => (b.same x o (a.keep x o h n) (a.off x o h n)).trans (a.same x o h n)⟩
theorem Ext.mem {F H F' H' : Hp} {L1 L2 L1' L2' : List Addr} (a : Ext F H L1 F' H' L1') (h1 : ∀ x, x ∈ L1 → x ∈ L2) (h2 : ∀ x o, H x = some o → x ∉ L2 → x ∉ L2') : Ext F H L2 F' H' L2' :=
  ⟨a.fr, fun x o h n => a.keep x o h fun z => n (h1 x z), h2, fun x o h n => a.same x o h fun z => n (h1 x z)⟩
/-- fewer own objects behind -/
theorem Ext.less {F H F' H' : Hp} {L L1 L2 : List Addr} (a : Ext F H L F' H' L1) (h : ∀ x ∈ L2, x ∈ L1) : Ext F H L F' H' L2 :=
  ⟨a.fr, a.keep, fun x o q n z => a.off x o q n (h x z), a.same⟩
/-- things that stand beside are kept -/
theorem Ext.own {K : PySem.W.Frag} {F H F' H' : Hp} {L L' : List Addr} (a : Ext F H L F' H' L') {m : MV} {v : V} {M : List Addr} (r : Own K F H m v M) (h : ∀ x ∈ M, x ∉ L) : Own K F' H' m v M :=
  r.keep a.fr fun x hx => by
    obtain ⟨o, e⟩ := r.there x hx
    rw [e]; exact a.keep x o e (h x hx)
theorem Ext.ownAll {K : PySem.W.Frag} {F H F' H' : Hp} {L L' : List Addr} (a : Ext F H L F' H' L') {m : List MV} {v : List V} {M : List Addr} (r : OwnAll K F H m v M) (h : ∀ x ∈ M, x ∉ L) : OwnAll K F' H' m v M :=
  r.keep a.fr fun x hx => by
    obtain ⟨o, e⟩ := r.there x hx
    rw [e]; exact a.keep x o e (h x hx)
theorem Ext.ownS {K : PySem.W.Frag} {F H F' H' : Hp} {L L' : List Addr} (a : Ext F H L F' H' L') {m : MEnv} {v : St} {M : List Addr} (r : OwnS K F H m v M) (h : ∀ x ∈ M, x ∉ L) : OwnS K F' H' m v M :=
  r.keep a.fr fun x hx => by
    obtain ⟨o, e⟩ := r.there x hx
    rw [e]; exact a.keep x o e (h x hx)
/-- a new object, frozen -/
theorem Ext.newF {F H : Hp} {L : List Addr} {p : Addr} {o : HO} (hs : Sub F H) (hp : H p = none) : Ext F H L (upd F p o) (upd H p o) L := by
  have hf : F p = none := by
    cases q : F p with
    | none => rfl
    | some u => rw [hs p u q] at hp; cases hp
  refine ⟨Sub.new hf, fun x u q _ => ?_, fun _ _ _ n => n, fun x u q _ => ?_⟩
  · rw [upd_ne (ne_of_none q hp)]; exact q
  · rw [upd_ne (ne_of_none q hp)]
theorem Sub.updBoth {F H : Hp} {p : Addr} {o : HO} (hs : Sub F H) (hp : H p = none) : Sub (upd F p o) (upd H p o) := fun x u q => by
  by_cases e : x = p
  · subst e; rw [upd_same] at q; rw [upd_same]; exact q
  · rw [upd_ne e] at q; rw [upd_ne e]; exact hs x u q
theorem Sub.updR {F H : Hp} {p : Addr} {o : HO} (hs : Sub F H) (hp : F p = none) : Sub F (upd H p o) := fun x u q => by
  rw [upd_ne (ne_of_none q hp)]; exact hs x u q
theorem Sub.off {F H : Hp} (hs : Sub F H) {p : Addr} (hp : H p = none) : F p = none := by
  cases q : F p with
  | none => rfl
  | some u => rw [hs p u q] at hp; cases hp
/-- a new object of one's own -/
theorem Ext.newO {F H : Hp} {L : List Addr} {p : Addr} {o : HO} (hp : H p = none) : Ext F H L F (upd H p o) (p :: L) :=
  ⟨Sub.refl F, fun x u q _ => by rw [upd_ne (ne_of_none q hp)]; exact q, fun x u q n z => (List.mem_cons.mp z).elim (ne_of_none q hp) n, fun _ _ _ _ => rfl⟩

mutual
/-- a thing frozen: its own objects go over to what is frozen -/
theorem Own.frz {K : PySem.W.Frag} {F H : Hp} (hs : Sub F H) : ∀ {m : MV} {v : V} {L : List Addr} {d : PyData}, Own K F H m v L → m.frz = some d → ∀ {G : Hp}, Sub F G → (∀ a ∈ L, G a = H a) → Dt G d v
  | _, _, _, _, .val r, e, G, g, _ => by
    unfold MV.frz at e; cases e
    exact r.mono g
  | _, _, _, _, .ls q r, e, G, g, k => by
    unfold MV.frz at e; cases e
    exact .lst ((k _ (List.mem_singleton.mpr rfl)).trans q) (r.mono g)
  | _, _, _, d, @Own.lst _ _ _ a ms vs L q r, e, G, g, k => by
    unfold MV.frz at e
    cases z : frzAll ms with
    | none => rw [z] at e; cases e
    | some ds =>
      rw [z] at e; cases e
      exact .lst ((k _ List.mem_cons_self).trans q) (OwnAll.frz hs r z g fun a ha => k a (List.mem_cons_of_mem _ ha))
  | _, _, _, d, @Own.tup _ _ _ a ms vs L q r, e, G, g, k => by
    unfold MV.frz at e
    cases z : frzAll ms with
    | none => rw [z] at e; cases e
    | some ds =>
      rw [z] at e; cases e
      exact .tup (q.eq (k _ List.mem_cons_self)) (OwnAll.frz hs r z g fun a ha => k a (List.mem_cons_of_mem _ ha))
  | _, _, _, _, .dct _ _ _, e, G, g, _ => by unfold MV.frz at e; cases e
  | _, _, _, _, .scr _, e, G, g, _ => by unfold MV.frz at e; cases e
  | _, _, _, _, .rng _, e, G, g, _ => by unfold MV.frz at e; cases e
  | _, _, _, _, .dtt _ _ _, e, G, g, _ => by unfold MV.frz at e; cases e
  | _, _, _, _, .fdt _ _ _, e, G, g, _ => by unfold MV.frz at e; cases e
theorem OwnAll.frz {K : PySem.W.Frag} {F H : Hp} (hs : Sub F H) : ∀ {ms : List MV} {vs : List V} {L : List Addr} {ds : List PyData}, OwnAll K F H ms vs L → frzAll ms = some ds → ∀ {G : Hp}, Sub F G → (∀ a ∈ L, G a = H a) → DtAll G ds vs
  | _, _, _, _, .nil, e, G, g, _ => by unfold frzAll at e; cases e; exact .nil
  | _, _, _, ds, @OwnAll.cons _ _ _ m ms v vs L1 L2 r t, e, G, g, k => by
    unfold frzAll at e
    cases z : m.frz with
    | none => rw [z] at e; cases e
    | some d =>
      rw [z] at e
      cases z2 : frzAll ms with
      | none => rw [z2] at e; cases e
      | some ds2 =>
        rw [z2] at e; cases e
        exact .cons (Own.frz hs r z g fun a ha => k a (List.mem_append_left _ ha)) (OwnAll.frz hs t z2 g fun a ha => k a (List.mem_append_right _ ha))
end
/-- what is frozen, and H's objects at M with it -/
def addF (F H : Hp) (M : List Addr) : Hp := fun a => if a ∈ M then H a else F a
theorem addF_in {F H : Hp} {M : List Addr} {a : Addr} (h : a ∈ M) : addF F H M a = H a := by unfold addF; rw [if_pos h]
theorem addF_out {F H : Hp} {M : List Addr} {a : Addr} (h : a ∉ M) : addF F H M a = F a := by unfold addF; rw [if_neg h]
theorem addF_sub {F H : Hp} {M : List Addr} (hd : ∀ a ∈ M, F a = none) : Sub F (addF F H M) := fun a o e => by
  by_cases h : a ∈ M
  · rw [hd a h] at e; cases e
  · rw [addF_out h]; exact e
theorem addF_to {F H : Hp} {M : List Addr} (hs : Sub F H) : Sub (addF F H M) H := fun a o e => by
  by_cases h : a ∈ M
  · rw [addF_in h] at e; exact e
  · rw [addF_out h] at e; exact hs a o e
/-- freezing M, which stands beside L -/
theorem Ext.addF {F H : Hp} {L M : List Addr} (hd : ∀ a ∈ M, F a = none) : Ext F H (L ++ M) (addF F H M) H L :=
  ⟨addF_sub hd, fun _ _ h _ => h, fun _ _ _ n z => n (List.mem_append_left _ z), fun a _ _ n => addF_out fun z => n (List.mem_append_right _ z)⟩
theorem Rel.frz {K : PySem.W.Frag} {F H : Hp} {ms : MEnv} {σ : St} {L M : List Addr} (R : Rel K F H ms σ L) (hd : ∀ a ∈ M, F a = none) (hb : ∀ a ∈ L, a ∉ M) : Rel K (addF F H M) H ms σ L :=
  ⟨R.own.keep (addF_sub hd) fun _ _ => rfl, R.nd, addF_to R.sub, fun a ha => by rw [addF_out (hb a ha)]; exact R.dis a ha⟩
end Rx
/-! Rx, part 2: readings that reckon; how they go together. -/
namespace Rx
open PySem L2

/-- what has come of a reckoning that began at (F, H, L): slots ms, results rs at vs, which have M of their own -/
structure Got (K : PySem.W.Frag) (F H : Hp) (L : List Addr) (F' H' : Hp) (L' : List Addr) (ms : MEnv) (σ : St) (rs : List MV) (vs : List V) (M : List Addr) : Prop where
  rel : Rel K F' H' ms σ L'
  res : OwnAll K F' H' rs vs M
  nd : M.Nodup
  dis : ∀ a ∈ M, F' a = none ∧ a ∉ L'
  ext : Ext F H L F' H' (L' ++ M)

def tE (K : PySem.W.Frag) (f : MEnv → Res MV) : TE := fun σ H Q => ∃ F L ms m ms', Rel K F H ms σ L ∧ f ms = some (m, ms') ∧ ∀ v F' H' L' M, Got K F H L F' H' L' ms' σ [m] [v] M → Q v H'
def tA (K : PySem.W.Frag) (f : MEnv → Res (List MV)) : TA := fun σ H Q => ∃ F L ms rs ms', Rel K F H ms σ L ∧ f ms = some (rs, ms') ∧ ∀ vs F' H' L' M, Got K F H L F' H' L' ms' σ rs vs M → Q vs H'
def tT (K : PySem.W.Frag) (f : MEnv → Res MV) : TT := fun σ H Q => ∃ F L ms m ms' b, Rel K F H ms σ L ∧ f ms = some (m, ms') ∧ isB m = some b ∧ ∀ F' H' L', Rel K F' H' ms' σ L' → Ext F H L F' H' L' → Q b H'

section
variable {K : PySem.W.Frag} {F H F1 H1 F2 H2 : Hp} {L L1 L2 : List Addr} {ms ms1 ms2 : MEnv} {σ : St}
theorem OwnAll.one {m : MV} {v : V} {M : List Addr} (h : Own K F H m v M) : OwnAll K F H [m] [v] M := by
  have q := OwnAll.cons h OwnAll.nil
  rw [List.append_nil] at q
  exact q
theorem OwnAll.fst {m : MV} {v : V} {M : List Addr} (h : OwnAll K F H [m] [v] M) : Own K F H m v M := by
  cases h with
  | cons r t =>
    cases t
    rw [List.append_nil]
    exact r
theorem Got.start (R : Rel K F H ms σ L) : Got K F H L F H L ms σ [] [] [] := ⟨R, .nil, List.nodup_nil, (fun _ h => by cases h), by rw [List.append_nil]; exact Ext.refl _ _ _⟩
/-- one result, then more -/
theorem Got.cons {m : MV} {v : V} {rs : List MV} {vs : List V} {M1 M2 : List Addr} (a : Got K F H L F1 H1 L1 ms1 σ [m] [v] M1) (b : Got K F1 H1 L1 F2 H2 L2 ms2 σ rs vs M2) : Got K F H L F2 H2 L2 ms2 σ (m :: rs) (v :: vs) (M1 ++ M2) := by
  have r := a.res.fst
  have d1 : ∀ x ∈ M1, x ∉ L1 := fun x hx => (a.dis x hx).2
  have r2 : Own K F2 H2 m v M1 := b.ext.own r d1
  have d2 : ∀ x ∈ M1, x ∉ L2 ++ M2 := fun x hx => by
    obtain ⟨o, e⟩ := r.there x hx
    exact b.ext.off x o e (d1 x hx)
  refine ⟨b.rel, .cons r2 b.res, List.nodup_append.mpr ⟨a.nd, b.nd, fun x hx y hy e => d2 x hx (List.mem_append_right _ (e ▸ hy))⟩, fun x hx => ?_, ?_⟩
  · rcases List.mem_append.mp hx with hx | hx
    · obtain ⟨o, e⟩ := r.there x hx
      exact ⟨(b.ext.same x o e (d1 x hx)).trans (a.dis x hx).1, fun z => d2 x hx (List.mem_append_left _ z)⟩
    · exact b.dis x hx
  · have e2 : Ext F1 H1 (L1 ++ M1) F2 H2 (L2 ++ (M1 ++ M2)) := b.ext.mem (L2 := L1 ++ M1) (L2' := L2 ++ (M1 ++ M2)) (fun x hx => List.mem_append_left _ hx) fun x o q n z => by
      rcases List.mem_append.mp z with z | z
      · exact b.ext.off x o q (fun y => n (List.mem_append_left _ y)) (List.mem_append_left _ z)
      · rcases List.mem_append.mp z with z | z
        · exact n (List.mem_append_right _ z)
        · exact b.ext.off x o q (fun y => n (List.mem_append_left _ y)) (List.mem_append_right _ z)
    exact a.ext.trans e2
/-- the results frozen -/
theorem Got.frz {rs : List MV} {vs : List V} {M : List Addr} {ds : List PyData} (g : Got K F H L F1 H1 L1 ms1 σ rs vs M) (e : frzAll rs = some ds) : ∃ F', DtAll F' ds vs ∧ Rel K F' H1 ms1 σ L1 ∧ Ext F H L F' H1 L1 := by
  have hd : ∀ a ∈ M, F1 a = none := fun a ha => (g.dis a ha).1
  refine ⟨addF F1 H1 M, g.res.frz g.rel.sub e (addF_sub hd) (fun a ha => addF_in ha), g.rel.frz hd fun a ha hb => (g.dis a hb).2 ha, g.ext.trans (Ext.addF hd)⟩
/-- frozen results -/
theorem Got.of {F' : Hp} {d : PyData} {v : V} (R : Rel K F' H1 ms1 σ L1) (E : Ext F H L F' H1 L1) (r : Dt F' d v) : Got K F H L F' H1 L1 ms1 σ [.val d] [v] [] :=
  ⟨R, .one (.val r), List.nodup_nil, (fun _ h => by cases h), by rw [List.append_nil]; exact E⟩
theorem Got.ext0 {rs : List MV} {vs : List V} {M : List Addr} (g : Got K F H L F1 H1 L1 ms1 σ rs vs M) : Ext F H L F1 H1 L1 := g.ext.less fun _ h => List.mem_append_left _ h
/-- from another start -/
theorem Got.from {rs : List MV} {vs : List V} {M : List Addr} (E : Ext F H L F1 H1 L1) (g : Got K F1 H1 L1 F2 H2 L2 ms2 σ rs vs M) : Got K F H L F2 H2 L2 ms2 σ rs vs M := ⟨g.rel, g.res, g.nd, g.dis, E.trans g.ext⟩
theorem frz1 {m : MV} {d : PyData} (e : m.frz = some d) : frzAll [m] = some [d] := by
  unfold frzAll; rw [e]; unfold frzAll; rfl
theorem Got.frz1 {m : MV} {v : V} {M : List Addr} {d : PyData} (g : Got K F H L F1 H1 L1 ms1 σ [m] [v] M) (e : m.frz = some d) : ∃ F', Dt F' d v ∧ Rel K F' H1 ms1 σ L1 ∧ Ext F H L F' H1 L1 := by
  obtain ⟨F', h1, h2, h3⟩ := g.frz (Rx.frz1 e)
  cases h1 with
  | cons r _ => exact ⟨F', r, h2, h3⟩
theorem Dt.intOf {i : Int} {v : V} (h : Dt F (.int i) v) : v = .int i := by cases h; rfl
theorem Dt.blOf {b : Bool} {v : V} (h : Dt F (.bool b) v) : v = .bl b := by cases h; rfl
theorem Dt.strOf {x : Str} {v : V} (h : Dt F (.str x) v) : v = .str x := by cases h; rfl
theorem isB_val {m : MV} {b : Bool} (h : isB m = some b) : m = .val (.bool b) := by
  unfold isB at h
  split at h
  · cases h; rfl
  · cases h
theorem Got.isB {m : MV} {v : V} {M : List Addr} {b : Bool} (g : Got K F H L F1 H1 L1 ms1 σ [m] [v] M) (e : Rx.isB m = some b) : v = .bl b ∧ Rel K F1 H1 ms1 σ L1 ∧ Ext F H L F1 H1 L1 := by
  have em := isB_val e
  subst em
  have r := g.res.fst
  cases r with
  | val r => exact ⟨r.blOf, g.rel, g.ext0⟩
end

section
variable {X : Cx} {e : Expr} {t t' : TE}
theorem _root_.L2.PE.of (h : PE X e t) (w : ∀ σ H Q, t' σ H Q → t σ H Q) : PE X e t' := ⟨fun pins s σ H Q I q => h.run pins s σ H Q I (w σ H Q q)⟩
theorem _root_.L2.PT.of {t t' : TT} (h : PT X e t) (w : ∀ σ H Q, t' σ H Q → t σ H Q) : PT X e t' := ⟨fun pins s σ H Q I q => h.run pins s σ H Q I (w σ H Q q)⟩
theorem _root_.L2.PW.of {t t' : TT} (h : PW X e t) (w : ∀ σ H Q, t' σ H Q → t σ H Q) : PW X e t' := ⟨fun wh pins s σ H Q I q => h.run wh pins s σ H Q I (w σ H Q q)⟩
theorem _root_.L2.PA.of {es : List Expr} {t t' : TA} (h : PA X es t) (w : ∀ σ H Q, t' σ H Q → t σ H Q) : PA X es t' := ⟨fun pos pins s σ H Q I q => h.run pos pins s σ H Q I (w σ H Q q)⟩
theorem _root_.L2.PS.of {st : Stmt} {t t' : TS} (h : PS X st t) (w : ∀ D σ H, t' D σ H → t D σ H) : PS X st t' := ⟨fun pins s σ H D I q => h.run pins s σ H D I (w D σ H q)⟩
theorem _root_.L2.PSs.of {st : List Stmt} {t t' : TS} (h : PSs X st t) (w : ∀ D σ H, t' D σ H → t D σ H) : PSs X st t' := ⟨fun pins s σ H D I q => h.run pins s σ H D I (w D σ H q)⟩
end

section
variable {K : PySem.W.Frag} {Φ : Funs} {σ : St} {H : Hp}
theorem bindSome {α β : Type} {o : Option α} {f : α → Option β} {b : β} (h : o.bind f = some b) : ∃ a, o = some a ∧ f a = some b := Option.bind_eq_some_iff.mp h
theorem mapSome {α β : Type} {o : Option α} {f : α → β} {b : β} (h : o.map f = some b) : ∃ a, o = some a ∧ f a = b := Option.map_eq_some_iff.mp h
/-- run a reckoning from where it stands -/
theorem tE.go {f : MEnv → Res MV} {Q : VK} {F : Hp} {L : List Addr} {ms ms' : MEnv} {m : MV} (R : Rel K F H ms σ L) (e : f ms = some (m, ms')) (k : ∀ v F' H' L' M, Got K F H L F' H' L' ms' σ [m] [v] M → Q v H') : tE K f σ H Q := ⟨F, L, ms, m, ms', R, e, k⟩
theorem tA.go {f : MEnv → Res (List MV)} {Q : List V → Hp → Prop} {F : Hp} {L : List Addr} {ms ms' : MEnv} {m : List MV} (R : Rel K F H ms σ L) (e : f ms = some (m, ms')) (k : ∀ v F' H' L' M, Got K F H L F' H' L' ms' σ m v M → Q v H') : tA K f σ H Q := ⟨F, L, ms, m, ms', R, e, k⟩
theorem tA_nil {Q : List V → Hp → Prop} (h : tA K (evEs Φ []) σ H Q) : tNil σ H Q := by
  obtain ⟨F, L, ms, rs, ms', R, e, k⟩ := h
  unfold evEs at e; cases e
  exact k [] F H L [] (Got.start R)
theorem tA_cons {a : IE} {as : List IE} {Q : List V → Hp → Prop} (h : tA K (evEs Φ (a :: as)) σ H Q) : tCons (tE K (evE Φ a)) (tA K (evEs Φ as)) σ H Q := by
  obtain ⟨F, L, ms, rs, ms', R, e, k⟩ := h
  unfold evEs at e
  obtain ⟨⟨m, ms1⟩, e1, e2⟩ := bindSome e
  obtain ⟨⟨vs, ms2⟩, e3, e4⟩ := mapSome e2
  cases e4
  exact tE.go R e1 fun v F1 H1 L1 M1 g1 => tA.go g1.rel e3 fun ws F2 H2 L2 M2 g2 => k _ _ _ _ _ (g1.cons g2)
/-- arguments of a def: lent or frozen -/
theorem tAs_nil {Q : List V → Hp → Prop} (h : tA K (evAs Φ []) σ H Q) : tNil σ H Q := by
  obtain ⟨F, L, ms, rs, ms', R, e, k⟩ := h
  unfold evAs at e; cases e
  exact k [] F H L [] (Got.start R)
theorem argOf_cases (a : IE) (m : MV) : argOf a m = m ∨ ∃ d, m.frz = some d ∧ argOf a m = .val d := by
  unfold argOf
  split
  · exact .inl rfl
  · split
    · rename_i d e; exact .inr ⟨d, e, rfl⟩
    · exact .inl rfl
theorem Got.arg {F H F1 H1 : Hp} {L L1 : List Addr} {ms1 : MEnv} {a : IE} {m : MV} {v : V} {M : List Addr} (g : Got K F H L F1 H1 L1 ms1 σ [m] [v] M) : ∃ F' M', Got K F H L F' H1 L1 ms1 σ [argOf a m] [v] M' := by
  rcases argOf_cases a m with e | ⟨d, e1, e2⟩
  · rw [e]; exact ⟨F1, M, g⟩
  · obtain ⟨F', r, R, E⟩ := g.frz1 e1
    rw [e2]
    exact ⟨F', [], Got.of R E r⟩
theorem tAs_cons {a : IE} {as : List IE} {Q : List V → Hp → Prop} (h : tA K (evAs Φ (a :: as)) σ H Q) : tCons (tE K (evE Φ a)) (tA K (evAs Φ as)) σ H Q := by
  obtain ⟨F, L, ms, rs, ms', R, e, k⟩ := h
  unfold evAs at e
  obtain ⟨⟨m, ms1⟩, e1, e2⟩ := bindSome e
  obtain ⟨⟨vs, ms2⟩, e3, e4⟩ := mapSome e2
  cases e4
  exact tE.go R e1 fun v F1 H1 L1 M1 g1 => by
    obtain ⟨F', M', g'⟩ := g1.arg (a := a)
    exact tA.go g'.rel e3 fun ws F2 H2 L2 M2 g2 => k _ _ _ _ _ (g'.cons g2)

/-! ### what an operation makes -/
inductive Made (fresh : Bool) (F H : Hp) : PyData → V → Hp → Prop
  | old {d : PyData} {v : V} : Dt F d v → (fresh = true → ∀ ds, d ≠ .list ds) → Made fresh F H d v H
  | lst {p : Addr} {ds : List PyData} {vs : List V} : fresh = true → H p = none → DtAll F ds vs → Made fresh F H (.list ds) (.ref p) (upd H p (.lst vs))
  | tup {p : Addr} {o : Obj} {ds : List PyData} {vs : List V} : H p = none → TupO o → DtAll F ds vs → Made fresh F H (.tuple ds) (.ref p) (upd H p (.frz o (.tup vs)))
/-- what an operation looks at: frozen data, or a list at a glance -/
inductive Opd (F H : Hp) : PyData → V → Prop
  | fz {d : PyData} {v : V} : Dt F d v → Opd F H d v
  | ls {a : Addr} {ds : List PyData} {vs : List V} : H a = some (.lst vs) → DtAll F ds vs → Opd F H (.list ds) (.ref a)
inductive OpdAll (F H : Hp) : List PyData → List V → Prop
  | nil : OpdAll F H [] []
  | cons {d : PyData} {ds : List PyData} {v : V} {vs : List V} : Opd F H d v → OpdAll F H ds vs → OpdAll F H (d :: ds) (v :: vs)
/-- a reading of values does what opSem says -/
def OpOk (o : Op) (r : List V → Hp → VK → Prop) : Prop := ∀ (F H : Hp) (ds : List PyData) (vs : List V) (d : PyData) (Q : VK), Sub F H → OpdAll F H ds vs → opSem o ds = some d → (∀ v H', Made o.fresh F H d v H' → Q v H') → r vs H Q
theorem Rel.newF {F : Hp} {L : List Addr} {ms : MEnv} {p : Addr} {o : HO} (R : Rel K F H ms σ L) (hp : H p = none) : Rel K (upd F p o) (upd H p o) ms σ L := by
  have E := Ext.newF (L := L) (o := o) R.sub hp
  have off : ∀ a ∈ L, a ≠ p := fun a ha z => by
    obtain ⟨u, e⟩ := R.own.there a ha
    rw [z, hp] at e; cases e
  exact ⟨R.own.keep E.fr fun a ha => upd_ne (off a ha), R.nd, R.sub.updBoth hp, fun a ha => by rw [upd_ne (off a ha)]; exact R.dis a ha⟩
theorem Rel.newO {F : Hp} {L : List Addr} {ms : MEnv} {p : Addr} {o : HO} (R : Rel K F H ms σ L) (hp : H p = none) : Rel K F (upd H p o) ms σ L :=
  ⟨R.own.keep (Sub.refl F) fun a ha => upd_ne fun z => (by
    obtain ⟨u, e⟩ := R.own.there a ha
    rw [z, hp] at e; exact absurd e (by simp)), R.nd, R.sub.updR (R.sub.off hp), R.dis⟩
theorem Rel.fresh {F : Hp} {L : List Addr} {ms : MEnv} {p : Addr} (R : Rel K F H ms σ L) (hp : H p = none) : p ∉ L := fun z => by
  obtain ⟨u, e⟩ := R.own.there p z
  rw [hp] at e; cases e
/-- an operation's end -/
theorem Got.made {F H F1 H1 H2 : Hp} {L L1 : List Addr} {ms1 : MEnv} {o : Op} {d : PyData} {v : V} (R : Rel K F1 H1 ms1 σ L1) (E : Ext F H L F1 H1 L1) (m : Made o.fresh F1 H1 d v H2) : ∃ F2 M, Got K F H L F2 H2 L1 ms1 σ [madeBy o d] [v] M := by
  cases m with
  | old r h =>
    refine ⟨F1, [], ?_⟩
    have e : madeBy o d = .val d := by
      unfold madeBy
      split
      · rename_i ds hf; exact absurd rfl (h hf _)
      · rfl
    rw [e]
    exact Got.of R E r
  | @lst p ds vs hf hp r =>
    have e : madeBy o (.list ds) = .ls ds := by unfold madeBy; rw [hf]
    rw [e]
    refine ⟨F1, [p], R.newO hp, .one (.ls upd_same (r)), (by simp), fun a ha => ?_, ?_⟩
    · rw [List.mem_singleton.mp ha]
      exact ⟨R.sub.off hp, R.fresh hp⟩
    · exact E.trans ((Ext.newO hp).less fun x hx => (List.mem_append.mp hx).elim (List.mem_cons_of_mem _) fun z => by rw [List.mem_singleton.mp z]; exact List.mem_cons_self)
  | @tup p oo ds vs hp wo r =>
    have e : madeBy o (.tuple ds) = .val (.tuple ds) := by
      unfold madeBy
      split
      · rename_i h; cases h
      · rfl
    rw [e]
    exact ⟨_, [], Got.of (R.newF hp) (E.trans (Ext.newF R.sub hp)) (.tup (TupK.same wo) (r.mono (Sub.new (R.sub.off hp))))⟩

/-- an operation's arguments, read: a slot at a glance is just its value -/
def tO (K : PySem.W.Frag) (Φ : Funs) : IE → TE
  | .pk i => tVar i
  | a => tE K (evE Φ a)
def tOs (K : PySem.W.Frag) (Φ : Funs) : List IE → TA
  | [] => tNil
  | a :: as => tCons (tO K Φ a) (tOs K Φ as)
def isPk : IE → Bool
  | .pk _ => true
  | _ => false
inductive OwnP (K : PySem.W.Frag) (F H : Hp) (σ : L2.St) : List IE → List MV → List V → List Addr → Prop
  | nil : OwnP K F H σ [] [] [] []
  | pk {i : Nat} {v : V} {r : MV} {as : List IE} {rs : List MV} {vs : List V} {M : List Addr} : σ[i]? = some (some v) → OwnP K F H σ as rs vs M → OwnP K F H σ (.pk i :: as) (r :: rs) (v :: vs) M
  | it {a : IE} {v : V} {r : MV} {as : List IE} {rs : List MV} {vs : List V} {M1 M2 : List Addr} : isPk a = false → Own K F H r v M1 → OwnP K F H σ as rs vs M2 → OwnP K F H σ (a :: as) (r :: rs) (v :: vs) (M1 ++ M2)
theorem OwnP.keep {F G H H' : Hp} (h : Sub F G) : ∀ {as : List IE} {ms : List MV} {vs : List V} {M : List Addr}, OwnP K F H σ as ms vs M → (∀ a ∈ M, H' a = H a) → OwnP K G H' σ as ms vs M
  | _, _, _, _, .nil, _ => .nil
  | _, _, _, _, .pk e t, k => .pk e (OwnP.keep h t k)
  | _, _, _, _, .it n r t, k => .it n (r.keep h fun a ha => k a (List.mem_append_left _ ha)) (OwnP.keep h t fun a ha => k a (List.mem_append_right _ ha))
theorem OwnP.there {F H : Hp} : ∀ {as : List IE} {ms : List MV} {vs : List V} {M : List Addr}, OwnP K F H σ as ms vs M → ∀ a ∈ M, ∃ o, H a = some o
  | _, _, _, _, .nil, a, ha => by cases ha
  | _, _, _, _, .pk _ t, a, ha => OwnP.there t a ha
  | _, _, _, _, .it _ r t, a, ha => (List.mem_append.mp ha).elim (r.there a) (OwnP.there t a)
structure GotP (K : PySem.W.Frag) (F H : Hp) (L : List Addr) (F' H' : Hp) (L' : List Addr) (ms : MEnv) (σ : L2.St) (as : List IE) (rs : List MV) (vs : List V) (M : List Addr) : Prop where
  rel : Rel K F' H' ms σ L'
  res : OwnP K F' H' σ as rs vs M
  nd : M.Nodup
  dis : ∀ a ∈ M, F' a = none ∧ a ∉ L'
  ext : Ext F H L F' H' (L' ++ M)
theorem GotP.it {F H F1 H1 F2 H2 : Hp} {L L1 L2 : List Addr} {ms1 ms2 : MEnv} {a : IE} {as : List IE} {m : MV} {v : V} {rs : List MV} {vs : List V} {M1 M2 : List Addr} (n : isPk a = false) (g : Got K F H L F1 H1 L1 ms1 σ [m] [v] M1) (b : GotP K F1 H1 L1 F2 H2 L2 ms2 σ as rs vs M2) :
    GotP K F H L F2 H2 L2 ms2 σ (a :: as) (m :: rs) (v :: vs) (M1 ++ M2) := by
  have r := g.res.fst
  have d1 : ∀ x ∈ M1, x ∉ L1 := fun x hx => (g.dis x hx).2
  have r2 : Own K F2 H2 m v M1 := b.ext.own r d1
  have d2 : ∀ x ∈ M1, x ∉ L2 ++ M2 := fun x hx => by
    obtain ⟨o, e⟩ := r.there x hx
    exact b.ext.off x o e (d1 x hx)
  refine ⟨b.rel, .it n r2 b.res, List.nodup_append.mpr ⟨g.nd, b.nd, fun x hx y hy e => d2 x hx (List.mem_append_right _ (e ▸ hy))⟩, fun x hx => ?_, ?_⟩
  · rcases List.mem_append.mp hx with hx | hx
    · obtain ⟨o, e⟩ := r.there x hx
      exact ⟨(b.ext.same x o e (d1 x hx)).trans (g.dis x hx).1, fun z => d2 x hx (List.mem_append_left _ z)⟩
    · exact b.dis x hx
  · have e2 : Ext F1 H1 (L1 ++ M1) F2 H2 (L2 ++ (M1 ++ M2)) := b.ext.mem (L2 := L1 ++ M1) (L2' := L2 ++ (M1 ++ M2)) (fun x hx => List.mem_append_left _ hx) fun x o q n z => by
      rcases List.mem_append.mp z with z | z
      · exact b.ext.off x o q (fun y => n (List.mem_append_left _ y)) (List.mem_append_left _ z)
      · rcases List.mem_append.mp z with z | z
        · exact n (List.mem_append_right _ z)
        · exact b.ext.off x o q (fun y => n (List.mem_append_left _ y)) (List.mem_append_right _ z)
    exact g.ext.trans e2
/-- the arguments seen -/
theorem OwnP.seen {F H G : Hp} {L : List Addr} {ms : MEnv} (hs : Sub F H) (R : Rel K G H ms σ L) (g : Sub F G) : ∀ {as : List IE} {rs : List MV} {vs : List V} {M : List Addr} {ds : List PyData}, OwnP K F H σ as rs vs M → Rx.seen as rs ms = some ds → (∀ a ∈ M, G a = H a) → OpdAll G H ds vs
  | _, _, _, _, _, .nil, e, _ => by unfold Rx.seen at e; cases e; exact .nil
  | _, _, _, _, ds, @OwnP.pk _ _ _ _ i v r as rs vs M q t, e, k => by
    unfold Rx.seen at e
    obtain ⟨m, e1, e2⟩ := bindSome e
    obtain ⟨d, e3, e4⟩ := bindSome e2
    obtain ⟨ds2, e5, e6⟩ := mapSome e4
    cases e6
    refine .cons ?_ (OwnP.seen hs R g t e5 k)
    have e1' : ms[i]? = some (some m) := by
      cases z : ms[i]? with
      | none => rw [z] at e1; cases e1
      | some y => rw [z] at e1; cases y with
        | none => cases e1
        | some y => exact congrArg (fun w => some w) e1
    obtain ⟨v', L1, L2, h1, h2, _⟩ := R.own.cut e1'
    rw [q] at h1; cases h1
    cases h2 with
    | val r => unfold MV.pk at e3; cases e3; exact .fz r
    | ls a b => unfold MV.pk at e3; cases e3; exact .ls a b
    | lst _ _ => unfold MV.pk at e3; cases e3
    | tup _ _ => unfold MV.pk at e3; cases e3
    | dct _ _ _ => unfold MV.pk at e3; cases e3
    | scr _ => unfold MV.pk at e3; cases e3
    | rng _ => unfold MV.pk at e3; cases e3
    | dtt _ _ _ => unfold MV.pk at e3; cases e3
    | fdt _ _ _ => unfold MV.pk at e3; cases e3
  | _, _, _, _, ds, @OwnP.it _ _ _ _ a v r as rs vs M1 M2 n o t, e, k => by
    have e' : (r.frz.bind fun d => (Rx.seen as rs ms).map fun ds => d :: ds) = some ds := by
      cases a with
      | pk i => cases n
      | _ => unfold Rx.seen at e; exact e
    obtain ⟨d, e3, e4⟩ := bindSome e'
    obtain ⟨ds2, e5, e6⟩ := mapSome e4
    cases e6
    exact .cons (.fz (o.frz hs e3 g fun a ha => k a (List.mem_append_left _ ha))) (OwnP.seen hs R g t e5 fun a ha => k a (List.mem_append_right _ ha))
theorem joinSome {α : Type} {o : Option (Option α)} {a : α} (h : o.join = some a) : o = some (some a) := by
  cases o with
  | none => cases h
  | some y => cases y with
    | none => cases h
    | some y => exact congrArg (fun w => some w) h
theorem tOs_go {as : List IE} : ∀ {F : Hp} {H : Hp} {L : List Addr} {ms ms' : MEnv} {rs : List MV} {Q : List V → Hp → Prop}, Rel K F H ms σ L → evEs Φ as ms = some (rs, ms') →
    (∀ vs F' H' L' M, GotP K F H L F' H' L' ms' σ as rs vs M → Q vs H') → tOs K Φ as σ H Q := by
  induction as with
  | nil =>
    intro F H L ms ms' rs Q R e k
    unfold evEs at e; cases e
    exact k [] F H L [] ⟨R, .nil, List.nodup_nil, (fun _ h => by cases h), by rw [List.append_nil]; exact Ext.refl _ _ _⟩
  | cons a as ih =>
    intro F H L ms ms' rs Q R e k
    unfold evEs at e
    obtain ⟨⟨m, ms1⟩, e1, e2⟩ := bindSome e
    obtain ⟨⟨vs, ms2⟩, e3, e4⟩ := mapSome e2
    cases e4
    cases n : isPk a with
    | true =>
      cases a with
      | pk i =>
        unfold evE at e1
        obtain ⟨m0, e5, e6⟩ := mapSome e1
        cases e6
        obtain ⟨v, _, _, hv, _⟩ := R.own.cut (joinSome e5)
        exact ⟨v, hv, ih R e3 fun ws F' H' L' M g => k _ _ _ _ _ ⟨g.rel, .pk hv g.res, g.nd, g.dis, g.ext⟩⟩
      | _ => cases n
    | false =>
      have q : tE K (evE Φ a) σ H fun x H1 => tOs K Φ as σ H1 fun xs H2 => Q (x :: xs) H2 := tE.go R e1 fun v F1 H1 L1 M1 g1 => ih g1.rel e3 fun ws F2 H2 L2 M2 g2 => k _ _ _ _ _ (GotP.it n g1 g2)
      cases a with
      | pk i => cases n
      | _ => exact q
/-- an operation upon arguments -/
theorem op_go {o : Op} {r : List V → Hp → VK → Prop} (ok : OpOk o r) {as : List IE} {Q : VK} (h : tE K (evE Φ (.op o as)) σ H Q) : tOs K Φ as σ H fun vs H1 => r vs H1 Q := by
  obtain ⟨F, L, ms, m, ms', R, e, k⟩ := h
  unfold evE at e
  obtain ⟨⟨rs, ms1⟩, e1, e2⟩ := bindSome e
  obtain ⟨ds, e3, e4⟩ := bindSome e2
  obtain ⟨d, e5, e6⟩ := mapSome e4
  cases e6
  refine tOs_go R e1 fun vs F1 H1 L1 M1 g => ?_
  have hd : ∀ a ∈ M1, F1 a = none := fun a ha => (g.dis a ha).1
  have R2 : Rel K (addF F1 H1 M1) H1 ms' σ L1 := g.rel.frz hd fun a ha hb => (g.dis a hb).2 ha
  have E2 : Ext F H L (addF F1 H1 M1) H1 L1 := g.ext.trans (Ext.addF hd)
  refine ok (addF F1 H1 M1) H1 ds vs d Q R2.sub (g.res.seen g.rel.sub R2 (addF_sub hd) e3 fun a ha => addF_in ha) e5 fun v H' md => ?_
  obtain ⟨F3, M3, g3⟩ := Got.made R2 E2 md
  exact k _ _ _ _ _ g3
def R2of (r : R2) : List V → Hp → VK → Prop := fun vs H Q => match vs with | [x, y] => r x y H Q | _ => False
def R1of (r : V → Hp → VK → Prop) : List V → Hp → VK → Prop := fun vs H Q => match vs with | [x] => r x H Q | _ => False
theorem tO_mono {a : IE} {Q Q' : VK} (h : tO K Φ a σ H Q) (w : ∀ v H', Q v H' → Q' v H') : tO K Φ a σ H Q' := by
  cases a with
  | pk i => obtain ⟨v, e, q⟩ := h; exact ⟨v, e, w _ _ q⟩
  | _ => obtain ⟨F, L, ms, m, ms', R, e, k⟩ := h; exact ⟨F, L, ms, m, ms', R, e, fun v F' H' L' M g => w _ _ (k v F' H' L' M g)⟩
theorem op2_go {o : Op} {r : R2} (ok : OpOk o (R2of r)) {a b : IE} {Q : VK} (h : tE K (evE Φ (.op o [a, b])) σ H Q) : tOp r (tO K Φ a) (tO K Φ b) σ H Q :=
  tO_mono (op_go ok h) fun _ _ q => tO_mono q fun _ _ q => q
theorem op1_go {o : Op} {r : V → Hp → VK → Prop} (ok : OpOk o (R1of r)) {a : IE} {Q : VK} (h : tE K (evE Φ (.op o [a])) σ H Q) : tUn r (tO K Φ a) σ H Q :=
  tO_mono (op_go ok h) fun _ _ q => q
end
end Rx
/-! Rx, part 3: each operation's reading does what opSem says. -/
namespace Rx
open PySem L2 PyProof.Rows

theorem OpdAll.two {F H : Hp} {d e : PyData} {vs : List V} (h : OpdAll F H [d, e] vs) : ∃ v u, vs = [v, u] ∧ Opd F H d v ∧ Opd F H e u := by
  cases h with
  | cons a t => cases t with | cons b t => cases t; exact ⟨_, _, rfl, a, b⟩
theorem OpdAll.oneV {F H : Hp} {d : PyData} {vs : List V} (h : OpdAll F H [d] vs) : ∃ v, vs = [v] ∧ Opd F H d v := by
  cases h with
  | cons a t => cases t; exact ⟨_, rfl, a⟩
theorem Opd.lstOf {F H : Hp} (hs : Sub F H) {ds : List PyData} {v : V} (h : Opd F H (.list ds) v) : ∃ a vs, v = .ref a ∧ H a = some (.lst vs) ∧ DtAll F ds vs := by
  cases h with
  | fz h => cases h with | lst e r => exact ⟨_, _, rfl, hs _ _ e, r⟩
  | ls e r => exact ⟨_, _, rfl, e, r⟩
theorem Opd.tupOf {F H : Hp} {ds : List PyData} {v : V} (h : Opd F H (.tuple ds) v) : ∃ a vs, v = .ref a ∧ TupK F a vs ∧ DtAll F ds vs := by
  cases h with
  | fz h => cases h with | tup e r => exact ⟨_, _, rfl, e, r⟩
theorem Opd.intOf {F H : Hp} {i : Int} {v : V} (h : Opd F H (.int i) v) : v = .int i := by
  cases h with | fz h => exact h.intOf
theorem Opd.blOf {F H : Hp} {i : Bool} {v : V} (h : Opd F H (.bool i) v) : v = .bl i := by
  cases h with | fz h => exact h.blOf
theorem Opd.strOf {F H : Hp} {i : Str} {v : V} (h : Opd F H (.str i) v) : v = .str i := by
  cases h with | fz h => exact h.strOf
theorem Opd.dp {K : PySem.W.Frag} {F H : Hp} (hs : Sub F H) {d : PyData} {v : V} (h : Opd F H d v) : Dp K H v d := by
  cases h with
  | fz h => exact h.dp hs
  | ls e r => exact .lst (SqL.of e) (r.dp hs)
theorem Made.int {fr : Bool} {F H : Hp} (i : Int) : Made fr F H (.int i) (.int i) H := .old (.int i) fun _ _ h => by cases h
theorem Made.bl {fr : Bool} {F H : Hp} (b : Bool) : Made fr F H (.bool b) (.bl b) H := .old (.bl b) fun _ _ h => by cases h
theorem Made.str {fr : Bool} {F H : Hp} (b : Str) : Made fr F H (.str b) (.str b) H := .old (.str b) fun _ _ h => by cases h
theorem lim_le {n : Nat} (h : n ≤ lim) : n ≤ sizeLine := Nat.le_trans h (by decide)
theorem lim_lt {n : Nat} (h : n < lim) : n < sizeLine := Nat.lt_of_lt_of_le h (by decide)

/-! ### numbers -/
theorem ok_add {K : PySem.W.Frag} : OpOk .add (R2of fun x y H Q => rI0 (fun i j => .int (i + j)) x y H Q ∨ (rCat x y H Q ∨ rCatK K x y H Q)) := by
  intro F H ds vs d Q hs dt e k
  have e : s_add ds = some d := e
  unfold s_add at e
  split at e
  · cases e
    obtain ⟨v, u, rfl, r1, r2⟩ := dt.two
    cases r1.intOf; cases r2.intOf
    exact .inl ⟨_, _, rfl, rfl, k _ _ (.int _)⟩
  · rename_i xs ys
    split at e
    · rename_i hl
      cases e
      obtain ⟨v, u, rfl, r1, r2⟩ := dt.two
      obtain ⟨a, vs, rfl, h1, q1⟩ := r1.lstOf hs
      obtain ⟨b, ws, rfl, h2, q2⟩ := r2.lstOf hs
      exact .inr (.inl ⟨a, b, vs, ws, rfl, rfl, h1, h2, by rw [← q1.len, ← q2.len]; exact lim_le hl, fun p hp => k _ _ (.lst rfl hp (q1.app q2))⟩)
    · cases e
  · rename_i xs ys
    split at e
    · rename_i hl
      cases e
      obtain ⟨v, u, rfl, r1, r2⟩ := dt.two
      obtain ⟨a, vs, rfl, h1, q1⟩ := r1.tupOf
      obtain ⟨b, ws, rfl, h2, q2⟩ := r2.tupOf
      refine .inr (.inr ⟨a, b, vs, ws, rfl, rfl, (h1.mono hs).sq, (h2.mono hs).sq, by rw [← q1.len, ← q2.len]; exact lim_le hl, fun z => ?_, fun _ z => ?_, fun _ _ p o hp wo => k _ _ (.tup hp wo (q1.app q2))⟩)
      · subst z
        cases q1
        exact k _ _ (.old (.tup h2 q2) fun _ _ h => by cases h)
      · subst z
        cases q2
        exact k _ _ (.old (by rw [List.append_nil]; exact .tup h1 q1) fun _ _ h => by cases h)
    · cases e
  · cases e
theorem ok_sub : OpOk .sub (R2of (rI0 fun i j => .int (i - j))) := by
  intro F H ds vs d Q hs dt e k
  have e : s_sub ds = some d := e
  unfold s_sub at e
  split at e
  · cases e
    obtain ⟨v, u, rfl, r1, r2⟩ := dt.two
    cases r1.intOf; cases r2.intOf
    exact ⟨_, _, rfl, rfl, k _ _ (.int _)⟩
  · cases e
/-- a product that fits -/
theorem op_mulX {X : Cx} : OpR X (binaryOp .Mult) (rI IntMulOk fun i j => .int (i * j)) := opI fun _ _ _ _ _ _ _ hc q => PyProof.Rows.mul_int q hc
theorem mul_fits2 {i j : Int} (h1 : i.natAbs.log2 < 60000000) (h2 : j.natAbs.log2 < 60000000) : IntMulOk i j := by
  have b : ∀ x : Int, Builtin.Int.intBits x ≤ x.natAbs.log2 + 1 := fun x => by
    unfold Builtin.Int.intBits
    split
    · exact Nat.zero_le _
    · exact Nat.le_refl _
  have c1 := b i
  have c2 := b j
  have e : bitsLine = 134217728 := by decide
  intro z
  have z2 := (Bool.and_eq_true _ _ ▸ z).2
  have z3 : Builtin.Int.intTooBig (Builtin.Int.intBits i + Builtin.Int.intBits j) = true := z2
  unfold Builtin.Int.intTooBig at z3
  have z4 := of_decide_eq_true z3
  omega
theorem bits_le (x : Int) : Builtin.Int.intBits x ≤ x.natAbs.log2 + 1 := by
  unfold Builtin.Int.intBits
  split
  · exact Nat.zero_le _
  · exact Nat.le_refl _
theorem sml_bits {i : Int} (h : smlOk i = true) : Builtin.Int.intBits i ≤ 64 := by
  have h : i.natAbs < 2 ^ 60 := of_decide_eq_true h
  have z := bits_le i
  by_cases e : i.natAbs = 0
  · rw [e] at z
    have : Nat.log2 0 = 0 := by decide
    omega
  · have := (Nat.log2_lt e).mpr h
    omega
theorem mulOk_fits {i j : Int} (h : mulOk i j = true) : IntMulOk i j := by
  unfold mulOk at h
  simp only [Bool.or_eq_true, Bool.and_eq_true] at h
  rcases h with (h | h) | ⟨h1, h2⟩
  · exact .of_left (sml_bits h)
  · exact .of_right (sml_bits h)
  · exact mul_fits2 (of_decide_eq_true h1) (of_decide_eq_true h2)
theorem ok_mul {K : PySem.W.Frag} : OpOk .mul (R2of fun x y H Q => rI IntMulOk (fun i j => .int (i * j)) x y H Q ∨ (rRep x y H Q ∨ rRepK K x y H Q)) := by
  intro F H ds vs d Q hs dt e k
  have e : s_mul ds = some d := e
  unfold s_mul at e
  split at e
  · split at e
    · rename_i i j _ hb
      cases e
      obtain ⟨v, u, rfl, r1, r2⟩ := dt.two
      cases r1.intOf; cases r2.intOf
      exact .inl ⟨_, _, rfl, rfl, mulOk_fits hb, k _ _ (.int _)⟩
    · cases e
  · split at e
    · rename_i xs n _ hl
      cases e
      obtain ⟨v, u, rfl, r1, r2⟩ := dt.two
      obtain ⟨a, vs, rfl, h1, q1⟩ := r1.lstOf hs
      cases r2.intOf
      obtain ⟨l1, l2, l3⟩ := hl
      have l2' : n ≤ 1000000 := l2
      exact .inr (.inl ⟨a, _, vs, rfl, rfl, h1, by omega, by omega, by rw [← q1.len]; exact lim_le l1, fun p hp => k _ _ (.lst rfl hp (q1.rep _))⟩)
    · cases e
  · split at e
    · rename_i xs n _ hl
      cases e
      obtain ⟨v, u, rfl, r1, r2⟩ := dt.two
      obtain ⟨a, vs, rfl, h1, q1⟩ := r1.tupOf
      cases r2.intOf
      obtain ⟨l1, l2, l3⟩ := hl
      refine .inr (.inr ⟨a, _, vs, rfl, rfl, (h1.mono hs).sq, l3, l2, by rw [← q1.len]; exact l1, fun z => ?_, fun _ _ p o hp wo => k _ _ (.tup hp wo (q1.rep _))⟩)
      refine k _ _ (.old ?_ fun _ _ h => by cases h)
      rcases z with z | z
      · subst z
        cases q1
        have e : (List.replicate n.toNat ([] : List PyData)).flatten = [] := by simp
        rw [e]
        exact .tup h1 .nil
      · subst z
        have e : (List.replicate (1 : Int).toNat xs).flatten = xs := by simp
        rw [e]
        exact .tup h1 q1
    · cases e
  · cases e
/-- floor division by anything but 0 -/
def CDivF (_ j : Int) : Prop := j ≠ 0 ∧ j.natAbs.log2 < 9000
theorem op_fdivF {X : Cx} : OpR X (binaryOp .FloorDiv) (rI CDivF fun i j => .int (i.fdiv j)) := opI fun _ _ _ _ _ _ _ hc q => PyProof.Rows.floordiv_int hc.1 q (.inl (PyProof.noPylong_of_log2 hc.2))
theorem ok_fdiv : OpOk .fdiv (R2of (rI CDivF fun i j => .int (i.fdiv j))) := by
  intro F H ds vs d Q hs dt e k
  have e : s_fdiv ds = some d := e
  unfold s_fdiv at e
  split at e
  · split at e
    · rename_i hc
      cases e
      obtain ⟨v, u, rfl, r1, r2⟩ := dt.two
      cases r1.intOf; cases r2.intOf
      exact ⟨_, _, rfl, rfl, hc, k _ _ (.int _)⟩
    · cases e
  · cases e
theorem ok_mod : OpOk .mod (R2of (rI (fun _ j => j ≠ 0) fun i j => .int (i.fmod j))) := by
  intro F H ds vs d Q hs dt e k
  have e : s_mod ds = some d := e
  unfold s_mod at e
  split at e
  · split at e
    · rename_i hc
      cases e
      obtain ⟨v, u, rfl, r1, r2⟩ := dt.two
      cases r1.intOf; cases r2.intOf
      exact ⟨_, _, rfl, rfl, hc, k _ _ (.int _)⟩
    · cases e
  · cases e
theorem ok_pow : OpOk .pow (R2of (rI CPow fun i j => .int (i ^ j.toNat))) := by
  intro F H ds vs d Q hs dt e k
  have e : s_pow ds = some d := e
  unfold s_pow at e
  split at e
  · split at e
    · rename_i hc
      cases e
      obtain ⟨v, u, rfl, r1, r2⟩ := dt.two
      cases r1.intOf; cases r2.intOf
      exact ⟨_, _, rfl, rfl, ⟨hc.1, by omega, hc.2.2⟩, k _ _ (.int _)⟩
    · cases e
  · cases e
theorem ok_neg : OpOk .neg (R1of (rU fun i => .int (-i))) := by
  intro F H ds vs d Q hs dt e k
  have e : s_neg ds = some d := e
  unfold s_neg at e
  split at e
  · cases e
    obtain ⟨v, rfl, r1⟩ := dt.oneV
    cases r1.intOf
    exact ⟨_, rfl, k _ _ (.int _)⟩
  · cases e
theorem ok_cmp {o : Op} {g : Int → Int → Bool} {f : List PyData → Option PyData} (ho : opSem o = f) (hf : ∀ ds d, f ds = some d → ∃ i j, ds = [.int i, .int j] ∧ d = .bool (g i j)) : OpOk o (R2of (rI0 fun i j => .bl (g i j))) := by
  intro F H ds vs d Q hs dt e k
  rw [ho] at e
  obtain ⟨i, j, rfl, rfl⟩ := hf ds d e
  obtain ⟨v, u, rfl, r1, r2⟩ := dt.two
  cases r1.intOf; cases r2.intOf
  exact ⟨_, _, rfl, rfl, k _ _ (.bl _)⟩
theorem ok_lt : OpOk .lt (R2of (rI0 fun i j => .bl (decide (i < j)))) := ok_cmp (f := s_lt) rfl fun ds d e => by
  unfold s_lt at e
  split at e
  · cases e; exact ⟨_, _, rfl, rfl⟩
  · cases e
theorem ok_le : OpOk .le (R2of (rI0 fun i j => .bl (decide (i ≤ j)))) := ok_cmp (f := s_le) rfl fun ds d e => by
  unfold s_le at e
  split at e
  · cases e; exact ⟨_, _, rfl, rfl⟩
  · cases e
theorem ok_gt : OpOk .gt (R2of (rI0 fun i j => .bl (decide (j < i)))) := ok_cmp (g := fun i j => decide (j < i)) (f := s_gt) rfl fun ds d e => by
  unfold s_gt at e
  split at e
  · cases e; exact ⟨_, _, rfl, rfl⟩
  · cases e
theorem ok_ge : OpOk .ge (R2of (rI0 fun i j => .bl (decide (j ≤ i)))) := ok_cmp (g := fun i j => decide (j ≤ i)) (f := s_ge) rfl fun ds d e => by
  unfold s_ge at e
  split at e
  · cases e; exact ⟨_, _, rfl, rfl⟩
  · cases e

/-! ### equality, membership -/
theorem eqD_cases {a b : PyData} {c : Bool} (h : eqD a b = some c) : (∃ x y, a = .str x ∧ b = .str y ∧ c = decide (x = y)) ∨ (SeqAt.shaped a = true ∧ SeqAt.shaped b = true ∧ c = PyData.eqv a b) := by
  unfold eqD at h
  split at h
  · cases h; exact .inl ⟨_, _, rfl, rfl, rfl⟩
  · split at h
    · rename_i hc
      rw [Bool.and_eq_true] at hc
      cases h
      exact .inr ⟨hc.1, hc.2, rfl⟩
    · cases h
theorem dec_strV (x y : Str) : decide (V.str x = V.str y) = decide (x = y) := by
  by_cases h : x = y
  · subst h; simp
  · rw [decide_eq_false h]
    exact decide_eq_false fun z => h (V.str.inj z)
theorem ok_eq {K : PySem.W.Frag} : OpOk .eq (R2of fun x y H Q => rEq x y H Q ∨ rEqD K x y H Q) := by
  intro F H ds vs d Q hs dt e k
  have e : s_eq ds = some d := e
  unfold s_eq at e
  split at e
  · obtain ⟨c, e1, e2⟩ := mapSome e
    cases e2
    obtain ⟨v, u, rfl, r1, r2⟩ := dt.two
    rcases eqD_cases e1 with ⟨x, y, rfl, rfl, rfl⟩ | ⟨s1, s2, rfl⟩
    · cases r1.strOf; cases r2.strOf
      exact .inl ⟨rfl, by rw [dec_strV]; exact k _ _ (.bl _)⟩
    · exact .inr ⟨_, _, r1.dp hs, r2.dp hs, s1, s2, k _ _ (.bl _)⟩
  · cases e
theorem ok_ne {K : PySem.W.Frag} : OpOk .ne (R2of fun x y H Q => rNe x y H Q ∨ rNeD K x y H Q) := by
  intro F H ds vs d Q hs dt e k
  have e : s_ne ds = some d := e
  unfold s_ne at e
  split at e
  · obtain ⟨c, e1, e2⟩ := mapSome e
    cases e2
    obtain ⟨v, u, rfl, r1, r2⟩ := dt.two
    rcases eqD_cases e1 with ⟨x, y, rfl, rfl, rfl⟩ | ⟨s1, s2, rfl⟩
    · cases r1.strOf; cases r2.strOf
      exact .inl ⟨rfl, by rw [dec_strV]; exact k _ _ (.bl _)⟩
    · exact .inr ⟨_, _, r1.dp hs, r2.dp hs, s1, s2, k _ _ (.bl _)⟩
  · cases e
def rInT (K : PySem.W.Frag) (neg : Bool) : R2 := fun x y H Q => ∃ d ds, Dp K H x d ∧ Dp K H y (.tuple ds) ∧ SeqAt.shaped d = true ∧ SeqAt.shaped (.tuple ds) = true ∧ Q (.bl (if neg then !(ds.any fun z => PyData.eqv z d) else ds.any fun z => PyData.eqv z d)) H
theorem op_inT {X : Cx} (hu : X.A.units + 65 < cLine) : OpR X (compareOp .In) (rInT X.K false) := by
  intro pins s σ H x y v u Q I rx ry ⟨d, ds, hd, he, sd, se, q⟩
  obtain ⟨as, r1⟩ := Dp.reads I d x v hd rx
  obtain ⟨bs, r2⟩ := Dp.reads I (.tuple ds) y u he ry
  exact SeqAt.in_tuple_reads r2 r1 (SeqAt.canLay_of_shaped se) (SeqAt.canLay_of_shaped sd) (room_in_shaped sd hu)
    ⟨.bl _, H, I, rfl, q⟩
theorem op_ninT {X : Cx} (hu : X.A.units + 65 < cLine) : OpR X (compareOp .NotIn) (rInT X.K true) := by
  intro pins s σ H x y v u Q I rx ry ⟨d, ds, hd, he, sd, se, q⟩
  obtain ⟨as, r1⟩ := Dp.reads I d x v hd rx
  obtain ⟨bs, r2⟩ := Dp.reads I (.tuple ds) y u he ry
  exact SeqAt.notIn_tuple_reads r2 r1 (SeqAt.canLay_of_shaped se) (SeqAt.canLay_of_shaped sd) (room_in_shaped sd hu)
    ⟨.bl _, H, I, rfl, q⟩
theorem ok_inn {K : PySem.W.Frag} : OpOk .inn (R2of fun x y H Q => rInD K x y H Q ∨ rInT K false x y H Q) := by
  intro F H ds vs d Q hs dt e k
  have e : s_inn ds = some d := e
  unfold s_inn at e
  split at e
  · split at e
    · rename_i hc
      rw [Bool.and_eq_true] at hc
      cases e
      obtain ⟨v, u, rfl, r1, r2⟩ := dt.two
      exact .inl ⟨_, _, r1.dp hs, r2.dp hs, hc.1, hc.2, k _ _ (.bl _)⟩
    · cases e
  · split at e
    · rename_i hc
      rw [Bool.and_eq_true] at hc
      cases e
      obtain ⟨v, u, rfl, r1, r2⟩ := dt.two
      exact .inr ⟨_, _, r1.dp hs, r2.dp hs, hc.1, hc.2, k _ _ (.bl _)⟩
    · cases e
  · cases e
theorem ok_nin {K : PySem.W.Frag} : OpOk .nin (R2of fun x y H Q => rNotInD K x y H Q ∨ rInT K true x y H Q) := by
  intro F H ds vs d Q hs dt e k
  have e : s_nin ds = some d := e
  unfold s_nin at e
  split at e
  · split at e
    · rename_i hc
      rw [Bool.and_eq_true] at hc
      cases e
      obtain ⟨v, u, rfl, r1, r2⟩ := dt.two
      exact .inl ⟨_, _, r1.dp hs, r2.dp hs, hc.1, hc.2, k _ _ (.bl _)⟩
    · cases e
  · split at e
    · rename_i hc
      rw [Bool.and_eq_true] at hc
      cases e
      obtain ⟨v, u, rfl, r1, r2⟩ := dt.two
      exact .inr ⟨_, _, r1.dp hs, r2.dp hs, hc.1, hc.2, k _ _ (.bl _)⟩
    · cases e
  · cases e
theorem ok_isN : OpOk .isN (R1of fun x H Q => Q (.bl (decide (x = .non))) H) := by
  intro F H ds vs d Q hs dt e k
  have e : s_isN ds = some d := e
  unfold s_isN at e
  split at e
  · cases e
    obtain ⟨v, rfl, r1⟩ := dt.oneV
    show Q (.bl (decide (v = .non))) H
    cases r1 with
    | fz r1 => cases r1 <;> exact k _ _ (.bl _)
    | ls _ _ => exact k _ _ (.bl _)
  · cases e
theorem ok_notN : OpOk .notN (R1of fun x H Q => Q (.bl (!decide (x = .non))) H) := by
  intro F H ds vs d Q hs dt e k
  have e : s_notN ds = some d := e
  unfold s_notN at e
  split at e
  · cases e
    obtain ⟨v, rfl, r1⟩ := dt.oneV
    show Q (.bl (!decide (v = .non))) H
    cases r1 with
    | fz r1 => cases r1 <;> exact k _ _ (.bl _)
    | ls _ _ => exact k _ _ (.bl _)
  · cases e
theorem ok_isB : OpOk .isB (R2of rIsB) := by
  intro F H ds vs d Q hs dt e k
  have e : s_isB ds = some d := e
  unfold s_isB at e
  split at e
  · cases e
    obtain ⟨v, u, rfl, r1, r2⟩ := dt.two
    cases r1.blOf; cases r2.blOf
    exact ⟨_, _, rfl, rfl, k _ _ (.bl _)⟩
  · cases e
theorem ok_notB : OpOk .notB (R2of rNotB) := by
  intro F H ds vs d Q hs dt e k
  have e : s_notB ds = some d := e
  unfold s_notB at e
  split at e
  · cases e
    obtain ⟨v, u, rfl, r1, r2⟩ := dt.two
    cases r1.blOf; cases r2.blOf
    exact ⟨_, _, rfl, rfl, k _ _ (.bl _)⟩
  · cases e

/-! ### items, slices -/
theorem at_dt {F : Hp} {ds : List PyData} {vs : List V} {i : Int} {d : PyData} (h : DtAll F ds vs) (e : atI ds i = some d) : ∃ v, atI vs i = some v ∧ Dt F d v := by
  unfold atI at e ⊢
  rw [h.len] at e
  obtain ⟨j, e1, e2⟩ := bindSome e
  obtain ⟨v, h1, h2⟩ := h.at_ e2
  exact ⟨v, by rw [e1]; exact h1, h2⟩
theorem ok_ix {K : PySem.W.Frag} : OpOk .ix (R2of fun x y H Q => rIxL K x y H Q ∨ rIxT K x y H Q) := by
  intro F H ds vs d Q hs dt e k
  have e : s_ix ds = some d := e
  unfold s_ix at e
  split at e
  · obtain ⟨v, u, rfl, r1, r2⟩ := dt.two
    obtain ⟨a, vs, rfl, h1, q1⟩ := r1.lstOf hs
    cases r2.intOf
    obtain ⟨w, a1, a2⟩ := at_dt q1 e
    exact .inl ⟨a, vs, _, w, rfl, rfl, SqL.of h1, a1, k _ _ (.old a2 fun z => by cases z)⟩
  · obtain ⟨v, u, rfl, r1, r2⟩ := dt.two
    obtain ⟨a, vs, rfl, h1, q1⟩ := r1.tupOf
    cases r2.intOf
    obtain ⟨w, a1, a2⟩ := at_dt q1 e
    exact .inr ⟨a, vs, _, w, rfl, rfl, (h1.mono hs).sq, a1, k _ _ (.old a2 fun z => by cases z)⟩
  · cases e
def rSlAny (K : PySem.W.Frag) : V → Option Int → Option Int → Hp → VK → Prop := fun x lo hi H Q => rSlL K x lo hi H Q ∨ rSlK K x lo hi H Q
theorem sl_any {X : Cx} : SlR X (rSlAny X.K) := SlR.or sl_list sl_tupK
theorem cut_all {α : Type} {xs : List α} {lo hi : Option Int} (h : HT.sIx xs.length 0 lo = 0 ∧ HT.sIx xs.length xs.length hi = xs.length) : cutL xs lo hi = xs := by
  unfold cutL
  rw [h.1, h.2, List.drop_zero, Nat.sub_zero, List.take_length]
theorem sl_dt {K : PySem.W.Frag} {a b : Bool} {F H : Hp} {x : PyData} {v : V} {lo hi : Option Int} {d : PyData} {Q : VK} (hs : Sub F H) (r : Opd F H x v) (e : slOf x lo hi = some d) (k : ∀ v H', Made (Op.sl a b).fresh F H d v H' → Q v H') : rSlAny K v lo hi H Q := by
  unfold slOf at e
  split at e
  · cases e
    obtain ⟨a, vs, rfl, h1, q1⟩ := r.lstOf hs
    exact .inl ⟨a, vs, rfl, SqL.of h1, fun p hp => k _ _ (.lst rfl hp (q1.cut lo hi))⟩
  · cases e
    obtain ⟨a, vs, rfl, h1, q1⟩ := r.tupOf
    refine .inr ⟨a, vs, rfl, (h1.mono hs).sq, fun z => ?_, fun _ p o hp wo => k _ _ (.tup hp wo (q1.cut lo hi))⟩
    refine k _ _ (.old ?_ fun _ _ h => by cases h)
    rw [← q1.len] at z
    rw [cut_all z]
    exact .tup h1 q1
  · cases e

/-! ### built-ins -/
theorem ok_len {K : PySem.W.Frag} : OpOk .len (fun xs H Q => ∃ p ys, xs = [.ref p] ∧ (SqL K H p ys ∨ SqT K H p ys) ∧ Q (.int ys.length) H) := by
  intro F H ds vs d Q hs dt e k
  have e : s_len ds = some d := e
  unfold s_len at e
  split at e
  · cases e
    obtain ⟨v, rfl, r1⟩ := dt.oneV
    obtain ⟨a, vs, rfl, h1, q1⟩ := r1.lstOf hs
    exact ⟨a, vs, rfl, .inl (SqL.of h1), by rw [← q1.len]; exact k _ _ (.int _)⟩
  · cases e
    obtain ⟨v, rfl, r1⟩ := dt.oneV
    obtain ⟨a, vs, rfl, h1, q1⟩ := r1.tupOf
    exact ⟨a, vs, rfl, .inr ((h1.mono hs).sq), by rw [← q1.len]; exact k _ _ (.int _)⟩
  · cases e
theorem ok_int : OpOk .int (fun xs H Q => (∃ i, xs = [.int i] ∧ Q (.int i) H) ∨ ∃ k, xs = [.bl k] ∧ Q (.int (if k then 1 else 0)) H) := by
  intro F H ds vs d Q hs dt e k
  have e : s_int ds = some d := e
  unfold s_int at e
  split at e
  · cases e
    obtain ⟨v, rfl, r1⟩ := dt.oneV
    cases r1.intOf
    exact .inl ⟨_, rfl, k _ _ (.int _)⟩
  · cases e
    obtain ⟨v, rfl, r1⟩ := dt.oneV
    cases r1.blOf
    exact .inr ⟨_, rfl, k _ _ (.int _)⟩
  · cases e
theorem ok_abs : OpOk .abs (fun xs H Q => ∃ i, xs = [.int i] ∧ Q (.int (if i < 0 then -i else i)) H) := by
  intro F H ds vs d Q hs dt e k
  have e : s_abs ds = some d := e
  unfold s_abs at e
  split at e
  · cases e
    obtain ⟨v, rfl, r1⟩ := dt.oneV
    cases r1.intOf
    exact ⟨_, rfl, k _ _ (.int _)⟩
  · cases e
theorem ok_toTup {K : PySem.W.Frag} : OpOk .toTup (fun xs H Q => ∃ p ys, xs = [.ref p] ∧ ((SqL K H p ys ∧ ∀ l o, H l = none → TupO o → Q (.ref l) (upd H l (.frz o (.tup ys)))) ∨ (SqT K H p ys ∧ Q (.ref p) H))) := by
  intro F H ds vs d Q hs dt e k
  have e : s_toTup ds = some d := e
  unfold s_toTup at e
  split at e
  · cases e
    obtain ⟨v, rfl, r1⟩ := dt.oneV
    obtain ⟨a, vs, rfl, h1, q1⟩ := r1.lstOf hs
    exact ⟨a, vs, rfl, .inl ⟨SqL.of h1, fun p o hp wo => k _ _ (.tup hp wo q1)⟩⟩
  · cases e
    obtain ⟨v, rfl, r1⟩ := dt.oneV
    obtain ⟨a, vs, rfl, h1, q1⟩ := r1.tupOf
    exact ⟨a, vs, rfl, .inr ⟨(h1.mono hs).sq, k _ _ (.old (.tup h1 q1) fun _ _ h => by cases h)⟩⟩
  · cases e
theorem ok_toLst {K : PySem.W.Frag} : OpOk .toLst (fun xs H Q => ∃ p ys, xs = [.ref p] ∧ (SqL K H p ys ∨ SqT K H p ys) ∧ ∀ l, H l = none → Q (.ref l) (upd H l (.lst ys))) := by
  intro F H ds vs d Q hs dt e k
  have e : s_toLst ds = some d := e
  unfold s_toLst at e
  split at e
  · cases e
    obtain ⟨v, rfl, r1⟩ := dt.oneV
    obtain ⟨a, vs, rfl, h1, q1⟩ := r1.lstOf hs
    exact ⟨a, vs, rfl, .inl (SqL.of h1), fun p hp => k _ _ (.lst rfl hp q1)⟩
  · cases e
    obtain ⟨v, rfl, r1⟩ := dt.oneV
    obtain ⟨a, vs, rfl, h1, q1⟩ := r1.tupOf
    exact ⟨a, vs, rfl, .inr ((h1.mono hs).sq), fun p hp => k _ _ (.lst rfl hp q1)⟩
  · cases e
theorem ok_sum {K : PySem.W.Frag} : OpOk .sum (rSum K) := by
  intro F H ds vs d Q hs dt e k
  have e : s_sum ds = some d := e
  unfold s_sum at e
  split at e
  · obtain ⟨is, e1, e2⟩ := mapSome e
    cases e2
    obtain ⟨v, rfl, r1⟩ := dt.oneV
    obtain ⟨a, vs, rfl, h1, q1⟩ := r1.lstOf hs
    obtain ⟨_, q2⟩ := q1.inv e1
    subst q2
    exact ⟨a, is, rfl, SqL.of h1, k _ _ (.int _)⟩
  · cases e
theorem ok_all {K : PySem.W.Frag} : OpOk .all (rAll K) := by
  intro F H ds vs d Q hs dt e k
  have e : s_all ds = some d := e
  unfold s_all at e
  split at e
  · obtain ⟨is, e1, e2⟩ := mapSome e
    cases e2
    obtain ⟨v, rfl, r1⟩ := dt.oneV
    obtain ⟨a, vs, rfl, h1, q1⟩ := r1.lstOf hs
    have q2 := q1.invB e1
    subst q2
    exact ⟨a, is, rfl, SqL.of h1, k _ _ (.bl _)⟩
  · cases e
theorem ok_min2 : OpOk .min2 (fun xs H Q => ∃ i j, xs = [.int i, .int j] ∧ Q (.int (if j < i then j else i)) H) := by
  intro F H ds vs d Q hs dt e k
  have e : s_min2 ds = some d := e
  unfold s_min2 at e
  split at e
  · cases e
    obtain ⟨v, u, rfl, r1, r2⟩ := dt.two
    cases r1.intOf; cases r2.intOf
    exact ⟨_, _, rfl, k _ _ (.int _)⟩
  · cases e
theorem ok_max2 : OpOk .max2 (fun xs H Q => ∃ i j, xs = [.int i, .int j] ∧ Q (.int (if j > i then j else i)) H) := by
  intro F H ds vs d Q hs dt e k
  have e : s_max2 ds = some d := e
  unfold s_max2 at e
  split at e
  · cases e
    obtain ⟨v, u, rfl, r1, r2⟩ := dt.two
    cases r1.intOf; cases r2.intOf
    exact ⟨_, _, rfl, k _ _ (.int _)⟩
  · cases e
theorem ok_gcd : OpOk .gcd rGcd := by
  intro F H ds vs d Q hs dt e k
  have e : s_gcd ds = some d := e
  unfold s_gcd at e
  split at e
  · cases e
    obtain ⟨v, u, rfl, r1, r2⟩ := dt.two
    cases r1.intOf; cases r2.intOf
    exact ⟨_, _, rfl, k _ _ (.int _)⟩
  · cases e
/-! ### repr -/
def rReprD (K : PySem.W.Frag) : List V → Hp → VK → Prop := fun xs H Q => ∃ x d, xs = [x] ∧ Dp K H x d ∧ showOk d = true ∧ Q (.str (PyData.shown d)) H
theorem ok_repr {K : PySem.W.Frag} : OpOk .repr (rReprD K) := by
  intro F H ds vs d Q hs dt e k
  have e : s_repr ds = some d := e
  unfold s_repr at e
  split at e
  · split at e
    · rename_i hc
      cases e
      obtain ⟨v, rfl, r1⟩ := dt.oneV
      exact ⟨_, _, rfl, r1.dp hs, hc, k _ _ (.str _)⟩
    · cases e
  · cases e
theorem ofS_len (t : String) : (Str.ofString t).length = t.toList.length := by
  rw [Str.ofString_eq_toList]
  show (t.toList.map Char.toNat).toArray.size = _
  simp
theorem nat_len (n : Nat) : (toString n : String).toList.length ≤ n.log2 + 1 := by
  have h : n.repr.length ≤ n.log2 + 1 := (Nat.length_repr_le_iff (Nat.succ_pos _)).mpr (Nat.lt_of_lt_of_le Nat.lt_log2_self (Nat.pow_le_pow_left (by decide) _))
  show n.repr.toList.length ≤ _
  rw [String.length_toList]
  exact h
theorem int_len (i : Int) : (Str.ofString (toString i)).length ≤ i.natAbs.log2 + 3 := by
  rw [ofS_len]
  cases i with
  | ofNat n =>
    have h := nat_len n
    show (toString n : String).toList.length ≤ n.log2 + 3
    omega
  | negSucc n =>
    have h := nat_len (n + 1)
    show ("-" ++ (toString (n + 1) : String)).toList.length ≤ (n + 1).log2 + 3
    rw [String.toList_append, List.length_append]
    have : "-".toList.length = 1 := by decide
    omega
theorem textFrom_le : ∀ (ts : List Str) (k : Nat) (acc : Str), (textFrom k acc ts).length ≤ acc.length + piled ts
  | [], k, acc => Nat.le_add_right _ _
  | t :: r, k, acc => by
    have h := textFrom_le r (k + 1) (acc ++ (if k > 0 then ", " else "" : String) ++ t)
    have e : (acc ++ (if k > 0 then ", " else "" : String) ++ t).length ≤ acc.length + 2 + t.length := by
      rw [strLen_append, strLen_append]
      have : (Str.ofString (if k > 0 then ", " else "" : String)).length ≤ 2 := by split <;> decide
      omega
    rw [piled_cons]
    show (textFrom (k + 1) _ r).length ≤ _
    omega
theorem list_len (ts : List Str) : (listText ts).length ≤ piled ts + 2 := by
  unfold listText
  rw [strLen_append]
  have h := textFrom_le ts 0 ("[" : Str)
  have e1 : ("[" : Str).length = 1 := by decide
  have e2 : ("]" : Str).length = 1 := by decide
  omega
theorem tup_len (ts : List Str) : (tupleText ts).length ≤ piled ts + 3 := by
  unfold tupleText
  rw [strLen_append, strLen_append]
  have e1 : ("(" : Str).length = 1 := by decide
  have e2 : (Str.ofString (if ts.length == 1 then ",)" else ")" : String)).length ≤ 2 := by split <;> decide
  cases ts with
  | nil =>
    have : (Str.join ", " []).length = 0 := by decide
    have : piled [] = 0 := rfl
    omega
  | cons t r =>
    have := join_length_add (t :: r) (by simp)
    omega
mutual
theorem shown_len : ∀ (d : PyData), d.hasDict = false → (PyData.shown d).length ≤ signs d
  | .none, _ => by unfold PyData.shown signs; decide
  | .bool b, _ => by cases b <;> (unfold PyData.shown signs; decide)
  | .int i, _ => by unfold PyData.shown signs; exact int_len i
  | .str x, _ => by unfold PyData.shown signs; exact Nat.le_refl _
  | .list xs, h => by
    unfold PyData.hasDict at h
    have z := shownAll_len xs h
    have := list_len (PyData.shownAll xs)
    unfold PyData.shown signs
    omega
  | .tuple xs, h => by
    unfold PyData.hasDict at h
    have z := shownAll_len xs h
    have := tup_len (PyData.shownAll xs)
    unfold PyData.shown signs
    omega
  | .dict _, h => by unfold PyData.hasDict at h; cases h
theorem shownAll_len : ∀ (xs : List PyData), PyData.hasDictAll xs = false → piled (PyData.shownAll xs) ≤ signs.signsAll xs
  | [], _ => by unfold PyData.shownAll signs.signsAll; exact Nat.le_refl _
  | x :: xs, h => by
    unfold PyData.hasDictAll at h
    rw [Bool.or_eq_false_iff] at h
    have z := shownAll_len xs h.2
    have y := shown_len x h.1
    unfold PyData.shownAll signs.signsAll
    rw [piled_cons]
    omega
end
theorem call_reprD {X : Cx} (hg : X.A.guards = some []) (hu : X.A.units + 66 < cLine) : CallR X (.builtin "repr") (rReprD X.K) := by
  intro pins s σ H xs us Q I r h
  obtain ⟨x, d, rfl, hd, ok, q⟩ := h
  obtain ⟨u, rfl, ru⟩ := vals1 r
  unfold showOk at ok
  simp only [Bool.and_eq_true, decide_eq_true_eq, Bool.not_eq_true'] at ok
  obtain ⟨⟨⟨k1, k2⟩, k3⟩, k4⟩ := ok
  obtain ⟨as, rd⟩ := Dp.reads I d x u hd ru
  have hz : d.shown.length ≤ sizeLine := Nat.le_trans (shown_len d k4) (lim_le k2)
  cases rd with
  | none => exact PySem.P.repr_of_none ⟨.str _, H, I.tok _, ⟨_, rfl⟩, by simpa only [PyData.shown] using q⟩
  | bool b => exact PySem.P.repr_of_bool ⟨.str _, H, I.tok _, ⟨_, rfl⟩, by simpa only [PyData.shown] using q⟩
  | int i t => exact PySem.P.repr_of_int (by simpa [PyData.showable] using k1) ⟨.str _, H, I.tok _, ⟨_, rfl⟩, by simpa only [PyData.shown] using q⟩
  | str y t => exact PySem.P.repr_of_str ⟨.str _, H, I.tok _, ⟨_, rfl⟩, by simpa only [PyData.shown] using q⟩ (by simpa only [PyData.shown] using hz)
  | list h1 h2 h3 h4 =>
    exact repr_of_reads' (.list h1 h2 h3 h4) k1 (PyData.noDict_hsm k4) hg (by omega) (fun _ _ e => e)
      (fun h' u tk hk => ⟨.str _, H, I.kept (t' := tk) hk, ⟨_, rfl⟩, q⟩) hz
  | tuple h1 h2 h3 h4 =>
    exact repr_of_reads' (.tuple h1 h2 h3 h4) k1 (PyData.noDict_hsm k4) hg (by omega) (fun _ _ e => e)
      (fun h' u tk hk => ⟨.str _, H, I.kept (t' := tk) hk, ⟨_, rfl⟩, q⟩) hz
  | dict h1 h2 h3 h4 h5 => cases hd
end Rx
/-! Rx, part 4: what a def is worth where no repr is under way; its body; its call. -/
namespace Rx
open PySem PySem.Spec L2 PyProof.Rows

/-- a def's promise where no repr is under way and nothing is raised -/
structure FnG (P : Program) (w : World) (K : PySem.W.Frag) (mg : Str → Option Value) (base : Heap) (k : Nat) (f : Addr) (fd : FuncData) (ps : List Str) (sp : Sp) : Prop where
  len : ∀ vs H Q, sp vs H Q E0 → vs.length = ps.length
  run : ∀ (A : Around) (outer : List Env) (s : Shared) (H : Hp) (args : Args) (us : List Value) (vs : List V) (Q : VK), A.guards = some [] → Room k A →
    Env0 P w K mg base A outer s H → BindsTo s fd args (ps.zip us) → Vals vs us → sp vs H Q E0 → codeAny (model P w) A (.call (.ref f) args) (CR CX0 outer P w H s Q E0) s

section
variable {P : Program} {w : World} {K : PySem.W.Frag} {mg : Str → Option Value} {base : Heap} {k : Nat} {f : Addr}
/-- by the body -/
theorem fnG_of {x qual : Str} {params : Arguments} {body : List Stmt} {scope : Scope} {dvs : List V} {kws : List (Str × V)} {fd : FuncData} {N ps : List Str} {sp : Sp}
    (D : FunD K x qual params body scope dvs kws f fd) (S : FnScope N ps scope) (hl : ∀ vs H Q, sp vs H Q E0 → vs.length = ps.length)
    (hb : ∀ (cd : Value) (A : Around) (outer : List Env) (s : Shared) (H : Hp) (vs : List V) (Q : VK), A.guards = some [] → Room k (A.deeper (envOfC qual scope s.heap.objs.size f cd)) →
      sp vs H Q E0 → ∃ t, PSs (cxOf CX0 P w K mg base N qual scope f cd A outer s H E0) body t ∧ t { nx := fun _ H' => Q .non H', rt := Q } (start N vs) H) :
    FnG P w K mg base (k + 1) f fd ps sp := by
  obtain ⟨oc, od, dV, kV, doc, pm, an, cd, ct, osl, hfd, lk, hc, _⟩ := D.ex
  subst hfd
  constructor
  · exact hl
  intro A outer s H args us vs Q hg hr e0 hbd r hsp
  have hlen := hl vs H Q hsp
  have stays : ∀ b o, base.get? b = some o → s.heap.get? b = some o := fun b o e => (e0.bs b o e).1
  have hK : K.In s.heap := e0.mod.kin.keeps stays
  have hno : s.heap.NoLimit := e0.mod.nolimit.keeps stays
  have hks : ∀ y ∈ ps.zip us, scope.names.lookup y.1 = some .local ∨
      (scope.names.lookup y.1 = some .cell ∧ ((cellsFrom (s.heap.objs.size + 1) scope.names []).lookup y.1).isSome = true) := by
    rintro ⟨n, v⟩ hy
    have hn := (List.of_mem_zip hy).1
    exact (S.par n hn).imp id fun q => ⟨q, PySem.W.cellsFrom_some _ _ _ (.inl q)⟩
  apply codeAny_call_function (hr.depth)
    (hK _ _ lk) (rfl) (S.co) (S.gen) (rfl)
    (PySem.W.codeRec_of hK hc)
  apply hbd
  apply wpAny_newFunctionEnv_cells S.kind hks
  intro env he s1 x
  subst he
  refine ⟨hno.keeps x.toInCall.keep, ?_⟩
  apply codeAny_func
  obtain ⟨t, ht, hq⟩ := hb cd A outer s H vs Q hg (hr.deeper _) hsp
  have J : Inv (cxOf CX0 P w K mg base N qual scope f cd A outer s H E0) [] (start N vs) H s1 :=
    inv_start S hr.hd e0 hlen r x
  have out : ∀ (σ' : L2.St) (H' : Hp) (v : V) (u : Value) (s' : Shared),
      Inv (cxOf CX0 P w K mg base N qual scope f cd A outer s H E0) [] σ' H' s' → RelV v u → Q v H' → CE outer P w H s Q u s' := by
    intro σ' H' v u s' Z rv q
    exact ⟨v, H', Z.os, Z.bare, Z.base, Z.hok, rv, q⟩
  refine wpAny_mono (ht.run [] s1 (start N vs) H _ J hq) ?_ (fun e s' z => z)
  intro fl s' z
  cases fl with
  | ret u =>
    obtain ⟨v, σ', H', Z, rv, q⟩ := z
    exact out σ' H' v u s' Z rv q
  | next =>
    obtain ⟨σ', H', Z, q⟩ := z
    exact out σ' H' .non .none s' Z rfl q
  | brk => exact z.elim fun _ z => z.elim fun _ z => z.2.elim
  | cont => exact z.elim fun _ z => z.elim fun _ z => z.2.elim
/-- a weaker promise, more room -/
theorem FnG.mono {j : Nat} {fd : FuncData} {ps : List Str} {sp : Sp} (F : FnG P w K mg base j f fd ps sp) (h : j ≤ k) : FnG P w K mg base k f fd ps sp :=
  ⟨F.len, fun A outer s H args us vs Q hg hr => F.run A outer s H args us vs Q hg (hr.mono h)⟩
end

section
variable {X : Cx} {k : Nat} {f : Addr} {fd : FuncData} {ps : List Str} {sp : Sp} {x : Str} {p pos : Pos} {e : Expr} {es : List Expr} {t : TA}
theorem runG {pins : List (Addr × Obj)} {σ : L2.St} {H : Hp} {s : Shared} {Q : VK} {us : List Value} {vs : List V} (F : FnG X.prog X.w X.K X.mg X.base k f fd ps sp) (hg : X.A.guards = some []) (hr : Room k X.A) (hb : Binds X.K fd ps [])
    (I : Inv X pins σ H s) (r : Vals vs us) (h : sp vs H Q E0) : wpAny (model X.prog X.w) X.A (call (.ref f) us) (EP X pins σ Q) X.xe s := by
  have hl : (us ++ []).length = ps.length := by
    rw [List.append_nil, ← r.length]
    exact F.len _ _ _ h
  have hbd : BindsTo s fd ⟨us, []⟩ (ps.zip us) := by
    have z := hb s us I.kIn hl
    rw [List.append_nil] at z
    exact z
  apply wpAny_call
  refine codeAny_mono (F.run X.A X.stack s H ⟨us, []⟩ us vs Q hg hr I.env0 hbd r h) ?_
  intro c s' z
  cases c with
  | error e => exact z.elim
  | ok fl =>
    cases fl with
    | ret u => exact I.after z
    | next => exact z.elim
    | brk => exact z.elim
    | cont => exact z.elim
theorem pe_callG (F : FnG X.prog X.w X.K X.mg X.base k f fd ps sp) (hgu : X.A.guards = some []) (hr : Room k X.A) (hg : Gl X x) (hm : X.mg x = some (.ref f)) (hk : PySem.W.keepIn X.K (.ref f) = true) (hb : Binds X.K fd ps [])
    (ha : PA X (e :: es) t) (hdb : (x == ("__debug__" : Str)) = false) (he : starEach (e :: es) X.env = (false, eval e X.env) :: starEach es X.env) (hpl : (backTo pos (starEach es X.env)).any (·.1) = false) :
    PE X (.Call (.Name x p) (e :: es) [] pos) (tCall sp [] E0 t) := by
  constructor
  intro pins s σ H Q I h
  have go : ∀ (us : List Value) (s1 : Shared), AP X pins σ (fun vs H1 => sp (vs ++ []) H1 Q E0) us s1 → X.K.In s1.heap ∧ wpAny (model X.prog X.w) X.A (call (.ref f) us) (EP X pins σ Q) X.xe s1 := by
    rintro us s1 ⟨vs, H1, J, r, q⟩
    rw [List.append_nil] at q
    exact ⟨J.kIn, runG F hgu hr hb J r q⟩
  apply wpAny_Call_Name_kw
  apply ld_glob I hg hm _ hdb
  exact PySem.W.callWith_K (h₀ := X.base) I.ok.mod.kin hk (thn (ha.run pos pins s σ H _ I h) go) he hpl
end

/-- what a def does: φ reckons it; its parameters are np -/
def spF (K : PySem.W.Frag) (np : Nat) (φ : List MV → Option (MV × List (Option MV))) : Sp := fun vs H Q _ => vs.length = np ∧ ∃ F L ms r back, Sub F H ∧ OwnAll K F H ms vs L ∧ L.Nodup ∧ (∀ a ∈ L, F a = none) ∧ φ ms = some (r, back) ∧
  ∀ v F' H' L' M, Rel K F' H' back (vs.map some) L' → Own K F' H' r v M → M.Nodup → (∀ a ∈ M, F' a = none ∧ a ∉ L') → Ext F H L F' H' (L' ++ M) → Q v H'
end Rx
/-! Rx, part 5: does the text say what the language says? The look (chk), and that it is enough: expressions without walks. -/
namespace Rx
open PySem PySem.Spec L2 PyProof.Rows

/-- where one stands: the slots' names, the scope, the scope whose names are one's own; the defs' names and how many parameters; whether gcd is math's -/
structure Cfg where
  N : List Str
  sc : Scope
  own : Scope
  fns : List (Str × Nat)
  gcd : Bool

def blts : List Str := ["bool", "str", "len", "int", "abs", "repr", "tuple", "list", "sorted", "sum", "min", "max", "all", "range", "enumerate", "zip", "isinstance", "dict"]

structure Good (Φ : Funs) (c : Cfg) (X : Cx) : Prop where
  calm : X.calm = true
  N : X.N = c.N
  nd : X.N.Nodup
  sc : X.env.scope = c.sc
  st : ∀ x, (c.own.names.lookup x = some .local ∨ c.own.names.lookup x = some .cell) → Loc X.env.scope x ∧ (X.fn x = true ∨ X.env.scope.names.lookup x = some .local)
  kd : X.env.scope.kind = .function
  xe : X.xe = fun _ _ => False
  un : X.A.units + 70 < cLine
  gu : X.A.guards = some []
  bl : ∀ x ∈ blts, X.mg x = none
  gcd : c.gcd = true → X.mg "gcd" = some (.builtin "math.gcd")
  fn : ∀ i q, c.fns[i]? = some q → ∃ f fd ps k, X.mg q.1 = some (.ref f) ∧ PySem.W.keepIn X.K (.ref f) = true ∧ Binds X.K fd ps [] ∧ Room k X.A ∧ FnG X.prog X.w X.K X.mg X.base k f fd ps (spF X.K q.2 (Φ i))

/-! ### the text's forms -/
def plainE : Expr → Bool
  | .Starred .. => false
  | _ => true
theorem star_cons {e : Expr} {es : List Expr} {env : PySem.Env} (h : plainE e = true) : starEach (e :: es) env = (false, eval e env) :: starEach es env := by
  cases e <;> first | rfl | cases h
theorem star_any {env : PySem.Env} {pos : Pos} : ∀ {es : List Expr}, es.all plainE = true → (backTo pos (starEach es env)).any (·.1) = false
  | [], _ => rfl
  | e :: es, h => by
    rw [List.all_cons, Bool.and_eq_true] at h
    rw [star_cons h.1]
    show (false || (backTo pos (starEach es env)).any (·.1)) = false
    rw [star_any h.2]; rfl
def noSlice : Expr → Bool
  | .Slice .. => false
  | _ => true
theorem plain_ix {e : Expr} (h : noSlice e = true) : PlainIx e := fun o i => by
  cases e <;> first | rfl | cases h
def noSet : Expr → Bool
  | .Set .. => false
  | _ => true
theorem no_marks {e : Expr} {op : CmpOp} (h : noSet e = true) : behindInMarks op e = false := by
  cases e <;> first | rfl | cases h
def dunders (x : Str) : Bool := decide (x = "__debug__") || decide (x = "__classdict__") || decide (x = "__name__")
theorem dund {x : Str} (h : dunders x = false) : (x == ("__debug__" : Str)) = false ∧ (x == ("__classdict__" : Str)) = false ∧ x ≠ "__name__" := by
  unfold dunders at h
  simp only [Bool.or_eq_false_iff, decide_eq_false_iff_not] at h
  exact ⟨beq_eq_false_iff_ne.mpr h.1.1, beq_eq_false_iff_ne.mpr h.1.2, h.2⟩
def visB (sc : Scope) (x : Str) : Bool := match sc.names.lookup x with
  | some .local => true
  | some .cell => true
  | some .free => true
  | _ => false
theorem vis_of {sc : Scope} {x : Str} (h : visB sc x = true) : Vis sc x := by
  unfold visB at h
  split at h
  · exact .inl (by assumption)
  · exact .inr (.inl (by assumption))
  · exact .inr (.inr (by assumption))
  · cases h
def nameB (c : Cfg) (i : Nat) (x : Str) : Bool := decide (c.N[i]? = some x) && visB c.sc x && !dunders x
def globB (c : Cfg) (x : Str) : Bool := decide (c.sc.names.lookup x = some .globalImplicit) && !dunders x
def cstB : PyData → Const → Bool
  | .none, .none => true
  | .bool a, .bool b => a == b
  | .int a, .int b => decide (a = b)
  | .str a, .str b => decide (a = b)
  | _, _ => false
def binO : Op → Option Operator
  | .add => some .Add | .sub => some .Sub | .mul => some .Mult | .fdiv => some .FloorDiv | .mod => some .Mod | .pow => some .Pow
  | _ => none
def cmpO : Op → Option CmpOp
  | .eq => some .Eq | .ne => some .NotEq | .lt => some .Lt | .le => some .LtE | .gt => some .Gt | .ge => some .GtE | .inn => some .In | .nin => some .NotIn | .isB => some .Is | .notB => some .IsNot
  | _ => none
def nonO : Op → Option CmpOp
  | .isN => some .Is | .notN => some .IsNot
  | _ => none
def bltO : Op → Option Str
  | .len => some "len" | .int => some "int" | .abs => some "abs" | .repr => some "repr" | .toTup => some "tuple" | .toLst => some "list" | .sum => some "sum" | .all => some "all"
  | .min2 => some "min" | .max2 => some "max"
  | _ => none

section
variable {Φ : Funs} {c : Cfg} {X : Cx}
theorem pe_name (G : Good Φ c X) {i : Nat} {x : Str} {pos : Pos} (h : nameB c i x = true) : PE X (.Name x pos) (tVar i) := by
  unfold nameB at h
  simp only [Bool.and_eq_true, decide_eq_true_eq, Bool.not_eq_true'] at h
  obtain ⟨d1, d2, _⟩ := dund h.2
  exact pe_var (by rw [G.N]; exact h.1.1) (by rw [G.sc]; exact vis_of h.1.2) d1 d2
theorem gl_of (G : Good Φ c X) {x : Str} (h : globB c x = true) : Gl X x ∧ (x == ("__debug__" : Str)) = false ∧ x ≠ "__name__" := by
  unfold globB at h
  simp only [Bool.and_eq_true, decide_eq_true_eq, Bool.not_eq_true'] at h
  obtain ⟨d1, _, d3⟩ := dund h.2
  refine ⟨?_, d1, d3⟩
  show X.env.scope.names.lookup x = some .globalImplicit
  rw [G.sc]
  exact h.1
theorem pe_cst {d : PyData} {k : Const} {j : Nat} {pos : Pos} (h : cstB d k = true) : PE X (.Constant k j pos) (tE X.K (evE Φ (.cst d))) := by
  have fin : ∀ {v : V}, (∀ F, Dt F d v) → ∀ σ H Q, tE X.K (evE Φ (.cst d)) σ H Q → tC v σ H Q := by
    intro v r σ H Q q
    obtain ⟨F, L, ms, m, ms', R, e, k⟩ := q
    unfold evE at e; cases e
    exact k v F H L [] (Got.of R (Ext.refl _ _ _) (r F))
  cases d with
  | none => cases k <;> first | (cases h; done) | exact pe_non.of (fin fun _ => .non)
  | bool a =>
    cases k with
    | bool b =>
      have e : a = b := eq_of_beq h
      subst e
      exact pe_bl.of (fin fun _ => .bl _)
    | _ => cases h
  | int a =>
    cases k with
    | int b =>
      have e : a = b := of_decide_eq_true h
      subst e
      exact pe_int.of (fin fun _ => .int _)
    | _ => cases h
  | str a =>
    cases k with
    | str b =>
      have e : a = b := of_decide_eq_true h
      subst e
      exact pe_str.of (fin fun _ => .str _)
    | _ => cases h
  | _ => cases k <;> cases h
theorem Got.slot {K : PySem.W.Frag} {F H : Hp} {L : List Addr} {ms : MEnv} {σ : L2.St} {i : Nat} {m : MV} (R : Rel K F H ms σ L) (e : ms[i]? = some (some m)) (hm : ∀ v L1, Own K F H m v L1 → L1 = []) : ∃ v, σ[i]? = some (some v) ∧ Got K F H L F H L ms σ [m] [v] [] := by
  obtain ⟨v, L1, L2, h1, h2, _⟩ := R.own.cut e
  cases hm v L1 h2
  exact ⟨v, h1, R, .one h2, List.nodup_nil, (fun _ h => by cases h), by rw [List.append_nil]; exact Ext.refl _ _ _⟩
theorem var_go {K : PySem.W.Frag} {i : Nat} {σ : L2.St} {H : Hp} {Q : VK} (q : tE K (evE Φ (.var i)) σ H Q) : tVar i σ H Q := by
  obtain ⟨F, L, ms, m, ms', R, e, k⟩ := q
  unfold evE at e
  split at e
  · rename_i d hd
    cases e
    obtain ⟨v, h1, g⟩ := Got.slot R hd fun v L1 h => by cases h; rfl
    exact ⟨v, h1, k _ _ _ _ _ g⟩
  · rename_i d hd
    cases e
    obtain ⟨v, h1, g⟩ := Got.slot R hd fun v L1 h => by cases h; rfl
    exact ⟨v, h1, k _ _ _ _ _ g⟩
  · rename_i d hd
    cases e
    obtain ⟨v, h1, g⟩ := Got.slot R hd fun v L1 h => by cases h; rfl
    exact ⟨v, h1, k _ _ _ _ _ g⟩
  · rename_i d hd
    cases e
    obtain ⟨v, h1, g⟩ := Got.slot R hd fun v L1 h => by cases h; rfl
    exact ⟨v, h1, k _ _ _ _ _ g⟩
  · cases e
/-- a slot's thing frozen where it stands -/
theorem frz_go {K : PySem.W.Frag} {i : Nat} {σ : L2.St} {H : Hp} {Q : VK} (q : tE K (evE Φ (.frz i)) σ H Q) : tVar i σ H Q := by
  obtain ⟨F, L, ms, m, ms', R, e, k⟩ := q
  unfold evE at e
  obtain ⟨m0, e1, e2⟩ := bindSome e
  obtain ⟨d, e3, e4⟩ := mapSome e2
  cases e4
  obtain ⟨v, L1, L2, h1, h2, h3, h4, h5⟩ := R.own.cut (joinSome e1)
  obtain ⟨n1, n2, n3⟩ := h5 R.nd
  have hd : ∀ a ∈ L1, F a = none := fun a ha => R.dis a ((h4 a).mpr (.inl ha))
  have dt : Dt (addF F H L1) d v := h2.frz R.sub e3 (addF_sub hd) fun a ha => addF_in ha
  have hl : i < ms.length := (List.getElem?_eq_some_iff.mp (joinSome e1)).1
  obtain ⟨L3, f1, f2, f3⟩ := (h3.keep (G := addF F H L1) (addF_sub hd) (H' := H) fun _ _ => rfl).fill (m := .val d) (List.getElem?_set_self hl) h1 (.val dt)
  rw [List.set_set] at f1
  have hx : ∀ a, a ∈ L3 ↔ a ∈ L2 := fun a => (f2 a).trans ⟨fun z => z.elim (fun z => by cases z) id, .inr⟩
  have R2 : Rel K (addF F H L1) H (ms.set i (some (.val d))) σ L3 := ⟨f1, f3 n2 List.nodup_nil (fun _ z => by cases z), addF_to R.sub, fun a ha => by
    rw [addF_out fun z => n3 a z ((hx a).mp ha)]
    exact R.dis a ((h4 a).mpr (.inr ((hx a).mp ha)))⟩
  have E2 : Ext F H L (addF F H L1) H L3 := ⟨addF_sub hd, fun _ _ z _ => z, fun a o _ n z => n ((h4 a).mpr (.inr ((hx a).mp z))), fun a o _ n => addF_out fun z => n ((h4 a).mpr (.inl z))⟩
  exact ⟨v, h1, k _ _ _ _ _ (Got.of R2 E2 dt)⟩
/-- a slot's thing taken out -/
theorem mov_go {K : PySem.W.Frag} {i : Nat} {σ : L2.St} {H : Hp} {Q : VK} (q : tE K (evE Φ (.mov i)) σ H Q) : tVar i σ H Q := by
  obtain ⟨F, L, ms, m, ms', R, e, k⟩ := q
  unfold evE at e
  obtain ⟨m0, e1, e2⟩ := mapSome e
  cases e2
  obtain ⟨v, L1, L2, h1, h2, h3, h4, h5⟩ := R.own.cut (joinSome e1)
  obtain ⟨n1, n2, n3⟩ := h5 R.nd
  refine ⟨v, h1, k v F H L2 L1 ⟨⟨h3, n2, R.sub, fun a ha => R.dis a ((h4 a).mpr (.inr ha))⟩, .one h2, n1, fun a ha => ⟨R.dis a ((h4 a).mpr (.inl ha)), n3 a ha⟩, ?_⟩⟩
  exact ⟨Sub.refl _, fun _ _ z _ => z, fun a o _ n z => n ((h4 a).mpr ((List.mem_append.mp z).symm)), fun _ _ _ _ => rfl⟩

/-- an argument's place: as a name it is just its value -/
theorem pe_toO {a : IE} {e : Expr} (h : PE X e (tE X.K (evE Φ a))) (n : isPk a = false) : PE X e (tO X.K Φ a) := by
  cases a with
  | pk i => cases n
  | _ => exact h
theorem pe_bin (G : Good Φ c X) {o : Op} {bo : Operator} (h : binO o = some bo) {a b : IE} {l r : Expr} {pos : Pos} (ha : PE X l (tO X.K Φ a)) (hb : PE X r (tO X.K Φ b)) : PE X (.BinOp l bo r pos) (tE X.K (evE Φ (.op o [a, b]))) := by
  cases o <;> first | cases h | skip
  · exact (pe_op (OpR.or op_add (OpR.or op_cat op_catK)) ha hb).of fun σ H Q q => op2_go ok_add q
  · exact (pe_op op_sub ha hb).of fun σ H Q q => op2_go ok_sub q
  · exact (pe_op (OpR.or op_mulX (OpR.or op_rep op_repK)) ha hb).of fun σ H Q q => op2_go ok_mul q
  · exact (pe_op op_fdivF ha hb).of fun σ H Q q => op2_go ok_fdiv q
  · exact (pe_op op_modN ha hb).of fun σ H Q q => op2_go ok_mod q
  · exact (pe_op op_pow ha hb).of fun σ H Q q => op2_go ok_pow q
/-- what a comparison is by -/
theorem cmp_rule (G : Good Φ c X) {o : Op} {co : CmpOp} (h : cmpO o = some co) : ∃ r, OpR X (compareOp co) r ∧ OpOk o (R2of r) := by
  have hu : X.A.units + 64 < cLine := by have := G.un; omega
  have hu5 : X.A.units + 65 < cLine := by have := G.un; omega
  cases o <;> first | cases h | skip
  · exact ⟨_, OpR.or op_eq (op_eqD hu), ok_eq⟩
  · exact ⟨_, OpR.or op_ne (op_neD hu), ok_ne⟩
  · exact ⟨_, op_lt, ok_lt⟩
  · exact ⟨_, op_le, ok_le⟩
  · exact ⟨_, op_gt, ok_gt⟩
  · exact ⟨_, op_ge, ok_ge⟩
  · exact ⟨_, OpR.or (op_inD hu5) (op_inT hu5), ok_inn⟩
  · exact ⟨_, OpR.or (op_notInD hu5) (op_ninT hu5), ok_nin⟩
  · exact ⟨_, op_isBl, ok_isB⟩
  · exact ⟨_, op_notBl, ok_notB⟩
theorem pe_cmpE (G : Good Φ c X) {o : Op} {co : CmpOp} (h : cmpO o = some co) {a b : IE} {l r : Expr} {pos : Pos} (ha : PE X l (tO X.K Φ a)) (hb : PE X r (tO X.K Φ b)) (hn : noSet r = true) : PE X (.Compare l [co] [r] pos) (tE X.K (evE Φ (.op o [a, b]))) := by
  obtain ⟨r2, h1, h2⟩ := cmp_rule G h
  exact (pe_cmpR h1 ha hb (no_marks hn)).of fun σ H Q q => op2_go h2 q
/-- a test by a value -/
theorem tT_val {f : MEnv → Res MV} {K : PySem.W.Frag} {σ : L2.St} {H : Hp} {Q : Bool → Hp → Prop} (q : tT K f σ H Q) : tE K f σ H fun x H' => ∃ b, x = .bl b ∧ Q b H' := by
  obtain ⟨F, L, ms, m, ms', b, R, e, eb, k⟩ := q
  refine tE.go R e fun v F1 H1 L1 M g => ?_
  obtain ⟨ev, R1, E1⟩ := g.isB eb
  exact ⟨b, ev, k _ _ _ R1 E1⟩
theorem pt_cmpE (G : Good Φ c X) {o : Op} {co : CmpOp} (h : cmpO o = some co) {a b : IE} {l r : Expr} {pos : Pos} (ha : PE X l (tO X.K Φ a)) (hb : PE X r (tO X.K Φ b)) (hn : noSet r = true) : PT X (.Compare l [co] [r] pos) (tT X.K (evE Φ (.op o [a, b]))) := by
  obtain ⟨r2, h1, h2⟩ := cmp_rule G h
  exact (pt_cmpR h1 ha hb (no_marks hn)).of fun σ H Q q => op2_go h2 (tT_val q)
theorem non_rule {o : Op} {co : CmpOp} (h : nonO o = some co) : ∃ r : V → Hp → VK → Prop, OpR X (compareOp co) (fun x y H Q => y = .non ∧ r x H Q) ∧ OpOk o (R1of r) := by
  cases o <;> first | cases h | skip
  · exact ⟨_, op_isN, ok_isN⟩
  · exact ⟨_, op_notN, ok_notN⟩
theorem pe_nonE {o : Op} {co : CmpOp} (h : nonO o = some co) {a : IE} {l : Expr} {pos p2 : Pos} {j : Nat} (ha : PE X l (tO X.K Φ a)) : PE X (.Compare l [co] [.Constant .none j p2] pos) (tE X.K (evE Φ (.op o [a]))) := by
  obtain ⟨r, h1, h2⟩ := non_rule (X := X) h
  exact (pe_cmpR h1 ha pe_non rfl).of fun σ H Q q => tO_mono (op1_go h2 q) fun _ _ q => ⟨rfl, q⟩
theorem pt_nonE {o : Op} {co : CmpOp} (h : nonO o = some co) {a : IE} {l : Expr} {pos p2 : Pos} {j : Nat} (ha : PE X l (tO X.K Φ a)) : PT X (.Compare l [co] [.Constant .none j p2] pos) (tT X.K (evE Φ (.op o [a]))) := by
  obtain ⟨r, h1, h2⟩ := non_rule (X := X) h
  exact (pt_cmpR h1 ha pe_non rfl).of fun σ H Q q => tO_mono (op1_go h2 (tT_val q)) fun _ _ q => ⟨rfl, q⟩
/-- arguments as an operation sees them -/
theorem pa_opd {as : List IE} {es : List Expr} (h : ∀ (j : Nat) (a : IE) (e : Expr), as[j]? = some a → es[j]? = some e → PE X e (tO X.K Φ a)) (hl : as.length = es.length) (hp : es.all plainE = true) : PA X es (tOs X.K Φ as) := by
  induction as generalizing es with
  | nil =>
    cases es with
    | nil => exact pa_nil
    | cons e es => cases hl
  | cons a as ih =>
    cases es with
    | nil => cases hl
    | cons e es =>
      rw [List.all_cons, Bool.and_eq_true] at hp
      exact pa_cons (h 0 a e rfl rfl) (ih (fun j a' e' h1 h2 => h (j + 1) a' e' (by simpa using h1) (by simpa using h2)) (by simpa using hl) hp.2) (star_cons hp.1)
/-- a built-in by its name -/
theorem pe_blt (G : Good Φ c X) {o : Op} {x : Str} (h : bltO o = some x) {as : List IE} {e : Expr} {es : List Expr} {p pos : Pos} (hx : globB c x = true) (ha : PA X (e :: es) (tOs X.K Φ as)) (hp : (e :: es).all plainE = true) : PE X (.Call (.Name x p) (e :: es) [] pos) (tE X.K (evE Φ (.op o as))) := by
  obtain ⟨g1, g2, g3⟩ := gl_of G hx
  have h1 := star_cons (es := es) (env := X.env) (List.all_eq_true.mp hp e List.mem_cons_self)
  have h2 : (backTo pos (starEach es X.env)).any (·.1) = false := star_any (by rw [List.all_cons, Bool.and_eq_true] at hp; exact hp.2)
  have hu : X.A.units + 66 < cLine := by have := G.un; omega
  have mgx : ∀ y ∈ blts, x = y → X.mg x = none := fun y hy e => by rw [e]; exact G.bl y hy
  cases o <;> first | (cases h; done) | skip
  all_goals (have ex := Option.some.inj h; subst ex)
  · exact (pe_callB call_len_seq g1 (G.bl _ (by decide)) boot_len ha g3 g2 h1 h2).of fun σ H Q q => op_go ok_len q
  · exact (pe_callTy call_int1 g1 (G.bl _ (by decide)) (by decide +kernel) ha g3 g2 h1 h2).of fun σ H Q q => op_go ok_int q
  · exact (pe_callB call_abs g1 (G.bl _ (by decide)) (by decide +kernel) ha g3 g2 h1 h2).of fun σ H Q q => op_go ok_abs q
  · exact (pe_callB (call_reprD G.gu hu) g1 (G.bl _ (by decide)) (by decide +kernel) ha g3 g2 h1 h2).of fun σ H Q q => op_go ok_repr q
  · exact (pe_callTy call_tuple_ofK g1 (G.bl _ (by decide)) (by decide +kernel) ha g3 g2 h1 h2).of fun σ H Q q => op_go ok_toTup q
  · exact (pe_callTy call_list_of g1 (G.bl _ (by decide)) (by decide +kernel) ha g3 g2 h1 h2).of fun σ H Q q => op_go ok_toLst q
  · exact (pe_callB (cr_sum G.calm) g1 (G.bl _ (by decide)) (by decide +kernel) ha g3 g2 h1 h2).of fun σ H Q q => op_go ok_sum q
  · exact (pe_callB (call_min2 G.calm) g1 (G.bl _ (by decide)) (by decide +kernel) ha g3 g2 h1 h2).of fun σ H Q q => op_go ok_min2 q
  · exact (pe_callB (call_max2 G.calm) g1 (G.bl _ (by decide)) (by decide +kernel) ha g3 g2 h1 h2).of fun σ H Q q => op_go ok_max2 q
  · exact (pe_callB (cr_all G.calm) g1 (G.bl _ (by decide)) (by decide +kernel) ha g3 g2 h1 h2).of fun σ H Q q => op_go ok_all q
theorem pe_gcdE (G : Good Φ c X) {as : List IE} {e : Expr} {es : List Expr} {p pos : Pos} (hx : globB c "gcd" = true) (hgc : c.gcd = true) (ha : PA X (e :: es) (tOs X.K Φ as)) (hp : (e :: es).all plainE = true) : PE X (.Call (.Name "gcd" p) (e :: es) [] pos) (tE X.K (evE Φ (.op .gcd as))) := by
  obtain ⟨g1, g2, g3⟩ := gl_of G hx
  have h1 := star_cons (es := es) (env := X.env) (List.all_eq_true.mp hp e List.mem_cons_self)
  have h2 : (backTo pos (starEach es X.env)).any (·.1) = false := star_any (by rw [List.all_cons, Bool.and_eq_true] at hp; exact hp.2)
  exact (pe_callBfun cr_gcd g1 (G.gcd hgc) ha g2 h1 h2).of fun σ H Q q => op_go ok_gcd q
end
end Rx
/-! Rx, part 6: displays, truth, choices, calls. -/
namespace Rx
open PySem PySem.Spec L2 PyProof.Rows
section
variable {Φ : Funs} {c : Cfg} {X : Cx} {K : PySem.W.Frag} {σ : L2.St} {H : Hp} {Q : VK}

theorem pa_all {as : List IE} {es : List Expr} (h : ∀ (j : Nat) (a : IE) (e : Expr), as[j]? = some a → es[j]? = some e → PE X e (tE X.K (evE Φ a))) (hl : as.length = es.length) (hp : es.all plainE = true) : PA X es (tA X.K (evEs Φ as)) := by
  induction as generalizing es with
  | nil =>
    cases es with
    | nil => exact pa_nil.of fun _ _ _ q => tA_nil q
    | cons e es => cases hl
  | cons a as ih =>
    cases es with
    | nil => cases hl
    | cons e es =>
      rw [List.all_cons, Bool.and_eq_true] at hp
      exact (pa_cons (h 0 a e rfl rfl) (ih (fun j a' e' h1 h2 => h (j + 1) a' e' (by simpa using h1) (by simpa using h2)) (by simpa using hl) hp.2) (star_cons hp.1)).of fun _ _ _ q => tA_cons q
theorem frzAll_len : ∀ {ms : List MV} {ds : List PyData}, frzAll ms = some ds → ms.length = ds.length
  | [], ds, e => by unfold frzAll at e; cases e; rfl
  | m :: ms, ds, e => by
    unfold frzAll at e
    obtain ⟨d, e1, e2⟩ := bindSome e
    obtain ⟨ds2, e3, e4⟩ := mapSome e2
    cases e4
    rw [List.length_cons, List.length_cons, frzAll_len e3]
theorem OwnAll.len {F H : Hp} : ∀ {ms : List MV} {vs : List V} {L : List Addr}, OwnAll K F H ms vs L → ms.length = vs.length
  | _, _, _, .nil => rfl
  | _, _, _, .cons _ t => by rw [List.length_cons, List.length_cons, t.len]
/-- a new object of one's own over things of one's own -/
theorem Got.over {F H F1 H1 : Hp} {L L1 M : List Addr} {ms1 : MEnv} {rs : List MV} {vs : List V} {p : Addr} {o : HO} {m : MV} (g : Got K F H L F1 H1 L1 ms1 σ rs vs M) (hp : H1 p = none)
    (mk : OwnAll K F1 (upd H1 p o) rs vs M → Own K F1 (upd H1 p o) m (.ref p) (p :: M)) : Got K F H L F1 (upd H1 p o) L1 ms1 σ [m] [.ref p] (p :: M) := by
  have off : ∀ a ∈ M, a ≠ p := fun a ha z => by
    obtain ⟨u, e⟩ := g.res.there a ha
    rw [z, hp] at e; cases e
  refine ⟨g.rel.newO hp, .one (mk (g.res.keep (Sub.refl _) fun a ha => upd_ne (off a ha))), List.nodup_cons.mpr ⟨fun z => off p z rfl, g.nd⟩, fun a ha => ?_, ?_⟩
  · rcases List.mem_cons.mp ha with rfl | ha
    · exact ⟨g.rel.sub.off hp, g.rel.fresh hp⟩
    · exact g.dis a ha
  · exact g.ext.trans ((Ext.newO hp).less fun x hx => by
      rcases List.mem_append.mp hx with hx | hx
      · exact List.mem_cons_of_mem _ (List.mem_append_left _ hx)
      · rcases List.mem_cons.mp hx with rfl | hx
        · exact List.mem_cons_self
        · exact List.mem_cons_of_mem _ (List.mem_append_right _ hx))
theorem tup_go {as : List IE} (q : tE K (evE Φ (.tup as)) σ H Q) : tTupK (tA K (evEs Φ as)) σ H Q := by
  obtain ⟨F, L, ms, m, ms', R, e, k⟩ := q
  unfold evE at e
  obtain ⟨⟨rs, ms1⟩, e1, e2⟩ := bindSome e
  obtain ⟨ds, e3, e4⟩ := bindSome e2
  split at e4
  · rename_i hl
    cases e4
    refine tA.go R e1 fun vs F1 H1 L1 M g => ?_
    obtain ⟨F2, dt, R2, E2⟩ := g.frz e3
    refine ⟨by rw [← dt.len]; exact lim_le hl, fun p o hp wo => k _ _ _ _ _ (Got.of (R2.newF hp) (E2.trans (Ext.newF R2.sub hp)) (.tup (TupK.same wo) (dt.mono (Sub.new (R2.sub.off hp)))))⟩
  · cases e4
theorem otup_go {as : List IE} (q : tE K (evE Φ (.otup as)) σ H Q) : tTupK (tA K (evEs Φ as)) σ H Q := by
  obtain ⟨F, L, ms, m, ms', R, e, k⟩ := q
  unfold evE at e
  obtain ⟨⟨rs, ms1⟩, e1, e2⟩ := bindSome e
  have e2 : (if rs.length ≤ lim then some (MV.tup rs, ms1) else none) = some (m, ms') := e2
  split at e2
  · rename_i hl
    cases e2
    refine tA.go R e1 fun vs F1 H1 L1 M g => ?_
    exact ⟨by rw [← g.res.len]; exact lim_le hl, fun p o hp wo => k _ _ _ _ _ (g.over hp fun r => .tup (TupK.same wo) r)⟩
  · cases e2
theorem lst_go {as : List IE} (q : tE K (evE Φ (.lst as)) σ H Q) : tLst (tA K (evEs Φ as)) σ H Q := by
  obtain ⟨F, L, ms, m, ms', R, e, k⟩ := q
  unfold evE at e
  obtain ⟨⟨rs, ms1⟩, e1, e2⟩ := bindSome e
  obtain ⟨ds, e3, e4⟩ := bindSome e2
  split at e4
  · rename_i hl
    cases e4
    refine tA.go R e1 fun vs F1 H1 L1 M g => ?_
    obtain ⟨F2, dt, R2, E2⟩ := g.frz e3
    refine ⟨by rw [← dt.len]; exact lim_le hl, fun p hp => k _ _ _ _ _ (Got.over (M := []) (rs := []) (vs := []) ⟨R2, .nil, List.nodup_nil, (fun _ h => by cases h), by rw [List.append_nil]; exact E2⟩ hp fun _ => .ls upd_same dt)⟩
  · cases e4
theorem olst_go {as : List IE} (q : tE K (evE Φ (.olst as)) σ H Q) : tLst (tA K (evEs Φ as)) σ H Q := by
  obtain ⟨F, L, ms, m, ms', R, e, k⟩ := q
  unfold evE at e
  obtain ⟨⟨rs, ms1⟩, e1, e2⟩ := bindSome e
  have e2 : (if rs.length ≤ lim then some (MV.lst rs, ms1) else none) = some (m, ms') := e2
  split at e2
  · rename_i hl
    cases e2
    refine tA.go R e1 fun vs F1 H1 L1 M g => ?_
    exact ⟨by rw [← g.res.len]; exact lim_le hl, fun p hp => k _ _ _ _ _ (g.over hp fun r => .lst upd_same r)⟩
  · cases e2

/-! ### truth -/
theorem tE.from {f : MEnv → Res MV} {F H0 H1 F1 : Hp} {L L1 : List Addr} {ms1 ms' : MEnv} {m : MV} (R : Rel K F1 H1 ms1 σ L1) (E : Ext F H0 L F1 H1 L1) (e : f ms1 = some (m, ms')) (k : ∀ v F' H' L' M, Got K F H0 L F' H' L' ms' σ [m] [v] M → Q v H') : tE K f σ H1 Q :=
  tE.go R e fun v F' H' L' M g => k v F' H' L' M (g.from E)
theorem and_go {a b : IE} (q : tE K (evE Φ (.and_ a b)) σ H Q) : tAndV (tE K (evE Φ a)) (tE K (evE Φ b)) σ H Q := by
  obtain ⟨F, L, ms, m, ms', R, e, k⟩ := q
  unfold evE at e
  obtain ⟨⟨v, ms1⟩, e1, e2⟩ := bindSome e
  obtain ⟨d, e3, e4⟩ := bindSome e2
  refine tE.go R e1 fun x F1 H1 L1 M g => ?_
  obtain ⟨ev, R1, E1⟩ := g.isB e3
  refine ⟨d, ev, ?_⟩
  cases d with
  | true => rw [if_pos rfl] at e4; exact iteT (tE.from R1 E1 e4 k)
  | false => rw [if_neg (by decide)] at e4; cases e4; exact iteF (k _ _ _ _ _ (Got.of R1 E1 (.bl false)))
theorem or_go {a b : IE} (q : tE K (evE Φ (.or_ a b)) σ H Q) : tOrV (tE K (evE Φ a)) (tE K (evE Φ b)) σ H Q := by
  obtain ⟨F, L, ms, m, ms', R, e, k⟩ := q
  unfold evE at e
  obtain ⟨⟨v, ms1⟩, e1, e2⟩ := bindSome e
  obtain ⟨d, e3, e4⟩ := bindSome e2
  refine tE.go R e1 fun x F1 H1 L1 M g => ?_
  obtain ⟨ev, R1, E1⟩ := g.isB e3
  refine ⟨d, ev, ?_⟩
  cases d with
  | false => rw [if_neg (by decide)] at e4; exact iteF (tE.from R1 E1 e4 k)
  | true => rw [if_pos rfl] at e4; cases e4; exact iteT (k _ _ _ _ _ (Got.of R1 E1 (.bl true)))
theorem not_go {a : IE} (q : tE K (evE Φ (.not_ a)) σ H Q) : tNotV (tE K (evE Φ a)) σ H Q := by
  obtain ⟨F, L, ms, m, ms', R, e, k⟩ := q
  unfold evE at e
  obtain ⟨⟨v, ms1⟩, e1, e2⟩ := bindSome e
  obtain ⟨d, e3, e4⟩ := mapSome e2
  cases e4
  refine tE.go R e1 fun x F1 H1 L1 M g => ?_
  obtain ⟨ev, R1, E1⟩ := g.isB e3
  exact ⟨d, ev, k _ _ _ _ _ (Got.of R1 E1 (.bl _))⟩
/-- .. as tests -/
theorem tT.from {f : MEnv → Res MV} {Q : Bool → Hp → Prop} {F H0 H1 F1 : Hp} {L L1 : List Addr} {ms1 ms' : MEnv} {m : MV} {b : Bool} (R : Rel K F1 H1 ms1 σ L1) (E : Ext F H0 L F1 H1 L1) (e : f ms1 = some (m, ms')) (eb : isB m = some b) (k : ∀ F' H' L', Rel K F' H' ms' σ L' → Ext F H0 L F' H' L' → Q b H') : tT K f σ H1 Q :=
  ⟨F1, L1, ms1, m, ms', b, R, e, eb, fun F' H' L' R' E' => k F' H' L' R' (E.trans E')⟩
theorem tand_go {a b : IE} {Q : Bool → Hp → Prop} (q : tT K (evE Φ (.and_ a b)) σ H Q) : tAnd (tT K (evE Φ a)) (tT K (evE Φ b)) σ H Q := by
  obtain ⟨F, L, ms, m, ms', b', R, e, eb, k⟩ := q
  unfold evE at e
  obtain ⟨⟨v, ms1⟩, e1, e2⟩ := bindSome e
  obtain ⟨d, e3, e4⟩ := bindSome e2
  refine tT.from R (Ext.refl _ _ _) e1 e3 fun F1 H1 L1 R1 E1 => ?_
  cases d with
  | true => rw [if_pos rfl] at e4; exact iteT (tT.from R1 E1 e4 eb k)
  | false =>
    rw [if_neg (by decide)] at e4; cases e4
    have z := isB_val eb
    cases z
    exact iteF (k _ _ _ R1 E1)
theorem tor_go {a b : IE} {Q : Bool → Hp → Prop} (q : tT K (evE Φ (.or_ a b)) σ H Q) : tOr (tT K (evE Φ a)) (tT K (evE Φ b)) σ H Q := by
  obtain ⟨F, L, ms, m, ms', b', R, e, eb, k⟩ := q
  unfold evE at e
  obtain ⟨⟨v, ms1⟩, e1, e2⟩ := bindSome e
  obtain ⟨d, e3, e4⟩ := bindSome e2
  refine tT.from R (Ext.refl _ _ _) e1 e3 fun F1 H1 L1 R1 E1 => ?_
  cases d with
  | false => rw [if_neg (by decide)] at e4; exact iteF (tT.from R1 E1 e4 eb k)
  | true =>
    rw [if_pos rfl] at e4; cases e4
    have z := isB_val eb
    cases z
    exact iteT (k _ _ _ R1 E1)
theorem tnot_go {a : IE} {Q : Bool → Hp → Prop} (q : tT K (evE Φ (.not_ a)) σ H Q) : tNot (tT K (evE Φ a)) σ H Q := by
  obtain ⟨F, L, ms, m, ms', b', R, e, eb, k⟩ := q
  unfold evE at e
  obtain ⟨⟨v, ms1⟩, e1, e2⟩ := bindSome e
  obtain ⟨d, e3, e4⟩ := mapSome e2
  cases e4
  have z := isB_val eb
  cases z
  exact tT.from R (Ext.refl _ _ _) e1 e3 k
theorem ite_go {c a b : IE} (q : tE K (evE Φ (.ite c a b)) σ H Q) : tIf (tT K (evE Φ c)) (tE K (evE Φ a)) (tE K (evE Φ b)) σ H Q := by
  obtain ⟨F, L, ms, m, ms', R, e, k⟩ := q
  unfold evE at e
  obtain ⟨⟨v, ms1⟩, e1, e2⟩ := bindSome e
  obtain ⟨d, e3, e4⟩ := bindSome e2
  refine tT.from R (Ext.refl _ _ _) e1 e3 fun F1 H1 L1 R1 E1 => ?_
  cases d with
  | true => rw [if_pos rfl] at e4; exact iteT (tE.from R1 E1 e4 k)
  | false => rw [if_neg (by decide)] at e4; exact iteF (tE.from R1 E1 e4 k)
def tIfT (t ta tb : TT) : TT := fun σ H Q => t σ H fun c H1 => if c = true then ta σ H1 Q else tb σ H1 Q
theorem tite_go {c a b : IE} {Q : Bool → Hp → Prop} (q : tT K (evE Φ (.ite c a b)) σ H Q) : tIfT (tT K (evE Φ c)) (tT K (evE Φ a)) (tT K (evE Φ b)) σ H Q := by
  obtain ⟨F, L, ms, m, ms', b', R, e, eb, k⟩ := q
  unfold evE at e
  obtain ⟨⟨v, ms1⟩, e1, e2⟩ := bindSome e
  obtain ⟨d, e3, e4⟩ := bindSome e2
  refine tT.from R (Ext.refl _ _ _) e1 e3 fun F1 H1 L1 R1 E1 => ?_
  cases d with
  | true => rw [if_pos rfl] at e4; exact iteT (tT.from R1 E1 e4 eb k)
  | false => rw [if_neg (by decide)] at e4; exact iteF (tT.from R1 E1 e4 eb k)
theorem pt_ifExp {t a b : Expr} {tt ta tb : TT} {pos : Pos} (ht : PT X t tt) (ha : PT X a ta) (hb : PT X b tb) : PT X (.IfExp t a b pos) (tIfT tt ta tb) := by
  constructor
  intro pins s σ H Q I h
  show wpAny _ _ (do if ← isTrue t X.env (eval t X.env) then isTrue a X.env (eval a X.env) else isTrue b X.env (eval b X.env)) _ _ _
  apply wpAny_bind
  refine wpAny_mono (ht.run pins s σ H _ I h) ?_ (fun _ _ z => z)
  rintro d s1 ⟨H1, J, q⟩
  cases d with
  | true => exact ha.run pins s1 σ H1 Q J q
  | false => exact hb.run pins s1 σ H1 Q J q

/-! ### a < b < c -/
theorem frz2 {x y : MV} {ds : List PyData} (e : frzAll [x, y] = some ds) : ∃ d1 d2, x.frz = some d1 ∧ y.frz = some d2 ∧ ds = [d1, d2] := by
  unfold frzAll at e
  obtain ⟨d1, e1, e2⟩ := bindSome e
  obtain ⟨ds2, e3, e4⟩ := mapSome e2
  unfold frzAll at e3
  obtain ⟨d2, e5, e6⟩ := bindSome e3
  obtain ⟨ds3, e7, e8⟩ := mapSome e6
  unfold frzAll at e7
  cases e7; cases e8; cases e4
  exact ⟨d1, d2, e1, e5, rfl⟩
theorem Made.boolOf {fr : Bool} {F H H' : Hp} {b : Bool} {v : V} (h : Made fr F H (.bool b) v H') : v = .bl b ∧ H' = H := by
  cases h with
  | old r _ => exact ⟨r.blOf, rfl⟩
theorem boolOp {o : Op} {co : CmpOp} (h : cmpO o = some co) {ds : List PyData} {d : PyData} (e : opSem o ds = some d) : ∃ b, d = .bool b := by
  cases o <;> first | (cases h; done) | skip
  · have e : s_eq ds = some d := e
    unfold s_eq at e; split at e
    · obtain ⟨c, _, e⟩ := mapSome e; cases e; exact ⟨_, rfl⟩
    · cases e
  · have e : s_ne ds = some d := e
    unfold s_ne at e; split at e
    · obtain ⟨c, _, e⟩ := mapSome e; cases e; exact ⟨_, rfl⟩
    · cases e
  · have e : s_lt ds = some d := e
    unfold s_lt at e; split at e <;> cases e; exact ⟨_, rfl⟩
  · have e : s_le ds = some d := e
    unfold s_le at e; split at e <;> cases e; exact ⟨_, rfl⟩
  · have e : s_gt ds = some d := e
    unfold s_gt at e; split at e <;> cases e; exact ⟨_, rfl⟩
  · have e : s_ge ds = some d := e
    unfold s_ge at e; split at e <;> cases e; exact ⟨_, rfl⟩
  · have e : s_inn ds = some d := e
    unfold s_inn at e
    split at e
    · split at e <;> cases e; exact ⟨_, rfl⟩
    · split at e <;> cases e; exact ⟨_, rfl⟩
    · cases e
  · have e : s_nin ds = some d := e
    unfold s_nin at e
    split at e
    · split at e <;> cases e; exact ⟨_, rfl⟩
    · split at e <;> cases e; exact ⟨_, rfl⟩
    · cases e
  · have e : s_isB ds = some d := e
    unfold s_isB at e; split at e <;> cases e; exact ⟨_, rfl⟩
  · have e : s_notB ds = some d := e
    unfold s_notB at e; split at e <;> cases e; exact ⟨_, rfl⟩
theorem chain_go {o1 o2 : Op} {c1 c2 : CmpOp} {r1 r2 : R2} (h1 : cmpO o1 = some c1) (h2 : cmpO o2 = some c2) (k1 : OpOk o1 (R2of r1)) (k2 : OpOk o2 (R2of r2)) {a b c : IE} (q : tE K (evE Φ (.chain o1 o2 a b c)) σ H Q) :
    tChain r1 r2 (tE K (evE Φ a)) (tE K (evE Φ b)) (tE K (evE Φ c)) σ H Q := by
  obtain ⟨F, L, ms, m, ms', R, e, k⟩ := q
  unfold evE at e
  obtain ⟨⟨x, ms1⟩, e1, e2⟩ := bindSome e
  obtain ⟨⟨y, ms2⟩, e3, e4⟩ := bindSome e2
  obtain ⟨ds, e5, e6⟩ := bindSome e4
  obtain ⟨rr, e7, e8⟩ := bindSome e6
  obtain ⟨kk, e9, e10⟩ := bindSome e8
  obtain ⟨dx, dy, x1, y1, rfl⟩ := frz2 e5
  have zr := isB_val e9
  have zr2 : rr = .bool kk := by injection zr
  subst zr2
  refine tE.go R e1 fun vx F1 H1 L1 M1 g1 => tE.go g1.rel e3 fun vy F2 H2 L2 M2 g2 => ?_
  have g := g1.cons g2
  obtain ⟨F3, dt, R3, E3⟩ := g.frz e5
  cases dt with
  | cons tx t =>
    cases t with
    | cons ty t =>
      cases t
      refine k1 F3 H2 [dx, dy] [vx, vy] _ _ R3.sub (.cons (.fz tx) (.cons (.fz ty) .nil)) e7 fun v H' md => ?_
      obtain ⟨ev, eh⟩ := md.boolOf
      subst eh
      refine ⟨kk, ev, ?_⟩
      cases kk with
      | false =>
        rw [if_neg (by decide)] at e10; cases e10
        exact iteF (k _ _ _ _ _ (Got.of R3 E3 (.bl false)))
      | true =>
        rw [if_pos rfl] at e10
        obtain ⟨⟨z, ms3⟩, f1, f2⟩ := bindSome e10
        obtain ⟨es, f3, f4⟩ := bindSome f2
        obtain ⟨d, f5, f6⟩ := mapSome f4
        cases f6
        obtain ⟨dy', dz, y2, z1, rfl⟩ := frz2 f3
        rw [y1] at y2; cases y2
        refine iteT (tE.go R3 f1 fun vz F4 H4 L4 M4 g4 => ?_)
        obtain ⟨F5, tz, R5, E5⟩ := g4.frz1 z1
        obtain ⟨b, eb⟩ := boolOp h2 f5
        subst eb
        refine k2 F5 H4 [dy, dz] [vy, vz] _ _ R5.sub (.cons (.fz (ty.mono E5.fr)) (.cons (.fz tz) .nil)) f5 fun v H5 md => ?_
        obtain ⟨ev2, eh2⟩ := md.boolOf
        subst eh2 ev2
        exact k _ _ _ _ _ (Got.of R5 (E3.trans E5) (.bl b))
end
end Rx
/-! Rx, part 7: calls of defs. -/
namespace Rx
open PySem PySem.Spec L2 PyProof.Rows
section
variable {Φ : Funs} {c : Cfg} {X : Cx} {K : PySem.W.Frag} {σ : L2.St}

def isMov : IE → Bool
  | .mov _ => true
  | _ => false
/-- an argument's reading: what is lent is just its value -/
def tR (K : PySem.W.Frag) (Φ : Funs) : IE → TE
  | .mov i => tVar i
  | a => tE K (evE Φ a)
def tRs (K : PySem.W.Frag) (Φ : Funs) : List IE → TA
  | [] => tNil
  | a :: as => tCons (tR K Φ a) (tRs K Φ as)
inductive Lent (σ : L2.St) : List IE → List V → Prop
  | nil : Lent σ [] []
  | mv {i : Nat} {v : V} {as : List IE} {vs : List V} : σ[i]? = some (some v) → Lent σ as vs → Lent σ (.mov i :: as) (v :: vs)
  | it {a : IE} {v : V} {as : List IE} {vs : List V} : isMov a = false → Lent σ as vs → Lent σ (a :: as) (v :: vs)
theorem Lent.len : ∀ {as : List IE} {vs : List V}, Lent σ as vs → as.length = vs.length
  | _, _, .nil => rfl
  | _, _, .mv _ t => by rw [List.length_cons, List.length_cons, t.len]
  | _, _, .it _ t => by rw [List.length_cons, List.length_cons, t.len]
theorem Got.mov {F H : Hp} {L : List Addr} {ms : MEnv} {i : Nat} {m : MV} (R : Rel K F H ms σ L) (e : ms[i]?.join = some m) : ∃ v L2 M, σ[i]? = some (some v) ∧ Got K F H L F H L2 (ms.set i none) σ [m] [v] M := by
  obtain ⟨v, L1, L2, h1, h2, h3, h4, h5⟩ := R.own.cut (joinSome e)
  obtain ⟨n1, n2, n3⟩ := h5 R.nd
  refine ⟨v, L2, L1, h1, ⟨h3, n2, R.sub, fun a ha => R.dis a ((h4 a).mpr (.inr ha))⟩, .one h2, n1, fun a ha => ⟨R.dis a ((h4 a).mpr (.inl ha)), n3 a ha⟩, ?_⟩
  exact ⟨Sub.refl _, fun _ _ z _ => z, fun a o _ n z => n ((h4 a).mpr ((List.mem_append.mp z).symm)), fun _ _ _ _ => rfl⟩
theorem tRs_go {as : List IE} : ∀ {F H : Hp} {L : List Addr} {ms ms' : MEnv} {rs : List MV} {Q : List V → Hp → Prop}, Rel K F H ms σ L → evAs Φ as ms = some (rs, ms') →
    (∀ vs F' H' L' M, Got K F H L F' H' L' ms' σ rs vs M → Lent σ as vs → Q vs H') → tRs K Φ as σ H Q := by
  induction as with
  | nil =>
    intro F H L ms ms' rs Q R e k
    unfold evAs at e; cases e
    exact k [] F H L [] (Got.start R) .nil
  | cons a as ih =>
    intro F H L ms ms' rs Q R e k
    unfold evAs at e
    obtain ⟨⟨m, ms1⟩, e1, e2⟩ := bindSome e
    obtain ⟨⟨vs, ms2⟩, e3, e4⟩ := mapSome e2
    cases e4
    cases n : isMov a with
    | true =>
      cases a with
      | mov i =>
        unfold evE at e1
        obtain ⟨m0, e5, e6⟩ := mapSome e1
        cases e6
        obtain ⟨v, L2, M, hv, g⟩ := Got.mov R e5
        exact ⟨v, hv, ih g.rel e3 fun ws F' H' L' M' g2 l => k _ _ _ _ _ (g.cons g2) (.mv hv l)⟩
      | _ => cases n
    | false =>
      have q : tE K (evE Φ a) σ H fun x H1 => tRs K Φ as σ H1 fun xs H2 => Q (x :: xs) H2 := tE.go R e1 fun v F1 H1 L1 M1 g1 => by
        obtain ⟨F', M', g'⟩ := g1.arg (a := a)
        exact ih g'.rel e3 fun ws F2 H2 L2 M2 g2 l => k _ _ _ _ _ (g'.cons g2) (.it n l)
      cases a with
      | mov i => cases n
      | _ => exact q
theorem OwnS.same {F H : Hp} {ms : MEnv} {L : List Addr} {i : Nat} (h : OwnS K F H ms σ L) (e : ms[i]? = some none) : OwnS K F H (ms.set i none) σ L := by
  have q : ms.set i none = ms := by
    apply List.ext_getElem?
    intro j
    by_cases hj : i = j
    · subst hj
      rw [List.getElem?_set_self (List.getElem?_eq_some_iff.mp e).1, e]
    · rw [List.getElem?_set_ne hj]
  rw [q]; exact h
/-- the lent things come back -/
theorem back_ok {F H : Hp} : ∀ {as : List IE} {vs : List V} {bk : List (Option MV)} {ms1 ms2 : MEnv} {L1 L2 : List Addr}, Lent σ as vs → OwnS K F H bk (vs.map some) L2 → backArgs as bk ms1 = some ms2 → OwnS K F H ms1 σ L1 → L1.Nodup → L2.Nodup → (∀ a ∈ L1, a ∉ L2) →
    ∃ L3, OwnS K F H ms2 σ L3 ∧ L3.Nodup ∧ ∀ a ∈ L3, a ∈ L1 ∨ a ∈ L2
  | _, _, bk, ms1, ms2, L1, L2, .nil, o, e, r, n1, n2, d => by
    cases bk with
    | nil => unfold backArgs at e; cases e; exact ⟨L1, r, n1, fun a ha => .inl ha⟩
    | cons b bk => unfold backArgs at e; cases e
  | _, _, bk, ms1, ms2, L1, L2, @Lent.mv _ i v as vs hv l, o, e, r, n1, n2, d => by
    cases bk with
    | nil => unfold backArgs at e; cases e
    | cons b bk =>
      unfold backArgs at e
      split at e
      · rename_i hn
        cases o with
        | no x t =>
          exact back_ok l t e (r.same hn) n1 n2 d
        | @so m v' ms σ' La Lb ow t =>
          obtain ⟨k1, k2, k3⟩ := List.nodup_append.mp n2
          obtain ⟨L3, f1, f2, f3⟩ := r.fill hn hv ow
          have n3 : L3.Nodup := f3 n1 k1 fun a ha hb => d a hb (List.mem_append_left _ ha)
          obtain ⟨L4, g1, g2, g3⟩ := back_ok l t e f1 n3 k2 fun a ha hb => ((f2 a).mp ha).elim (fun z => k3 a z a hb rfl) fun z => d a z (List.mem_append_right _ hb)
          refine ⟨L4, g1, g2, fun a ha => ?_⟩
          rcases g3 a ha with z | z
          · exact ((f2 a).mp z).elim (fun z => .inr (List.mem_append_left _ z)) .inl
          · exact .inr (List.mem_append_right _ z)
      · cases e
  | _, _, bk, ms1, ms2, L1, L2, @Lent.it _ a v as vs n l, o, e, r, n1, n2, d => by
    cases bk with
    | nil => cases a <;> (unfold backArgs at e; first | (cases e; done) | cases n)
    | cons b bk =>
      have e' : backArgs as bk ms1 = some ms2 := by
        cases a with
        | mov i => cases n
        | _ => unfold backArgs at e; exact e
      cases o with
      | no x t => exact back_ok l t e' r n1 n2 d
      | @so m v' ms σ' La Lb ow t =>
        obtain ⟨k1, k2, k3⟩ := List.nodup_append.mp n2
        obtain ⟨L4, g1, g2, g3⟩ := back_ok l t e' r n1 k2 fun a ha hb => d a ha (List.mem_append_right _ hb)
        exact ⟨L4, g1, g2, fun a ha => (g3 a ha).imp id (List.mem_append_right _)⟩
theorem call_go {f np : Nat} {as : List IE} {H : Hp} {Q : VK} (hl : as.length = np) (q : tE K (evE Φ (.call f as)) σ H Q) : tCall (spF K np (Φ f)) [] E0 (tRs K Φ as) σ H Q := by
  obtain ⟨F, L, ms, m, ms', R, e, k⟩ := q
  unfold evE at e
  obtain ⟨⟨rs, ms1⟩, e1, e2⟩ := bindSome e
  obtain ⟨⟨r, bk⟩, e3, e4⟩ := bindSome e2
  obtain ⟨ms2, e5, e6⟩ := mapSome e4
  cases e6
  refine tRs_go R e1 fun vs F1 H1 L1 M g l => ?_
  show spF K np (Φ f) (vs ++ []) H1 Q E0
  rw [List.append_nil]
  refine ⟨by rw [← l.len]; exact hl, F1, M, rs, _, bk, g.rel.sub, g.res, g.nd, fun a ha => (g.dis a ha).1, e3, fun v F2 H2 L2 M2 R2 ow nd dis E2 => ?_⟩
  have d1 : ∀ a ∈ L1, a ∉ M := fun a ha z => (g.dis a z).2 ha
  have o1 : OwnS K F2 H2 ms1 σ L1 := E2.ownS g.rel.own d1
  have off : ∀ a ∈ L1, a ∉ L2 ++ M2 := fun a ha => by
    obtain ⟨o, e⟩ := g.rel.own.there a ha
    exact E2.off a o e (d1 a ha)
  obtain ⟨L3, b1, b2, b3⟩ := back_ok l R2.own e5 o1 g.rel.nd R2.nd fun a ha z => off a ha (List.mem_append_left _ z)
  refine k v F2 H2 L3 M2 ⟨⟨b1, b2, R2.sub, fun a ha => ?_⟩, .one ow, nd, fun a ha => ⟨(dis a ha).1, fun z => ?_⟩, g.ext.trans ?_⟩
  · rcases b3 a ha with z | z
    · obtain ⟨o, e⟩ := g.rel.own.there a z
      exact (E2.same a o e (d1 a z)).trans (g.rel.dis a z)
    · exact R2.dis a z
  · rcases b3 a z with y | y
    · exact off a y (List.mem_append_right _ ha)
    · exact (dis a ha).2 y
  · refine E2.mem (L2 := L1 ++ M) (L2' := L3 ++ M2) (fun a ha => List.mem_append_right _ ha) fun a o e n z => ?_
    rcases List.mem_append.mp z with z | z
    · rcases b3 a z with y | y
      · exact n (List.mem_append_left _ y)
      · exact E2.off a o e (fun w => n (List.mem_append_right _ w)) (List.mem_append_left _ y)
    · exact E2.off a o e (fun w => n (List.mem_append_right _ w)) (List.mem_append_right _ z)
theorem pa_args {as : List IE} {es : List Expr} (h : ∀ (j : Nat) (a : IE) (e : Expr), as[j]? = some a → es[j]? = some e → PE X e (tR X.K Φ a)) (hl : as.length = es.length) (hp : es.all plainE = true) : PA X es (tRs X.K Φ as) := by
  induction as generalizing es with
  | nil =>
    cases es with
    | nil => exact pa_nil
    | cons e es => cases hl
  | cons a as ih =>
    cases es with
    | nil => cases hl
    | cons e es =>
      rw [List.all_cons, Bool.and_eq_true] at hp
      exact pa_cons (h 0 a e rfl rfl) (ih (fun j a' e' h1 h2 => h (j + 1) a' e' (by simpa using h1) (by simpa using h2)) (by simpa using hl) hp.2) (star_cons hp.1)
theorem pe_callE (G : Good Φ c X) {f np : Nat} {x : Str} (hf : c.fns[f]? = some (x, np)) {as : List IE} {e : Expr} {es : List Expr} {p pos : Pos} (hx : globB c x = true) (hl : as.length = np) (ha : PA X (e :: es) (tRs X.K Φ as)) (hp : (e :: es).all plainE = true) :
    PE X (.Call (.Name x p) (e :: es) [] pos) (tE X.K (evE Φ (.call f as))) := by
  obtain ⟨g1, g2, g3⟩ := gl_of G hx
  obtain ⟨fa, fd, ps, k, h1, h2, h3, h4, h5⟩ := G.fn f _ hf
  exact (pe_callG h5 G.gu h4 g1 h1 h2 h3 ha g2 (star_cons (List.all_eq_true.mp hp e List.mem_cons_self)) (star_any (by rw [List.all_cons, Bool.and_eq_true] at hp; exact hp.2))).of fun σ H Q q => call_go hl q
end
end Rx
/-! Rx, part 8: what is walked; names; comprehensions. -/
namespace Rx
open PySem PySem.Spec L2 PyProof.Rows
section
variable {Φ : Funs} {c : Cfg} {X : Cx} {K : PySem.W.Frag} {σ : L2.St}

/-- J walks the data ds, while F is frozen -/
structure Wk (K : PySem.W.Frag) (F : Hp) (J : It) (ds : List PyData) : Prop where
  goes : ∀ i H, i < ds.length → Sub F H → J.go i H
  stops : ∀ H, Sub F H → J.stop ds.length H
  yields : ∀ i H x H' d, ds[i]? = some d → Sub F H → J.yld i H x H' → (H' = H ∧ Dt F d x) ∨ ∃ T o es vs, d = .tuple es ∧ x = .ref T ∧ H T = none ∧ H' = upd H T (.frz o (.tup vs)) ∧ TupO o ∧ DtAll F es vs
def tI (K : PySem.W.Frag) (f : MEnv → Res (List PyData)) : TI := fun σ H R => ∃ F L ms ds ms', Rel K F H ms σ L ∧ f ms = some (ds, ms') ∧ ∀ J F' H' L', Wk K F' J ds → Rel K F' H' ms' σ L' → Ext F H L F' H' L' → R J H'
theorem wk_list {F : Hp} {a : Addr} {ds : List PyData} {vs : List V} (h : SqL K F a vs) (r : DtAll F ds vs) : Wk K F (Itl K a) ds where
  goes := fun i H hi s => by rw [r.len] at hi; exact (walk_list (xs := vs)).goes i H hi (SqL.mono s h)
  stops := fun H s => by rw [r.len]; exact (walk_list (xs := vs)).stops H (SqL.mono s h)
  yields := fun i H x H' d e s y => by
    obtain ⟨v, h1, h2⟩ := r.at_ e
    have z := (walk_list (xs := vs)).yields i H x H' (by
      obtain ⟨q, _⟩ := List.getElem?_eq_some_iff.mp h1; exact q) (SqL.mono s h) y
    obtain ⟨z1, z2⟩ := z
    rw [h1] at z2; cases z2
    exact .inl ⟨z1, h2⟩
theorem SqT.mono {F G : Hp} {a : Addr} {xs : List V} (h : Sub F G) (q : SqT K F a xs) : SqT K G a xs := by
  rcases q with (q | ⟨o, q⟩) | q
  · exact .inl (.inl (h _ _ q))
  · exact .inl (.inr ⟨o, h _ _ q⟩)
  · exact .inr q
theorem wk_tup {F : Hp} {a : Addr} {ds : List PyData} {vs : List V} (h : SqT K F a vs) (r : DtAll F ds vs) : Wk K F (Itt K a) ds where
  goes := fun i H hi s => by rw [r.len] at hi; exact (walk_tup (xs := vs)).goes i H hi (SqT.mono s h)
  stops := fun H s => by rw [r.len]; exact (walk_tup (xs := vs)).stops H (SqT.mono s h)
  yields := fun i H x H' d e s y => by
    obtain ⟨v, h1, h2⟩ := r.at_ e
    have z := (walk_tup (xs := vs)).yields i H x H' (by
      obtain ⟨q, _⟩ := List.getElem?_eq_some_iff.mp h1; exact q) (SqT.mono s h) y
    obtain ⟨z1, z2⟩ := z
    rw [h1] at z2; cases z2
    exact .inl ⟨z1, h2⟩
theorem rangeD_len (lo hi : Int) : (rangeD lo hi).length = (hi - lo).toNat := by unfold rangeD; rw [List.length_map, List.length_range]
theorem wk_range {F : Hp} {lo hi : Int} : Wk K F (Itr lo (hi - lo).toNat) (rangeD lo hi) where
  goes := fun i H hh _ => by rw [rangeD_len] at hh; exact hh
  stops := fun H _ => by rw [rangeD_len]; exact Nat.le_refl _
  yields := fun i H x H' d e s y => by
    obtain ⟨y1, y2⟩ := y
    subst y2
    unfold rangeD at e
    rw [List.getElem?_map] at e
    obtain ⟨j, e1, e2⟩ := mapSome e
    cases e2
    have ej : j = i := by
      obtain ⟨q, z⟩ := List.getElem?_eq_some_iff.mp e1
      rw [List.getElem_range] at z
      exact z.symm
    subst ej
    exact .inl ⟨y1, .int _⟩
theorem enum_at (ds : List PyData) (i : Nat) : (ds.zipIdx.map fun p => PyData.tuple [.int p.2, p.1])[i]? = (ds[i]?).map fun d => PyData.tuple [.int (i : Nat), d] := by
  rw [List.getElem?_map, List.getElem?_zipIdx]
  cases ds[i]? with
  | none => rfl
  | some d =>
    show some (PyData.tuple [.int ((0 + i : Nat) : Int), d]) = some (PyData.tuple [.int (i : Nat), d])
    rw [Nat.zero_add]
theorem zip_at {ds es : List PyData} {i : Nat} {d : PyData} (e : (List.zipWith (fun x y => PyData.tuple [x, y]) ds es)[i]? = some d) : ∃ x y, ds[i]? = some x ∧ es[i]? = some y ∧ d = .tuple [x, y] := by
  rw [List.getElem?_zipWith] at e
  split at e
  · cases e; exact ⟨_, _, by assumption, by assumption, rfl⟩
  · cases e
/-! ### the text's walks -/
theorem _root_.L2.PI.of {tg e : Expr} {t t' : TI} (h : PI X tg e t) (w : ∀ σ H R, t' σ H R → t σ H R) : PI X tg e t' := ⟨fun pins s σ H R I q => h.run pins s σ H R I (w σ H R q)⟩
theorem _root_.L2.PI.or {tg e : Expr} {t t' : TI} (h : PI X tg e t) (h' : PI X tg e t') : PI X tg e (fun σ H R => t σ H R ∨ t' σ H R) := ⟨fun pins s σ H R I q => q.elim (h.run pins s σ H R I) (h'.run pins s σ H R I)⟩
theorem pi_seqE {tg e : Expr} {a : IE} (h : PE X e (tE X.K (evE Φ a))) : PI X tg e (tI X.K (evI Φ (.seq a))) := by
  refine (PI.or (pi_list (tg := tg) h) (pi_tup h)).of fun σ H R q => ?_
  obtain ⟨F, L, ms, ds, ms', RR, e, k⟩ := q
  unfold evI at e
  obtain ⟨⟨v, ms1⟩, e1, e2⟩ := bindSome e
  obtain ⟨d, e3, e4⟩ := bindSome e2
  obtain ⟨ds', e5, e6⟩ := mapSome e4
  cases e6
  unfold seqOf at e5
  split at e5
  · cases e5
    refine .inl (tE.go RR e1 fun x F1 H1 L1 M g => ?_)
    obtain ⟨F2, dt, R2, E2⟩ := g.frz1 e3
    cases dt with
    | @lst a _ vs ha r => exact ⟨a, rfl, ⟨vs, SqL.of (R2.sub _ _ ha)⟩, k _ _ _ _ (wk_list (SqL.of ha) r) R2 E2⟩
  · cases e5
    refine .inr (tE.go RR e1 fun x F1 H1 L1 M g => ?_)
    obtain ⟨F2, dt, R2, E2⟩ := g.frz1 e3
    cases dt with
    | @tup a _ vs ha r => exact ⟨a, rfl, ⟨vs, (ha.mono R2.sub).sq⟩, k _ _ _ _ (wk_tup ha.sq r) R2 E2⟩
  · cases e5
theorem pi_scrE (G : Good Φ c X) {tg : Expr} {i : Nat} {x : Str} {pos : Pos} (h : nameB c i x = true) : PI X tg (.Name x pos) (tI X.K (evI Φ (.scr i))) := by
  refine (pi_list (tg := tg) (pe_name G h)).of fun σ H R q => ?_
  obtain ⟨F, L, ms, ds, ms', RR, e, k⟩ := q
  unfold evI at e
  split at e
  · rename_i ns hd
    cases e
    obtain ⟨v, L1, L2, h1, h2, _⟩ := RR.own.cut hd
    cases h2 with
    | @scr a _ ha => exact ⟨_, h1, a, rfl, ⟨_, SqL.mono RR.sub ha⟩, k _ _ _ _ (wk_list ha (DtAll.intsA ns)) RR (Ext.refl _ _ _)⟩
  · cases e
theorem pa1 {e : Expr} {t : TE} (h : PE X e t) (hp : plainE e = true) : PA X [e] (tCons t tNil) := pa_cons h pa_nil (star_cons hp)
theorem pa2 {e e' : Expr} {t t' : TE} (h : PE X e t) (h' : PE X e' t') (hp : plainE e = true) (hp' : plainE e' = true) : PA X [e, e'] (tCons t (tCons t' tNil)) := pa_cons h (pa1 h' hp') (star_cons hp)
theorem rng1_val {v : MV} {ds : List PyData} (h : rng1Of v = some ds) : ∃ j : Int, v = .val (.int j) ∧ -1000000 ≤ j ∧ j ≤ 1000000 ∧ ds = rangeD 0 j := by
  unfold rng1Of at h
  split at h
  · split at h
    · rename_i hj
      cases h
      exact ⟨_, rfl, hj.1, hj.2, rfl⟩
    · cases h
  · cases h
theorem rng2_val {v u : MV} {ds : List PyData} (h : rng2Of v u = some ds) : ∃ i j : Int, v = .val (.int i) ∧ u = .val (.int j) ∧ -1000000 ≤ i ∧ i ≤ 1000000 ∧ -1000000 ≤ j ∧ j ≤ 1000000 ∧ ds = rangeD i j := by
  unfold rng2Of at h
  split at h
  · split at h
    · rename_i hj
      cases h
      exact ⟨_, _, rfl, rfl, hj.1, hj.2.1, hj.2.2.1, hj.2.2.2, rfl⟩
    · cases h
  · cases h
theorem pi_rng1E (G : Good Φ c X) {tg e : Expr} {a : IE} {p pos : Pos} (hx : globB c "range" = true) (h : PE X e (tE X.K (evE Φ a))) (hp : plainE e = true) : PI X tg (.Call (.Name "range" p) [e] [] pos) (tI X.K (evI Φ (.rng1 a))) := by
  obtain ⟨g1, g2, g3⟩ := gl_of G hx
  refine (pi_range1 (tg := tg) g1 (G.bl _ (by decide)) (pa1 h hp) (star_cons hp)).of fun σ H R q => ?_
  obtain ⟨F, L, ms, ds, ms', RR, e, k⟩ := q
  unfold evI at e
  obtain ⟨⟨v, ms1⟩, e1, e2⟩ := bindSome e
  refine tE.go RR e1 fun x F1 H1 L1 M g => ?_
  show ∃ j : Int, [x] = [V.int j] ∧ -(2 ^ 62) ≤ j ∧ j < 2 ^ 62 ∧ R (Itr 0 j.toNat) H1
  obtain ⟨ds', e3, e4⟩ := mapSome e2
  cases e4
  obtain ⟨j, rfl, j1, j2, rfl⟩ := rng1_val e3
  have r := g.res.fst
  cases r with
  | val r =>
    cases r
    refine ⟨j, rfl, by omega, by omega, ?_⟩
    have z := k (Itr 0 (j - 0).toNat) F1 H1 L1 wk_range g.rel g.ext0
    rw [Int.sub_zero] at z
    exact z
theorem pi_rng2E (G : Good Φ c X) {tg e e' : Expr} {a b : IE} {p pos : Pos} (hx : globB c "range" = true) (h : PE X e (tE X.K (evE Φ a))) (h' : PE X e' (tE X.K (evE Φ b))) (hp : plainE e = true) (hp' : plainE e' = true) :
    PI X tg (.Call (.Name "range" p) [e, e'] [] pos) (tI X.K (evI Φ (.rng2 a b))) := by
  obtain ⟨g1, g2, g3⟩ := gl_of G hx
  refine (pi_range2 (tg := tg) g1 (G.bl _ (by decide)) (pa2 h h' hp hp') (by rw [star_cons hp, star_cons hp']; rfl) (by rw [star_cons hp']; rfl)).of fun σ H R q => ?_
  obtain ⟨F, L, ms, ds, ms', RR, e, k⟩ := q
  unfold evI at e
  obtain ⟨⟨v, ms1⟩, e1, e2⟩ := bindSome e
  obtain ⟨⟨u, ms2⟩, e3, e4⟩ := bindSome e2
  refine tE.go RR e1 fun x F1 H1 L1 M g => tE.go g.rel e3 fun y F2 H2 L2 M2 g2 => ?_
  show ∃ i j : Int, [x, y] = [V.int i, V.int j] ∧ (-(2 ^ 62) ≤ i ∧ i < 2 ^ 62 ∧ -(2 ^ 62) ≤ j ∧ j < 2 ^ 62) ∧ R (Itr i (j - i).toNat) H2
  obtain ⟨ds', e5, e6⟩ := mapSome e4
  cases e6
  obtain ⟨i, j, rfl, rfl, j1, j2, j3, j4, rfl⟩ := rng2_val e5
  have r := g.res.fst
  have r2 := g2.res.fst
  cases r with
  | val r =>
    cases r2 with
    | val r2 =>
      cases r; cases r2
      exact ⟨i, j, rfl, ⟨by omega, by omega, by omega, by omega⟩, k _ _ _ _ wk_range g2.rel (g.cons g2).ext0⟩
end
end Rx
/-! Rx, part 9: names to which is given; comprehensions. -/
namespace Rx
open PySem PySem.Spec L2 PyProof.Rows
section
variable {Φ : Funs} {c : Cfg} {X : Cx} {K : PySem.W.Frag} {σ τ : L2.St}

mutual
def NT.slots : NT → List Nat
  | .n i => [i]
  | .t ts => slotsAll ts
def slotsAll : List NT → List Nat
  | [] => []
  | t :: ts => t.slots ++ slotsAll ts
end
mutual
def gNT (K : PySem.W.Frag) : NT → TG
  | .n i => gName i
  | .t ts => gTup K ts.length (gNTs K ts)
def gNTs (K : PySem.W.Frag) : List NT → TGs
  | [] => gNil
  | t :: ts => gCons (gNT K t) (gNTs K ts)
end
/-- a name that is one's own -/
def ownB (c : Cfg) (i : Nat) (x : Str) : Bool := decide (c.N[i]? = some x) && (match c.own.names.lookup x with | some .local => true | some .cell => true | _ => false)
mutual
def chkNT (c : Cfg) : NT → Expr → Bool
  | .n i, .Name x _ => ownB c i x
  | .t ts, .Tuple es _ _ => chkNTs c ts es
  | _, _ => false
def chkNTs (c : Cfg) : List NT → List Expr → Bool
  | [], [] => true
  | t :: ts, e :: es => chkNT c t e && chkNTs c ts es
  | _, _ => false
end
theorem pg_own (G : Good Φ c X) {i : Nat} {x : Str} {pos : Pos} (h : ownB c i x = true) : PG X (.Name x pos) (gName i) := by
  unfold ownB at h
  rw [Bool.and_eq_true, decide_eq_true_eq] at h
  have hx : c.own.names.lookup x = some .local ∨ c.own.names.lookup x = some .cell := by
    have h2 := h.2
    split at h2
    · exact .inl (by assumption)
    · exact .inr (by assumption)
    · cases h2
  obtain ⟨l, f⟩ := G.st x hx
  exact pg_name G.nd (by rw [G.N]; exact h.1) l f
theorem each_plain {env : PySem.Env} : ∀ {es : List Expr}, es.all plainE = true → (assignEach es env).length = es.length ∧ (assignEach es env).findIdx? (·.1) = none
  | [], _ => ⟨rfl, rfl⟩
  | e :: es, h => by
    rw [List.all_cons, Bool.and_eq_true] at h
    obtain ⟨h1, h2⟩ := each_plain (env := env) h.2
    have q : ∃ t, assignEach (e :: es) env = (false, t) :: assignEach es env := by
      cases e <;> first | exact ⟨_, rfl⟩ | cases h.1
    obtain ⟨t, q⟩ := q
    rw [q]
    exact ⟨by rw [List.length_cons, List.length_cons, h1], by rw [List.findIdx?_cons, h2]; rfl⟩
mutual
theorem chkNT_plain : ∀ (t : NT) (e : Expr), chkNT c t e = true → plainE e = true
  | .n i, e, h => by cases e <;> first | rfl | (unfold chkNT at h; cases h)
  | .t ts, e, h => by cases e <;> first | rfl | (unfold chkNT at h; cases h)
end
theorem chkNTs_all : ∀ (ts : List NT) (es : List Expr), chkNTs c ts es = true → es.all plainE = true ∧ ts.length = es.length
  | [], [], _ => ⟨rfl, rfl⟩
  | [], _ :: _, h => by unfold chkNTs at h; cases h
  | _ :: _, [], h => by unfold chkNTs at h; cases h
  | t :: ts, e :: es, h => by
    unfold chkNTs at h
    rw [Bool.and_eq_true] at h
    obtain ⟨h1, h2⟩ := chkNTs_all ts es h.2
    exact ⟨by rw [List.all_cons, chkNT_plain t e h.1, h1]; rfl, by rw [List.length_cons, List.length_cons, h2]⟩
mutual
theorem pg_nt (G : Good Φ c X) : ∀ (t : NT) (e : Expr), chkNT c t e = true → PG X e (gNT X.K t)
  | .n i, e, h => by
    cases e with
    | Name x pos =>
      unfold chkNT at h
      unfold gNT
      exact pg_own G h
    | _ => unfold chkNT at h; cases h
  | .t ts, e, h => by
    cases e with
    | Tuple es k pos =>
      unfold chkNT at h
      unfold gNT
      obtain ⟨a1, a2⟩ := chkNTs_all ts es h
      obtain ⟨b1, b2⟩ := each_plain (env := X.env) a1
      exact pg_tup G.calm (pgs_nt G ts es h) (b1.trans a2.symm) b2
    | _ => unfold chkNT at h; cases h
theorem pgs_nt (G : Good Φ c X) : ∀ (ts : List NT) (es : List Expr), chkNTs c ts es = true → PGs X es (gNTs X.K ts)
  | [], [], _ => by unfold gNTs; exact pgs_nil
  | [], _ :: _, h => by unfold chkNTs at h; cases h
  | _ :: _, [], h => by unfold chkNTs at h; cases h
  | t :: ts, e :: es, h => by
    unfold chkNTs at h
    rw [Bool.and_eq_true] at h
    unfold gNTs
    have hp := chkNT_plain t e h.1
    refine pgs_cons (pg_nt G t e h.1) (pgs_nt G ts es h.2) ?_
    cases e <;> first | rfl | cases hp
end

/-! ### giving -/
theorem Rel.put {F H : Hp} {ms : MEnv} {L : List Addr} {i : Nat} {d : PyData} {x : V} (R : Rel K F H ms τ L) (r : Dt F d x) (hi : i < ms.length) : ∃ L', Rel K F H (ms.set i (some (.val d))) (τ.set i (some x)) L' ∧ ∀ a ∈ L', a ∈ L := by
  obtain ⟨L2, f1, f2, f3⟩ := R.own.drop i
  have z : (ms.set i none)[i]? = some none := List.getElem?_set_self hi
  have f4 := f1.hole (some x) z
  have hl : i < τ.length := by rw [← R.own.len]; exact hi
  obtain ⟨L3, g1, g2, g3⟩ := f4.fill (m := .val d) z (List.getElem?_set_self hl) (.val r)
  rw [List.set_set] at g1
  have hx : ∀ a ∈ L3, a ∈ L2 := fun a ha => ((g2 a).mp ha).elim (fun z => by cases z) id
  exact ⟨L3, ⟨g1, g3 (f3 R.nd) List.nodup_nil (fun _ z => by cases z), R.sub, fun a ha => R.dis a (f2 a (hx a ha))⟩, fun a ha => f2 a (hx a ha)⟩
mutual
theorem nt_put {F H : Hp} : ∀ (t : NT) {d : PyData} {x : V} {ms ms' : MEnv} {τ : L2.St} {L : List Addr} {Q : L2.St → Hp → Prop}, Rel K F H ms τ L → Dt F d x → t.put d ms = some ms' →
    (∀ τ' L', Rel K F H ms' τ' L' → (∀ a ∈ L', a ∈ L) → (∀ j, j ∉ t.slots → τ'[j]? = τ[j]?) → τ'.length = τ.length → Q τ' H) → gNT K t x τ H Q
  | .n i, d, x, ms, ms', τ, L, Q, R, r, e, k => by
    unfold NT.put at e
    unfold gNT
    split at e
    · rename_i hi
      cases e
      obtain ⟨L', R', h⟩ := R.put r hi
      exact k _ L' R' h (fun j hj => by
        rw [List.getElem?_set_ne]
        intro z; apply hj; unfold NT.slots; rw [z]; exact List.mem_cons_self) (List.length_set ..)
    · cases e
  | .t ts, d, x, ms, ms', τ, L, Q, R, r, e, k => by
    cases d with
    | tuple ds =>
      unfold NT.put at e
      unfold gNT
      cases r with
      | @tup a _ vs ha rs =>
        obtain ⟨hl, q⟩ := nts_put ts R rs e k
        exact ⟨a, vs, rfl, (ha.mono R.sub).sq, hl, q⟩
    | _ => unfold NT.put at e; cases e
theorem nts_put {F H : Hp} : ∀ (ts : List NT) {ds : List PyData} {xs : List V} {ms ms' : MEnv} {τ : L2.St} {L : List Addr} {Q : L2.St → Hp → Prop}, Rel K F H ms τ L → DtAll F ds xs → putAll ts ds ms = some ms' →
    (∀ τ' L', Rel K F H ms' τ' L' → (∀ a ∈ L', a ∈ L) → (∀ j, j ∉ (NT.t ts).slots → τ'[j]? = τ[j]?) → τ'.length = τ.length → Q τ' H) → xs.length = ts.length ∧ gNTs K ts xs τ H Q
  | [], ds, xs, ms, ms', τ, L, Q, R, r, e, k => by
    cases ds with
    | nil =>
      cases r
      unfold putAll at e; cases e
      unfold gNTs
      exact ⟨rfl, rfl, k τ L R (fun _ h => h) (fun _ _ => rfl) rfl⟩
    | cons d ds => unfold putAll at e; cases e
  | t :: ts, ds, xs, ms, ms', τ, L, Q, R, r, e, k => by
    cases ds with
    | nil => unfold putAll at e; cases e
    | cons d ds =>
      cases r with
      | @cons _ _ v vs r rs =>
        unfold putAll at e
        obtain ⟨ms1, e1, e2⟩ := bindSome e
        unfold gNTs
        have sl : ∀ j, j ∉ (NT.t (t :: ts)).slots → j ∉ t.slots ∧ j ∉ (NT.t ts).slots := fun j hj => by
          have hj : j ∉ slotsAll (t :: ts) := by unfold NT.slots at hj; exact hj
          unfold slotsAll at hj
          rw [List.mem_append, not_or] at hj
          exact ⟨hj.1, by unfold NT.slots; exact hj.2⟩
        have main : ∀ τ' L', Rel K F H ms1 τ' L' → (∀ a ∈ L', a ∈ L) → (∀ j, j ∉ t.slots → τ'[j]? = τ[j]?) → τ'.length = τ.length → vs.length = ts.length ∧ gNTs K ts vs τ' H Q := fun τ' L' R' hl hs hn =>
          nts_put ts R' rs e2 fun τ2 L2 R2 hl2 hs2 hn2 => k τ2 L2 R2 (fun a ha => hl a (hl2 a ha)) (fun j hj => (hs2 j (sl j hj).2).trans (hs j (sl j hj).1)) (hn2.trans hn)
        have len : vs.length = ts.length := by
          have : ds.length = ts.length := putAll_len ts e2
          rw [← rs.len]; exact this
        exact ⟨by rw [List.length_cons, List.length_cons, len], v, vs, rfl, nt_put t R r e1 fun τ' L' R' hl hs hn => (main τ' L' R' hl hs hn).2⟩
theorem putAll_len : ∀ (ts : List NT) {ds : List PyData} {ms ms' : MEnv}, putAll ts ds ms = some ms' → ds.length = ts.length
  | [], [], _, _, _ => rfl
  | [], _ :: _, _, _, e => by unfold putAll at e; cases e
  | _ :: _, [], _, _, e => by unfold putAll at e; cases e
  | t :: ts, d :: ds, _, _, e => by
    unfold putAll at e
    obtain ⟨ms1, e1, e2⟩ := bindSome e
    rw [List.length_cons, List.length_cons, putAll_len ts e2]
end
end
end Rx
/-! Rx, part 10: comprehensions. -/
namespace Rx
open PySem PySem.Spec L2 PyProof.Rows
section
variable {Φ : Funs} {c : Cfg} {X : Cx} {K : PySem.W.Frag} {σ τ : L2.St}

theorem OwnAll.app {F H : Hp} : ∀ {ms ns : List MV} {vs ws : List V} {L M : List Addr}, OwnAll K F H ms vs L → OwnAll K F H ns ws M → OwnAll K F H (ms ++ ns) (vs ++ ws) (L ++ M)
  | _, _, _, _, _, _, .nil, s => s
  | _, _, _, _, _, _, .cons r t, s => by rw [List.append_assoc]; exact .cons r (t.app s)

/-! ### a block's own slots -/
theorem wipeM_len (ms : MEnv) : ∀ own : List Nat, (wipeM ms own).length = ms.length
  | [] => rfl
  | v :: vs => by unfold wipeM; rw [List.length_set, wipeM_len ms vs]
theorem wipeM_in {ms : MEnv} : ∀ {own : List Nat} {v : Nat}, v ∈ own → v < ms.length → (wipeM ms own)[v]? = some none
  | w :: ws, v, h, hl => by
    unfold wipeM
    by_cases e : w = v
    · subst e; exact List.getElem?_set_self (by rw [wipeM_len]; exact hl)
    · rw [List.getElem?_set_ne e]
      rcases List.mem_cons.mp h with z | z
      · exact absurd z.symm e
      · exact wipeM_in z hl
theorem wipe_same : ∀ (own : List Nat) {σ τ : L2.St}, τ.length = σ.length → (∀ j, j ∉ own → τ[j]? = σ[j]?) → wipe τ own = wipe σ own := by
  intro own σ τ hl h
  have at_ : ∀ (own : List Nat) (σ : L2.St) (j : Nat), (wipe σ own)[j]? = if j ∈ own ∧ j < σ.length then some none else σ[j]? := by
    intro own
    induction own with
    | nil => intro σ j; rw [if_neg (by simp)]; rfl
    | cons w ws ih =>
      intro σ j
      unfold wipe
      by_cases e : w = j
      · subst e
        by_cases hj : w < σ.length
        · rw [List.getElem?_set_self (by rw [wipe_length]; exact hj), if_pos ⟨List.mem_cons_self, hj⟩]
        · rw [if_neg fun z => hj z.2, List.getElem?_eq_none (by rw [List.length_set, wipe_length]; omega), List.getElem?_eq_none (by omega)]
      · rw [List.getElem?_set_ne e, ih]
        by_cases hj : j ∈ ws ∧ j < σ.length
        · rw [if_pos hj, if_pos ⟨List.mem_cons_of_mem _ hj.1, hj.2⟩]
        · rw [if_neg hj, if_neg fun z => hj ⟨(List.mem_cons.mp z.1).elim (fun y => absurd y.symm e) id, z.2⟩]
  apply List.ext_getElem?
  intro j
  rw [at_, at_, hl]
  by_cases hj : j ∈ own ∧ j < σ.length
  · rw [if_pos hj, if_pos hj]
  · rw [if_neg hj, if_neg hj]
    by_cases hm : j ∈ own
    · have : ¬ j < σ.length := fun z => hj ⟨hm, z⟩
      rw [List.getElem?_eq_none (by omega), List.getElem?_eq_none (by omega)]
    · exact h j hm
/-- forget them, in the slots and at the values -/
theorem OwnS.wipe {F H : Hp} : ∀ (own : List Nat) {ms : MEnv} {τ : L2.St} {L : List Addr}, OwnS K F H ms τ L → ∃ L', OwnS K F H (wipeM ms own) (wipe τ own) L' ∧ (∀ a ∈ L', a ∈ L) ∧ (L.Nodup → L'.Nodup)
  | [], ms, τ, L, h => ⟨L, h, fun _ z => z, fun z => z⟩
  | v :: vs, ms, τ, L, h => by
    obtain ⟨L1, h1, h2, h3⟩ := OwnS.wipe vs h
    obtain ⟨L2, g1, g2, g3⟩ := h1.drop v
    refine ⟨L2, ?_, fun a ha => h2 a (g2 a ha), fun n => g3 (h3 n)⟩
    unfold wipeM _root_.L2.wipe
    by_cases hv : v < (wipeM ms vs).length
    · exact g1.hole none (List.getElem?_set_self hv)
    · have e : (_root_.L2.wipe τ vs).set v none = _root_.L2.wipe τ vs := List.set_eq_of_length_le (by rw [← h1.len]; omega)
      rw [e]; exact g1
theorem Rel.wipe {F H : Hp} {ms : MEnv} {L : List Addr} (own : List Nat) (R : Rel K F H ms τ L) : ∃ L', Rel K F H (wipeM ms own) (wipe τ own) L' ∧ ∀ a ∈ L', a ∈ L := by
  obtain ⟨L', h1, h2, h3⟩ := R.own.wipe own
  exact ⟨L', ⟨h1, h3 R.nd, R.sub, fun a ha => R.dis a (h2 a ha)⟩, h2⟩
/-- behind the block: what stood in them -/
theorem OwnS.back {F0 H0 F H : Hp} {ms1 : MEnv} {L1 : List Addr} (h1 : OwnS K F0 H0 ms1 σ L1) (hs : Sub F0 F) : ∀ (own : List Nat) {ms2 : MEnv} {τ : L2.St} {L : List Addr}, idle ms1 own = true → OwnS K F H ms2 τ L → ms2.length = ms1.length →
    ∃ L', OwnS K F H (backM ms1 ms2 own) (own.foldr (fun v τ => τ.set v (σ[v]?.getD none)) τ) L' ∧ (∀ a ∈ L', a ∈ L) ∧ (L.Nodup → L'.Nodup) ∧ (backM ms1 ms2 own).length = ms1.length
  | [], ms2, τ, L, _, h, hl => ⟨L, h, fun _ z => z, fun z => z, hl⟩
  | v :: vs, ms2, τ, L, hi, h, hl => by
    unfold idle at hi
    rw [Bool.and_eq_true] at hi
    obtain ⟨L1', f1, f2, f3, f4⟩ := OwnS.back h1 hs vs hi.2 h hl
    obtain ⟨L2, g1, g2, g3⟩ := f1.drop v
    show ∃ L', OwnS K F H ((backM ms1 ms2 vs).set v (ms1[v]?.getD none)) ((vs.foldr (fun v τ => τ.set v (σ[v]?.getD none)) τ).set v (σ[v]?.getD none)) L' ∧ (∀ a ∈ L', a ∈ L) ∧ (L.Nodup → L'.Nodup) ∧ ((backM ms1 ms2 vs).set v (ms1[v]?.getD none)).length = ms1.length
    have hi1 := hi.1
    split at hi1
    · rename_i e
      have hv : v < (backM ms1 ms2 vs).length := by rw [f4]; exact (List.getElem?_eq_some_iff.mp e).1
      rw [e]
      exact ⟨L2, g1.hole _ (List.getElem?_set_self hv), fun a ha => f2 a (g2 a ha), fun n => g3 (f3 n), by rw [List.length_set]; exact f4⟩
    · rename_i d e
      have hv : v < (backM ms1 ms2 vs).length := by rw [f4]; exact (List.getElem?_eq_some_iff.mp e).1
      obtain ⟨x, La, Lb, k1, k2, _⟩ := h1.cut e
      rw [e, k1]
      have z : ((backM ms1 ms2 vs).set v none)[v]? = some none := List.getElem?_set_self hv
      have hv2 : v < (vs.foldr (fun v τ => τ.set v (σ[v]?.getD none)) τ).length := by rw [← f1.len]; exact hv
      have r : Own K F H (.val d) x [] := by cases k2 with | val r => exact .val (r.mono hs)
      obtain ⟨L3, p1, p2, p3⟩ := (g1.hole (some x) z).fill z (List.getElem?_set_self hv2) r
      rw [List.set_set] at p1
      have hx : ∀ a ∈ L3, a ∈ L2 := fun a ha => ((p2 a).mp ha).elim (fun y => by cases y) id
      exact ⟨L3, p1, fun a ha => f2 a (g2 a (hx a ha)), fun n => p3 (g3 (f3 n)) List.nodup_nil (fun _ y => by cases y), by rw [List.length_set]; exact f4⟩
    · cases hi1
theorem restore : ∀ (own : List Nat) {σ τ : L2.St}, τ.length = σ.length → (∀ j, j ∉ own → τ[j]? = σ[j]?) → own.foldr (fun v τ => τ.set v (σ[v]?.getD none)) τ = σ := by
  intro own σ τ hl h
  have key : ∀ (own : List Nat) (τ : L2.St), τ.length = σ.length → (own.foldr (fun v τ => τ.set v (σ[v]?.getD none)) τ).length = σ.length ∧ ∀ j, (own.foldr (fun v τ => τ.set v (σ[v]?.getD none)) τ)[j]? = if j ∈ own then σ[j]? else τ[j]? := by
    intro own
    induction own with
    | nil => intro τ hl; exact ⟨hl, fun j => by simp⟩
    | cons w ws ih =>
      intro τ hl
      obtain ⟨i1, i2⟩ := ih τ hl
      refine ⟨by rw [List.foldr_cons, List.length_set]; exact i1, fun j => ?_⟩
      rw [List.foldr_cons]
      by_cases e : w = j
      · subst e
        rw [if_pos List.mem_cons_self]
        by_cases hw : w < σ.length
        · rw [List.getElem?_set_self (by rw [i1]; exact hw), List.getElem?_eq_getElem hw]; rfl
        · rw [List.getElem?_eq_none (by rw [List.length_set, i1]; omega), List.getElem?_eq_none (by omega)]
      · rw [List.getElem?_set_ne e, i2]
        by_cases hj : j ∈ ws
        · rw [if_pos hj, if_pos (List.mem_cons_of_mem _ hj)]
        · rw [if_neg hj, if_neg fun z => (List.mem_cons.mp z).elim (fun y => e y.symm) hj]
  obtain ⟨_, k2⟩ := key own τ hl
  apply List.ext_getElem?
  intro j
  rw [k2]
  by_cases hj : j ∈ own
  · rw [if_pos hj]
  · rw [if_neg hj]; exact h j hj
theorem wipe_off (own : List Nat) {σ : L2.St} {j : Nat} (h : j ∉ own) : (wipe σ own)[j]? = σ[j]? := by
  induction own with
  | nil => rfl
  | cons w ws ih =>
    unfold wipe
    rw [List.getElem?_set_ne fun e => h (by rw [e]; exact List.mem_cons_self)]
    exact ih fun z => h (List.mem_cons_of_mem _ z)

/-! ### the turns -/
def tC (K : PySem.W.Frag) (Φ : Funs) : Option IE → TT
  | none => tYes
  | some e => tT K (evE Φ e)
theorem tC_go {cond : Option IE} {F H : Hp} {L : List Addr} {ms ms' : MEnv} {b : Bool} {Q : Bool → Hp → Prop} (R : Rel K F H ms τ L) (e : evC Φ cond ms = some (b, ms')) (k : ∀ F' H' L', Rel K F' H' ms' τ L' → Ext F H L F' H' L' → Q b H') : tC K Φ cond τ H Q := by
  cases cond with
  | none => unfold evC at e; cases e; exact k F H L R (Ext.refl _ _ _)
  | some a =>
    unfold evC at e
    obtain ⟨⟨v, ms1⟩, e1, e2⟩ := bindSome e
    obtain ⟨b', e3, e4⟩ := mapSome e2
    cases e4
    exact tT.from R (Ext.refl _ _ _) e1 e3 k
/-- where a comprehension stands at turn i: D the new list -/
structure At (K : PySem.W.Frag) (F1 H1 : Hp) (L1 : List Addr) (τ : L2.St) (D : Addr) (F H : Hp) (L : List Addr) (ms : MEnv) (acc : List MV) (xs : List V) (M : List Addr) : Prop where
  sub : Sub F1 F
  rel : Rel K F H ms τ L
  at_ : H D = some (.lst xs)
  res : OwnAll K F H acc xs M
  nd : M.Nodup
  dM : D ∉ M
  dL : D ∉ L
  dF : F D = none
  dis : ∀ a ∈ M, F a = none ∧ a ∉ L
  ext : Ext F1 H1 L1 F H (L ++ D :: M)
/-- the block goes on from there; the new list and what it holds stand beside -/
theorem At.step {F1 H1 F H F' H' : Hp} {L1 L L' M : List Addr} {D : Addr} {ms ms' : MEnv} {τ τ' : L2.St} {acc : List MV} {xs : List V} (a : At K F1 H1 L1 τ D F H L ms acc xs M) (R : Rel K F' H' ms' τ' L') (E : Ext F H L F' H' L') : At K F1 H1 L1 τ' D F' H' L' ms' acc xs M := by
  have mL : ∀ x ∈ M, x ∉ L := fun x hx => (a.dis x hx).2
  have off : ∀ x ∈ M, x ∉ L' := fun x hx => by
    obtain ⟨o, e⟩ := a.res.there x hx
    exact E.off x o e (mL x hx)
  refine ⟨a.sub.trans E.fr, R, E.keep D _ a.at_ a.dL, E.ownAll a.res mL, a.nd, a.dM, E.off D _ a.at_ a.dL, (E.same D _ a.at_ a.dL).trans a.dF, fun x hx => ⟨?_, off x hx⟩, a.ext.trans ?_⟩
  · obtain ⟨o, e⟩ := a.res.there x hx
    exact (E.same x o e (mL x hx)).trans (a.dis x hx).1
  · refine E.mem (L2 := L ++ D :: M) (L2' := L' ++ D :: M) (fun x hx => List.mem_append_left _ hx) fun x o e n z => ?_
    rcases List.mem_append.mp z with z | z
    · exact E.off x o e (fun y => n (List.mem_append_left _ y)) z
    · exact n (List.mem_append_right _ z)
/-- an item more -/
theorem At.more {F1 H1 F H F' H' : Hp} {L1 L L' M M' : List Addr} {D : Addr} {ms ms' : MEnv} {τ : L2.St} {acc : List MV} {xs : List V} {m : MV} {y : V} (a : At K F1 H1 L1 τ D F H L ms acc xs M) (g : Got K F H L F' H' L' ms' τ [m] [y] M') :
    H' D = some (.lst xs) ∧ At K F1 H1 L1 τ D F' (upd H' D (.lst (xs ++ [y]))) L' ms' (acc ++ [m]) (xs ++ [y]) (M ++ M') := by
  have b := a.step g.rel g.ext0
  have r := g.res.fst
  have dM' : D ∉ M' := fun z => g.ext.off D _ a.at_ a.dL (List.mem_append_right _ z)
  have mm : ∀ x ∈ M, x ∉ M' := fun x hx z => by
    obtain ⟨o, e⟩ := a.res.there x hx
    exact g.ext.off x o e (a.dis x hx).2 (List.mem_append_right _ z)
  have nfr : ∀ {x : Addr}, F' x = none ∨ x ≠ D → True := fun _ => trivial
  have all : OwnAll K F' H' (acc ++ [m]) (xs ++ [y]) (M ++ M') := b.res.app (.one r)
  refine ⟨b.at_, b.sub, ⟨b.rel.own.keep (Sub.refl _) fun x hx => upd_ne fun z => b.dL (z ▸ hx), b.rel.nd, b.rel.sub.updR b.dF, b.rel.dis⟩, upd_same, all.keep (Sub.refl _) fun x hx => upd_ne fun z => ?_, ?_, fun z => ?_, b.dL, b.dF, fun x hx => ?_, ?_⟩
  · rcases List.mem_append.mp hx with hx | hx
    · exact b.dM (z ▸ hx)
    · exact dM' (z ▸ hx)
  · exact List.nodup_append.mpr ⟨b.nd, g.nd, fun x hx w hw z => mm x hx (z ▸ hw)⟩
  · rcases List.mem_append.mp z with z | z
    · exact b.dM z
    · exact dM' z
  · rcases List.mem_append.mp hx with hx | hx
    · exact b.dis x hx
    · exact g.dis x hx
  · have e1 : Ext F1 H1 L1 F' H' (L' ++ D :: (M ++ M')) := by
      refine (a.ext.trans (g.ext.mem (L2 := L ++ D :: M) (L2' := L' ++ D :: (M ++ M')) (fun x hx => List.mem_append_left _ hx) fun x o e n z => ?_))
      rcases List.mem_append.mp z with z | z
      · exact g.ext.off x o e (fun w => n (List.mem_append_left _ w)) (List.mem_append_left _ z)
      · rcases List.mem_cons.mp z with z | z
        · exact n (List.mem_append_right _ (by rw [z]; exact List.mem_cons_self))
        · rcases List.mem_append.mp z with z | z
          · exact n (List.mem_append_right _ (List.mem_cons_of_mem _ z))
          · exact g.ext.off x o e (fun w => n (List.mem_append_left _ w)) (List.mem_append_right _ z)
    exact ⟨e1.fr, fun x o e n => by
      rw [upd_ne fun z => e1.off x o e n (List.mem_append_right _ (by rw [z]; exact List.mem_cons_self))]
      exact e1.keep x o e n, e1.off, e1.same⟩
theorem comp_go {ow : Bool} {own : List Nat} {tg : NT} {it : II} {cond : Option IE} {elt : IE} {H : Hp} {Q : VK} (hsl : ∀ i ∈ tg.slots, i ∈ own) (q : tE K (evE Φ (.comp ow own tg it cond elt)) σ H Q) :
    tLc (tI K (evI Φ it)) (gNT K tg) (tC K Φ cond) (tE K (evE Φ elt)) own σ H Q := by
  obtain ⟨F, L, ms, m, ms', R, e, k⟩ := q
  unfold evE at e
  obtain ⟨⟨ds, ms1⟩, e1, e2⟩ := bindSome e
  have e2 : (if idle ms1 own = true then (compL (tg.put) (fun ms => evC Φ cond ms) (fun ms => evE Φ elt ms) own ds (wipeM ms1 own) []).bind fun (rs, ms2) =>
        if ow = true then some (MV.lst rs, backM ms1 ms2 own) else (frzAll rs).map fun es => (MV.ls es, backM ms1 ms2 own) else none) = some (m, ms') := e2
  split at e2
  case isFalse => cases e2
  rename_i hidle
  obtain ⟨⟨rs, ms2⟩, e3, e4⟩ := bindSome e2
  refine ⟨F, L, ms, ds, ms1, R, e1, fun J F1 H1 L1 wk R1 E1 D hD => ?_⟩
  obtain ⟨Lw, Rw, hw⟩ := R1.wipe own
  let W : Nat → Nat → Hp → Prop := fun i n H => n = ds.length - i ∧ i ≤ ds.length ∧ ∃ F L ms acc xs M, At K F1 H1 L1 (wipe σ own) D F H L ms acc xs M ∧ ms.length = ms1.length ∧ compL (tg.put) (fun ms => evC Φ cond ms) (fun ms => evE Φ elt ms) own (ds.drop i) ms acc = some (rs, ms2)
  have dF1 : F1 D = none := R1.sub.off hD
  have start : At K F1 H1 L1 (wipe σ own) D F1 (upd H1 D (.lst [])) Lw (wipeM ms1 own) [] [] [] := by
    refine ⟨Sub.refl _, Rw.newO hD, upd_same, .nil, List.nodup_nil, (fun z => by cases z), fun z => R1.fresh hD (hw D z), dF1, (fun _ z => by cases z), ?_⟩
    exact (Ext.newO hD).less fun x hx => (List.mem_append.mp hx).elim (fun z => List.mem_cons_of_mem _ (hw x z)) fun z => by rw [List.mem_singleton.mp z]; exact List.mem_cons_self
  refine ⟨W, ⟨ds.length, by simp, Nat.zero_le _, F1, Lw, wipeM ms1 own, [], [], [], start, wipeM_len _ _, by rw [List.drop_zero]; exact e3⟩, ?_⟩
  rintro i n Hi ⟨hn, hi, Fi, Li, msi, acc, xs, M, a, hml, ec⟩
  by_cases hlt : i < ds.length
  · refine .inr ⟨wk.goes i Hi hlt (a.sub.trans a.rel.sub), W (i + 1) (ds.length - (i + 1)), fun H' w => ⟨ds.length - (i + 1), by omega, w⟩, fun x H' y => ?_⟩
    have hd : ds[i]? = some ds[i] := List.getElem?_eq_getElem hlt
    rw [List.drop_eq_getElem_cons hlt] at ec
    unfold compL at ec
    obtain ⟨msA, c1, c2⟩ := bindSome ec
    obtain ⟨⟨b, msB⟩, c3, c4⟩ := bindSome c2
    -- the item, frozen
    have item : ∃ Fa, At K F1 H1 L1 (wipe σ own) D Fa H' Li msi acc xs M ∧ Dt Fa ds[i] x := by
      rcases wk.yields i Hi x H' _ hd (a.sub.trans a.rel.sub) y with ⟨h1, h2⟩ | ⟨T, oo, es, vs, h1, h2, h3, h4, wo, h5⟩
      · subst h1
        exact ⟨Fi, a, h2.mono a.sub⟩
      · subst h2 h4
        refine ⟨upd Fi T (.frz oo (.tup vs)), a.step (a.rel.newF h3) (Ext.newF a.rel.sub h3), ?_⟩
        rw [h1]
        exact .tup (TupK.same wo) (h5.mono (a.sub.trans (Sub.new (a.rel.sub.off h3))))
    obtain ⟨Fa, a1, dt⟩ := item
    refine nt_put tg a1.rel dt c1 fun τ' LA RA hLA hs hl => ?_
    have hsame : wipe τ' own = wipe σ own := by
      have z := wipe_same own (τ := τ') (σ := wipe σ own) hl fun j hj => hs j fun z => hj (hsl j z)
      rw [z]
      exact wipe_same own (by rw [wipe_length]) fun j hj => wipe_off own hj
    refine ⟨hsame, ?_⟩
    have a2 := a1.step RA ((Ext.refl Fa H' Li).less hLA)
    refine tC_go RA c3 fun FB HB LB RB EB => ?_
    have a3 := a2.step RB EB
    -- the block's own slots forgotten again
    have again : ∀ {F H : Hp} {L : List Addr} {ms : MEnv} {acc : List MV} {xs : List V} {M : List Addr}, At K F1 H1 L1 τ' D F H L ms acc xs M → ∃ L', At K F1 H1 L1 (wipe σ own) D F H L' (wipeM ms own) acc xs M := fun {F H L ms acc xs M} z => by
      obtain ⟨L', w1, w2⟩ := z.rel.wipe own
      rw [hsame] at w1
      exact ⟨L', z.step w1 ((Ext.refl F H L).less w2)⟩
    have hmB : msB.length = ms1.length := by
      rw [RB.own.len, hl, wipe_length, ← R1.own.len]
    cases b with
    | true =>
      have c4 : ((evE Φ elt msB).bind fun (m, ms3) => if acc.length < lim then compL (tg.put) (fun ms => evC Φ cond ms) (fun ms => evE Φ elt ms) own (ds.drop (i + 1)) (wipeM ms3 own) (acc ++ [m]) else none) = some (rs, ms2) := c4
      obtain ⟨⟨mv, msC⟩, c5, c6⟩ := bindSome c4
      have c6 : (if acc.length < lim then compL (tg.put) (fun ms => evC Φ cond ms) (fun ms => evE Φ elt ms) own (ds.drop (i + 1)) (wipeM msC own) (acc ++ [mv]) else none) = some (rs, ms2) := c6
      split at c6
      case isFalse => cases c6
      rename_i hal
      rw [if_pos rfl]
      refine tE.go RB c5 fun yv FC HC LC MC g => ?_
      obtain ⟨atD, a4⟩ := a3.more g
      obtain ⟨L', a5⟩ := again a4
      refine ⟨xs, atD, by rw [← a3.res.len]; exact lim_lt hal, rfl, hlt, FC, L', _, _, _, _, a5, ?_, c6⟩
      rw [wipeM_len, g.rel.own.len, hl, wipe_length, ← R1.own.len]
    | false =>
      have c4 : compL (tg.put) (fun ms => evC Φ cond ms) (fun ms => evE Φ elt ms) own (ds.drop (i + 1)) (wipeM msB own) acc = some (rs, ms2) := c4
      rw [if_neg (by decide)]
      obtain ⟨L', a5⟩ := again a3
      exact ⟨rfl, hlt, FB, L', _, _, _, _, a5, by rw [wipeM_len]; exact hmB, c4⟩
  · have ei : i = ds.length := by omega
    subst ei
    refine .inl ⟨wk.stops Hi (a.sub.trans a.rel.sub), ?_⟩
    rw [List.drop_length] at ec
    unfold compL at ec
    cases ec
    obtain ⟨Lb, b1, b2, b3, b4⟩ := R1.own.back a.sub own hidle a.rel.own hml
    rw [restore own (wipe_length _ _) fun j hj => wipe_off own hj] at b1
    have Rb : Rel K Fi Hi (backM ms1 ms2 own) σ Lb := ⟨b1, b3 a.rel.nd, a.rel.sub, fun x hx => a.rel.dis x (b2 x hx)⟩
    cases ow with
    | true =>
      have e4 : some (MV.lst rs, backM ms1 ms2 own) = some (m, ms') := e4
      cases e4
      refine k _ Fi Hi Lb (D :: M) ⟨Rb, .one (.lst a.at_ a.res), List.nodup_cons.mpr ⟨a.dM, a.nd⟩, fun x hx => ?_, E1.trans (a.ext.less fun x hx => ?_)⟩
      · rcases List.mem_cons.mp hx with rfl | hx
        · exact ⟨a.dF, fun z => a.dL (b2 _ z)⟩
        · exact ⟨(a.dis x hx).1, fun z => (a.dis x hx).2 (b2 x z)⟩
      · rcases List.mem_append.mp hx with hx | hx
        · exact List.mem_append_left _ (b2 x hx)
        · exact List.mem_append_right _ hx
    | false =>
      have e4 : ((frzAll rs).map fun es => (MV.ls es, backM ms1 ms2 own)) = some (m, ms') := e4
      obtain ⟨es, f1, f2⟩ := mapSome e4
      cases f2
      have hd : ∀ x ∈ M, Fi x = none := fun x hx => (a.dis x hx).1
      have Rf : Rel K (addF Fi Hi M) Hi (backM ms1 ms2 own) σ Lb := Rb.frz hd fun x hx z => (a.dis x z).2 (b2 x hx)
      have dt : DtAll (addF Fi Hi M) es xs := a.res.frz a.rel.sub f1 (addF_sub hd) fun x hx => addF_in hx
      refine k _ (addF Fi Hi M) Hi Lb [D] ⟨Rf, .one (.ls a.at_ dt), (by simp), fun x hx => ?_, E1.trans ?_⟩
      · rw [List.mem_singleton.mp hx]
        exact ⟨(addF_out a.dM).trans a.dF, fun z => a.dL (b2 _ z)⟩
      · have z : Ext F1 H1 L1 (addF Fi Hi M) Hi (Li ++ [D]) := by
          refine a.ext.trans ((Ext.addF (L := Li ++ [D]) hd).mem (L2 := Li ++ D :: M) (L2' := Li ++ [D]) (fun x hx => ?_) fun x o _ n z => n ?_)
          · rcases List.mem_append.mp hx with hx | hx
            · rcases List.mem_append.mp hx with hx | hx
              · exact List.mem_append_left _ hx
              · rw [List.mem_singleton.mp hx]; exact List.mem_append_right _ List.mem_cons_self
            · exact List.mem_append_right _ (List.mem_cons_of_mem _ hx)
          · rcases List.mem_append.mp z with z | z
            · exact List.mem_append_left _ z
            · rw [List.mem_singleton.mp z]; exact List.mem_append_right _ List.mem_cons_self
        exact z.less fun x hx => (List.mem_append.mp hx).elim (fun y => List.mem_append_left _ (b2 x y)) (List.mem_append_right _)
end
end Rx
/-! Rx, part 11: things of one's own, stored and changed; targets. -/
namespace Rx
open PySem PySem.Spec L2 PyProof.Rows
section
variable {Φ : Funs} {c : Cfg} {X : Cx} {K : PySem.W.Frag} {σ τ : L2.St}

/-! ### storing -/
/-- a thing that stands beside goes into a slot -/
theorem Rel.store {F H : Hp} {ms : MEnv} {L M : List Addr} {i : Nat} {m : MV} {x : V} (R : Rel K F H ms τ L) (r : Own K F H m x M) (nd : M.Nodup) (dis : ∀ a ∈ M, F a = none ∧ a ∉ L) (hi : i < ms.length) :
    ∃ L', Rel K F H (ms.set i (some m)) (τ.set i (some x)) L' ∧ (∀ a ∈ L', a ∈ L ++ M) := by
  obtain ⟨L2, f1, f2, f3⟩ := R.own.drop i
  have z : (ms.set i none)[i]? = some none := List.getElem?_set_self hi
  have f4 := f1.hole (some x) z
  have hl : i < τ.length := by rw [← R.own.len]; exact hi
  obtain ⟨L3, g1, g2, g3⟩ := f4.fill (m := m) z (List.getElem?_set_self hl) r
  rw [List.set_set] at g1
  have hx : ∀ a ∈ L3, a ∈ L ++ M := fun a ha => ((g2 a).mp ha).elim (fun z => List.mem_append_right _ z) fun z => List.mem_append_left _ (f2 a z)
  refine ⟨L3, ⟨g1, g3 (f3 R.nd) nd (fun a ha z => (dis a ha).2 (f2 a z)), R.sub, fun a ha => ?_⟩, hx⟩
  rcases (g2 a).mp ha with z | z
  · exact (dis a z).1
  · exact R.dis a (f2 a z)
/-- what stands in a slot changed; M goes in -/
theorem Rel.chg {F H : Hp} {ms : MEnv} {L M : List Addr} {i : Nat} {o : MV} (R : Rel K F H ms σ L) (e : ms[i]? = some (some o)) (nd : M.Nodup) (dis : ∀ a ∈ M, F a = none ∧ a ∉ L) :
    ∃ v La, σ[i]? = some (some v) ∧ Own K F H o v La ∧ La.Nodup ∧ (∀ a ∈ La, F a = none ∧ a ∉ M) ∧ ∀ {H' : Hp} {o' : MV} {La' : List Addr}, Own K F H' o' v La' → La'.Nodup → (∀ a ∈ La', a ∈ La ∨ a ∈ M) → (∀ a, a ∉ La → H' a = H a) →
      ∃ L', Rel K F H' (ms.set i (some o')) σ L' ∧ Ext F H (L ++ M) F H' L' := by
  obtain ⟨v, La, Lb, h1, h2, h3, h4, h5⟩ := R.own.cut e
  obtain ⟨n1, n2, n3⟩ := h5 R.nd
  refine ⟨v, La, h1, h2, n1, fun a ha => ⟨R.dis a ((h4 a).mpr (.inl ha)), fun z => (dis a z).2 ((h4 a).mpr (.inl ha))⟩, fun {H' o' La'} w nw hw hk => ?_⟩
  have hl : i < ms.length := (List.getElem?_eq_some_iff.mp e).1
  have k3 : OwnS K F H' (ms.set i none) σ Lb := h3.keep (Sub.refl _) fun a ha => hk a fun z => n3 a z ha
  obtain ⟨L', g1, g2, g3⟩ := k3.fill (m := o') (List.getElem?_set_self hl) h1 w
  rw [List.set_set] at g1
  have inL : ∀ a ∈ L', a ∈ L ++ M := fun a ha => by
    rcases (g2 a).mp ha with z | z
    · rcases hw a z with z | z
      · exact List.mem_append_left _ ((h4 a).mpr (.inl z))
      · exact List.mem_append_right _ z
    · exact List.mem_append_left _ ((h4 a).mpr (.inr z))
  have dF : ∀ a ∈ L', F a = none := fun a ha => by
    rcases List.mem_append.mp (inL a ha) with z | z
    · exact R.dis a z
    · exact (dis a z).1
  refine ⟨L', ⟨g1, g3 n2 nw (fun a ha z => ?_), fun a u q => ?_, dF⟩, Sub.refl _, fun a u q n => ?_, fun a u q n z => n (inL a z), fun _ _ _ _ => rfl⟩
  · rcases hw a ha with y | y
    · exact n3 a y z
    · exact (dis a y).2 ((h4 a).mpr (.inr z))
  · rw [hk a fun z => by rw [R.dis a ((h4 a).mpr (.inl z))] at q; cases q]
    exact R.sub a u q
  · rw [hk a fun z => n (List.mem_append_left _ ((h4 a).mpr (.inl z)))]
    exact q
/-- one of several things apart, and the others with another in its place -/
theorem OwnAll.kid {F H : Hp} : ∀ {ms : List MV} {vs : List V} {L : List Addr} {j : Nat} {c : MV}, OwnAll K F H ms vs L → ms[j]? = some c → L.Nodup →
    ∃ v Lj, vs[j]? = some v ∧ Own K F H c v Lj ∧ Lj.Nodup ∧ (∀ a ∈ Lj, a ∈ L) ∧ ∀ {H' : Hp} {c' : MV} {v' : V} {Lj' M : List Addr}, (∀ a ∈ L, a ∉ Lj → H' a = H a) → Own K F H' c' v' Lj' → Lj'.Nodup → (∀ a ∈ Lj', a ∈ Lj ∨ a ∈ M) → (∀ a ∈ M, a ∉ L) →
      ∃ L', OwnAll K F H' (ms.set j c') (vs.set j v') L' ∧ L'.Nodup ∧ ∀ a ∈ L', a ∈ L ∨ a ∈ M
  | _, _, _, _, _, .nil, e, _ => by simp at e
  | _, _, _, 0, c, @OwnAll.cons _ _ _ m ms v vs L1 L2 r t, e, nd => by
    simp at e; subst e
    obtain ⟨n1, n2, n3⟩ := List.nodup_append.mp nd
    refine ⟨v, L1, rfl, r, n1, fun a ha => List.mem_append_left _ ha, fun {H' c' v' Lj' M} hk w nw hw hM => ⟨Lj' ++ L2, .cons w (t.keep (Sub.refl _) fun a ha => hk a (List.mem_append_right _ ha) fun z => n3 a z a ha rfl), ?_, fun a ha => ?_⟩⟩
    · refine List.nodup_append.mpr ⟨nw, n2, fun a ha b hb z => ?_⟩
      subst z
      rcases hw a ha with y | y
      · exact n3 a y a hb rfl
      · exact hM a y (List.mem_append_right _ hb)
    · rcases List.mem_append.mp ha with z | z
      · exact (hw a z).imp (List.mem_append_left _) id
      · exact .inl (List.mem_append_right _ z)
  | _, _, _, j + 1, c, @OwnAll.cons _ _ _ m ms v vs L1 L2 r t, e, nd => by
    obtain ⟨n1, n2, n3⟩ := List.nodup_append.mp nd
    obtain ⟨u, Lj, h1, h2, h3, h4, h5⟩ := OwnAll.kid (j := j) (c := c) t (by simpa using e) n2
    refine ⟨u, Lj, by simpa using h1, h2, h3, fun a ha => List.mem_append_right _ (h4 a ha), fun {H' c' v' Lj' M} hk w nw hw hM => ?_⟩
    obtain ⟨L', g1, g2, g3⟩ := h5 (fun a ha n => hk a (List.mem_append_right _ ha) n) w nw hw fun a ha z => hM a ha (List.mem_append_right _ z)
    refine ⟨L1 ++ L', .cons (r.keep (Sub.refl _) fun a ha => hk a (List.mem_append_left _ ha) fun z => n3 a ha a (h4 a z) rfl) g1, ?_, fun a ha => ?_⟩
    · refine List.nodup_append.mpr ⟨n1, g2, fun a ha b hb z => ?_⟩
      subst z
      rcases g3 a hb with y | y
      · exact n3 a ha a y rfl
      · exact hM a y (List.mem_append_left _ ha)
    · rcases List.mem_append.mp ha with z | z
      · exact .inl (List.mem_append_left _ z)
      · exact (g3 a z).imp (List.mem_append_right _) id
/-- one more at the end -/
theorem OwnAll.more {F H : Hp} {ms : List MV} {vs : List V} {L M : List Addr} {m : MV} {v : V} (h : OwnAll K F H ms vs L) (r : Own K F H m v M) : OwnAll K F H (ms ++ [m]) (vs ++ [v]) (L ++ M) := h.app (.one r)

/-! ### dicts' places -/
theorem findK_lt : ∀ {ks : List Key} {q : Key} {j : Nat}, findK ks q = some j → j < ks.length ∧ ks[j]? = some q
  | [], _, _, e => by unfold findK at e; cases e
  | x :: xs, q, j, e => by
    unfold findK at e
    split at e
    · rename_i h
      cases e
      exact ⟨by simp, by simp [of_decide_eq_true h]⟩
    · obtain ⟨i, e1, e2⟩ := mapSome e
      subst e2
      obtain ⟨a, b⟩ := findK_lt e1
      exact ⟨by simp; omega, by simpa using b⟩
theorem findK_val : ∀ {ks : List Key} {vs : List V} {q : Key} {j : Nat} {v : V}, ks.length = vs.length → findK ks q = some j → vs[j]? = some v → valV (ks.zip vs) q = some v
  | [], _, _, _, _, _, e, _ => by unfold findK at e; cases e
  | x :: xs, [], _, _, _, h, _, _ => by simp at h
  | x :: xs, v0 :: vs, q, j, v, h, e, hv => by
    unfold findK at e
    rw [List.zip_cons_cons]
    split at e
    · rename_i hq
      cases e
      rw [valV_pos (of_decide_eq_true hq)]
      exact hv
    · rename_i hq
      obtain ⟨i, e1, e2⟩ := mapSome e
      subst e2
      rw [valV_neg fun z => hq (decide_eq_true z)]
      exact findK_val (by simpa using h) e1 (by simpa using hv)
theorem findK_none : ∀ {ks : List Key} {q : Key}, findK ks q = none → ∀ x ∈ ks, x ≠ q
  | [], _, _, x, hx => by cases hx
  | y :: ys, q, e, x, hx => by
    unfold findK at e
    split at e
    · cases e
    · rename_i hq
      rcases List.mem_cons.mp hx with rfl | hx
      · exact fun z => hq (decide_eq_true z)
      · exact findK_none (by simpa using e) x hx
theorem putK_zip_new {ks : List Key} {vs : List V} {q : Key} {v : V} (h : ks.length = vs.length) (e : findK ks q = none) : putK (ks.zip vs) q v = (ks ++ [q]).zip (vs ++ [v]) := by
  have hn := findK_none e
  unfold putK
  rw [if_neg]
  · rw [List.zip_append h]; rfl
  · intro z
    obtain ⟨kv, h1, h2⟩ := List.any_eq_true.mp z
    exact hn kv.1 (List.of_mem_zip h1).1 (of_decide_eq_true h2)
theorem putK_map : ∀ {ks : List Key} {vs : List V} {q : Key} {v : V} {j : Nat}, ks.Nodup → ks.length = vs.length → findK ks q = some j → ((ks.zip vs).map fun kv => if kv.1 = q then (kv.1, v) else kv) = ks.zip (vs.set j v)
  | [], _, _, _, _, _, _, e => by unfold findK at e; cases e
  | x :: xs, [], _, _, _, _, h, _ => by simp at h
  | x :: xs, v0 :: vs, q, v, j, nd, h, e => by
    obtain ⟨n1, n2⟩ := List.nodup_cons.mp nd
    unfold findK at e
    rw [List.zip_cons_cons, List.map_cons]
    split at e
    · rename_i hq
      cases e
      have hq := of_decide_eq_true hq
      subst hq
      rw [if_pos rfl, List.set_cons_zero, List.zip_cons_cons]
      congr 1
      have : ∀ kv ∈ xs.zip vs, (if kv.1 = x then (kv.1, v) else kv) = kv := fun kv hkv => if_neg fun z : kv.1 = x => n1 (by rw [← z]; exact (List.of_mem_zip hkv).1)
      rw [List.map_congr_left this, List.map_id']
    · rename_i hq
      obtain ⟨i, e1, e2⟩ := mapSome e
      subst e2
      rw [if_neg fun z => hq (decide_eq_true z), List.set_cons_succ, List.zip_cons_cons, putK_map n2 (by simpa using h) e1]
theorem putK_zip_old {ks : List Key} {vs : List V} {q : Key} {v : V} {j : Nat} (nd : ks.Nodup) (h : ks.length = vs.length) (e : findK ks q = some j) : putK (ks.zip vs) q v = ks.zip (vs.set j v) := by
  unfold putK
  rw [if_pos, putK_map nd h e]
  obtain ⟨h1, h2⟩ := findK_lt e
  refine List.any_eq_true.mpr ⟨(q, vs[j]'(by omega)), ?_, by simp⟩
  refine List.mem_iff_getElem?.mpr ⟨j, ?_⟩
  rw [List.getElem?_zip_eq_some]
  exact ⟨h2, by simp⟩
end
end Rx
/-! Rx, part 12: targets. -/
namespace Rx
open PySem PySem.Spec L2 PyProof.Rows
section
variable {Φ : Funs} {c : Cfg} {X : Cx} {K : PySem.W.Frag} {σ τ : L2.St} {prot : List Nat}

/-- the slots that are given back stay -/
def Keep (prot : List Nat) (σ σ' : L2.St) : Prop := σ'.length = σ.length ∧ ∀ j ∈ prot, σ'[j]? = σ[j]?
theorem Keep.refl (prot : List Nat) (σ : L2.St) : Keep prot σ σ := ⟨rfl, fun _ _ => rfl⟩
theorem Keep.trans {σ1 σ2 σ3 : L2.St} (a : Keep prot σ1 σ2) (b : Keep prot σ2 σ3) : Keep prot σ1 σ3 := ⟨b.1.trans a.1, fun j h => (b.2 j h).trans (a.2 j h)⟩
theorem Keep.set {i : Nat} (x : Option V) (h : i ∉ prot) : Keep prot σ (σ.set i x) := ⟨List.length_set .., fun j hj => List.getElem?_set_ne fun z => h (by rw [z]; exact hj)⟩
theorem Keep.names {t : NT} {σ' : L2.St} (h : ∀ j, j ∉ t.slots → σ'[j]? = σ[j]?) (hl : σ'.length = σ.length) (hp : ∀ j ∈ prot, j ∉ t.slots) : Keep prot σ σ' := ⟨hl, fun j hj => h j (hp j hj)⟩

theorem kV_of {d : PyData} {q : Key} {v : V} {F : Hp} (h : keyOf d = some q) (r : Dt F d v) : v = kV q := by
  cases d <;> first | (unfold keyOf at h; cases h; done) | skip
  · unfold keyOf at h; cases h; cases r; rfl
  · unfold keyOf at h; cases h; cases r; rfl
theorem idx_of {n : Nat} {d : PyData} {j : Nat} {v : V} {F : Hp} (h : idxOf n d = some j) (r : Dt F d v) : ∃ k : Int, v = .int k ∧ ixN n k = some j := by
  cases d <;> first | (unfold idxOf at h; cases h; done) | skip
  unfold idxOf at h; cases r; exact ⟨_, rfl, h⟩
theorem ixN_lt {n : Nat} {k : Int} {j : Nat} (h : ixN n k = some j) : j < n := by
  exact (ixN_seq h).2.1
def rSetA : TSet := fun o i v H Q => rSetL o i v H Q ∨ rSetD o i v H Q
theorem set_any (hu : X.A.units + 1 < cLine) : PSet X rSetA := fun pins s σ H o i v ov iv u Q I r1 r2 r3 h => h.elim (set_list pins s σ H o i v ov iv u Q I r1 r2 r3) (set_dict hu pins s σ H o i v ov iv u Q I r1 r2 r3)
theorem upd_off {H : Hp} {a : Addr} {La : List Addr} {o : HO} (h : a ∈ La) : ∀ b, b ∉ La → upd H a o b = H b := fun b hb => upd_ne fun z => hb (z ▸ h)
/-- x[k] = m, by what it does -/
theorem store_ok {F H : Hp} {ms : MEnv} {L M : List Addr} {i : Nat} {o o' m : MV} {kd : PyData} {kv v : V} (R : Rel K F H ms σ L) (e : ms[i]?.join = some o) (es : storeOf kd m o = some o') (rk : Dt F kd kv) (r : Own K F H m v M) (nd : M.Nodup) (dis : ∀ a ∈ M, F a = none ∧ a ∉ L) :
    ∃ ov, σ[i]? = some (some ov) ∧ rSetA ov kv v H fun H' => ∃ L', Rel K F H' (ms.set i (some o')) σ L' ∧ Ext F H (L ++ M) F H' L' := by
  obtain ⟨ov, La, h1, h2, h3, h4, h5⟩ := R.chg (joinSome e) nd dis
  refine ⟨ov, h1, ?_⟩
  cases h2 with
  | @ls a ds vs ha rs =>
    cases m with
    | val d =>
      have es : ((idxOf ds.length kd).map fun j => MV.ls (ds.set j d)) = some o' := es
      obtain ⟨j, e1, e2⟩ := mapSome es
      subst e2
      obtain ⟨k, rfl, hj⟩ := idx_of e1 rk
      cases r with
      | val r =>
        refine .inl ⟨a, vs, k, j, rfl, rfl, ha, by rw [← rs.len]; exact hj, ?_⟩
        exact h5 (.ls upd_same (rs.set r j)) h3 (fun a ha => .inl ha) (upd_off (List.mem_singleton.mpr rfl))
    | _ => exact nomatch (show none = some o' from es)
  | @lst a cs vs Lk ha rs =>
    have es : ((idxOf cs.length kd).map fun j => MV.lst (cs.set j m)) = some o' := es
    obtain ⟨j, e1, e2⟩ := mapSome es
    subst e2
    obtain ⟨k, rfl, hj⟩ := idx_of e1 rk
    obtain ⟨n1, n2⟩ := List.nodup_cons.mp h3
    have hjl := ixN_lt hj
    obtain ⟨c0, hc0⟩ : ∃ c0, cs[j]? = some c0 := ⟨cs[j], List.getElem?_eq_getElem hjl⟩
    obtain ⟨u, Lj, g1, g2, g3, g4, g5⟩ := rs.kid hc0 n2
    refine .inl ⟨a, vs, k, j, rfl, rfl, ha, by rw [← rs.len]; exact hj, ?_⟩
    have hk : ∀ b ∈ Lk, b ≠ a := fun b hb z => n1 (z ▸ hb)
    have hMa : ∀ b ∈ M, b ≠ a := fun b hb z => (h4 a List.mem_cons_self).2 (z ▸ hb)
    obtain ⟨L', q1, q2, q3⟩ := g5 (H' := upd H a (.lst (vs.set j v))) (M := M) (fun b hb _ => upd_ne (hk b hb)) (r.keep (Sub.refl _) fun b hb => upd_ne (hMa b hb)) nd (fun b hb => .inr hb) fun b hb z => (h4 b (List.mem_cons_of_mem _ z)).2 hb
    refine h5 (.lst upd_same q1) (List.nodup_cons.mpr ⟨fun z => (q3 a z).elim n1 fun y => hMa a y rfl, q2⟩) (fun b hb => ?_) (upd_off List.mem_cons_self)
    rcases List.mem_cons.mp hb with rfl | hb
    · exact .inl List.mem_cons_self
    · exact (q3 b hb).imp (List.mem_cons_of_mem _) id
  | @dct a ks cs vs Lk ha hl rs =>
    have es : ((keyOf kd).bind fun q => match findK ks q with
      | some j => if ks.Nodup ∧ ks.length < lim then some (MV.dct ks (cs.set j m)) else none
      | none => if ks.length < lim then some (MV.dct (ks ++ [q]) (cs ++ [m])) else none) = some o' := es
    obtain ⟨q, e1, e2⟩ := bindSome es
    cases kV_of e1 rk
    obtain ⟨n1, n2⟩ := List.nodup_cons.mp h3
    have hk : ∀ b ∈ Lk, b ≠ a := fun b hb z => n1 (z ▸ hb)
    have hMa : ∀ b ∈ M, b ≠ a := fun b hb z => (h4 a List.mem_cons_self).2 (z ▸ hb)
    split at e2
    · rename_i j hf
      split at e2
      · rename_i hn
        obtain ⟨ndk, hlt⟩ := hn
        cases e2
        obtain ⟨p1, p2⟩ := findK_lt hf
        have hjl : j < cs.length := by rw [rs.len, ← hl]; exact p1
        obtain ⟨c0, hc0⟩ : ∃ c0, cs[j]? = some c0 := ⟨cs[j], List.getElem?_eq_getElem hjl⟩
        obtain ⟨u, Lj, g1, g2, g3, g4, g5⟩ := rs.kid hc0 n2
        have hz : (ks.zip vs).length < sizeLine := by rw [List.length_zip, ← hl, Nat.min_self]; exact lim_lt hlt
        refine .inr ⟨a, _, rfl, DPut.k ha hz, ?_⟩
        rw [putK_zip_old ndk hl hf]
        obtain ⟨L', q1, q2, q3⟩ := g5 (H' := upd H a (.dK (ks.zip (vs.set j v)))) (M := M) (fun b hb _ => upd_ne (hk b hb)) (r.keep (Sub.refl _) fun b hb => upd_ne (hMa b hb)) nd (fun b hb => .inr hb) fun b hb z => (h4 b (List.mem_cons_of_mem _ z)).2 hb
        refine h5 (.dct upd_same (by rw [List.length_set]; exact hl) q1) (List.nodup_cons.mpr ⟨fun z => (q3 a z).elim n1 fun y => hMa a y rfl, q2⟩) (fun b hb => ?_) (upd_off List.mem_cons_self)
        rcases List.mem_cons.mp hb with rfl | hb
        · exact .inl List.mem_cons_self
        · exact (q3 b hb).imp (List.mem_cons_of_mem _) id
      · cases e2
    · rename_i hf
      split at e2
      · rename_i hlt
        cases e2
        have hz : (ks.zip vs).length < sizeLine := by rw [List.length_zip, ← hl, Nat.min_self]; exact lim_lt hlt
        refine .inr ⟨a, _, rfl, DPut.k ha hz, ?_⟩
        rw [putK_zip_new hl hf]
        have q1 : OwnAll K F (upd H a (.dK ((ks ++ [q]).zip (vs ++ [v])))) (cs ++ [m]) (vs ++ [v]) (Lk ++ M) := OwnAll.more (rs.keep (Sub.refl _) fun b hb => upd_ne (hk b hb)) (r.keep (Sub.refl _) fun b hb => upd_ne (hMa b hb))
        refine h5 (.dct upd_same (by simp [hl]) q1) (List.nodup_cons.mpr ⟨fun z => (List.mem_append.mp z).elim n1 fun y => hMa a y rfl, List.nodup_append.mpr ⟨n2, nd, fun b hb w hw z => (h4 b (List.mem_cons_of_mem _ hb)).2 (z ▸ hw)⟩⟩) (fun b hb => ?_) (upd_off List.mem_cons_self)
        rcases List.mem_cons.mp hb with rfl | hb
        · exact .inl List.mem_cons_self
        · exact (List.mem_append.mp hb).imp (List.mem_cons_of_mem _) id
      · cases e2
  | val _ => exact nomatch (show none = some o' from es)
  | tup _ _ => exact nomatch (show none = some o' from es)
  | scr _ => exact nomatch (show none = some o' from es)
  | rng _ => exact nomatch (show none = some o' from es)
  | dtt _ _ _ => exact nomatch (show none = some o' from es)
  | fdt _ _ _ => exact nomatch (show none = some o' from es)
end
end Rx
/-! Rx, part 13: targets, read. -/
namespace Rx
open PySem PySem.Spec L2 PyProof.Rows
section
variable {Φ : Funs} {c : Cfg} {X : Cx} {K : PySem.W.Frag} {σ τ : L2.St} {prot : List Nat}
def tG (K : PySem.W.Frag) (Φ : Funs) (prot : List Nat) (t : ST) : TG := fun v σ H Q => ∃ F L ms m M ms', Rel K F H ms σ L ∧ Own K F H m v M ∧ M.Nodup ∧ (∀ a ∈ M, F a = none ∧ a ∉ L) ∧ evT Φ t m ms = some ms' ∧
  ∀ σ' F' H' L', Rel K F' H' ms' σ' L' → Ext F H (L ++ M) F' H' L' → Keep prot σ σ' → Q σ' H'
def tGs (K : PySem.W.Frag) (Φ : Funs) (prot : List Nat) (ts : List ST) : TGs := fun vs σ H Q => ∃ F L ms rs M ms', Rel K F H ms σ L ∧ OwnAll K F H rs vs M ∧ M.Nodup ∧ (∀ a ∈ M, F a = none ∧ a ∉ L) ∧ evTs Φ ts rs ms = some ms' ∧
  ∀ σ' F' H' L', Rel K F' H' ms' σ' L' → Ext F H (L ++ M) F' H' L' → Keep prot σ σ' → Q σ' H'
theorem _root_.L2.PG.of {e : Expr} {t t' : TG} (h : PG X e t) (w : ∀ v σ H Q, t' v σ H Q → t v σ H Q) : PG X e t' := ⟨fun pins s σ H v u Q I r q => h.run pins s σ H v u Q I r (w v σ H Q q)⟩
theorem _root_.L2.PGs.of {e : List Expr} {t t' : TGs} (h : PGs X e t) (w : ∀ v σ H Q, t' v σ H Q → t v σ H Q) : PGs X e t' := ⟨fun pins s σ H v u Q I r q => h.run pins s σ H v u Q I r (w v σ H Q q)⟩
theorem _root_.L2.PG.or {e : Expr} {t t' : TG} (h : PG X e t) (h' : PG X e t') : PG X e (fun v σ H Q => t v σ H Q ∨ t' v σ H Q) := ⟨fun pins s σ H v u Q I r q => q.elim (h.run pins s σ H v u Q I r) (h'.run pins s σ H v u Q I r)⟩
/-- a name -/
theorem pg_nE (G : Good Φ c X) {i : Nat} {x : Str} {pos : Pos} (h : ownB c i x = true) (hp : i ∉ prot) : PG X (.Name x pos) (tG X.K Φ prot (.n i)) := by
  refine (pg_own G h).of fun v σ H Q q => ?_
  obtain ⟨F, L, ms, m, M, ms', R, r, nd, dis, e, k⟩ := q
  unfold evT at e
  unfold setS at e
  split at e
  · rename_i hi
    cases e
    obtain ⟨L', R', hL⟩ := R.store r nd dis hi
    exact k _ F H L' R' ((Ext.refl F H (L ++ M)).less hL) (Keep.set _ hp)
  · cases e
theorem there_ok {ms : MEnv} {i : Nat} {u : Unit} (h : there ms i = some u) {F H : Hp} {L : List Addr} (R : Rel K F H ms σ L) : ∃ m v, ms[i]? = some (some m) ∧ σ[i]? = some (some v) := by
  obtain ⟨m, e, _⟩ := mapSome h
  obtain ⟨v, _, _, h1, _⟩ := R.own.cut (joinSome e)
  exact ⟨m, v, joinSome e, h1⟩
/-- what stands beside goes along -/
theorem Ext.beside {F H F1 H1 : Hp} {L L1 M : List Addr} (E : Ext F H L F1 H1 L1) {m : MV} {v : V} (r : Own K F H m v M) (dis : ∀ a ∈ M, F a = none ∧ a ∉ L) : Own K F1 H1 m v M ∧ (∀ a ∈ M, F1 a = none ∧ a ∉ L1) ∧ Ext F H (L ++ M) F1 H1 (L1 ++ M) := by
  have off : ∀ a ∈ M, a ∉ L1 := fun a ha => by
    obtain ⟨o, e⟩ := r.there a ha
    exact E.off a o e (dis a ha).2
  refine ⟨E.own r fun a ha => (dis a ha).2, fun a ha => ⟨?_, off a ha⟩, ?_⟩
  · obtain ⟨o, e⟩ := r.there a ha
    exact (E.same a o e (dis a ha).2).trans (dis a ha).1
  · refine E.mem (fun a ha => List.mem_append_left _ ha) fun a o e n z => ?_
    rcases List.mem_append.mp z with z | z
    · exact E.off a o e (fun y => n (List.mem_append_left _ y)) z
    · exact n (List.mem_append_right _ z)
theorem Ext.besides {F H F1 H1 : Hp} {L L1 M : List Addr} (E : Ext F H L F1 H1 L1) {m : List MV} {v : List V} (r : OwnAll K F H m v M) (dis : ∀ a ∈ M, F a = none ∧ a ∉ L) : OwnAll K F1 H1 m v M ∧ (∀ a ∈ M, F1 a = none ∧ a ∉ L1) ∧ Ext F H (L ++ M) F1 H1 (L1 ++ M) := by
  have off : ∀ a ∈ M, a ∉ L1 := fun a ha => by
    obtain ⟨o, e⟩ := r.there a ha
    exact E.off a o e (dis a ha).2
  refine ⟨E.ownAll r fun a ha => (dis a ha).2, fun a ha => ⟨?_, off a ha⟩, ?_⟩
  · obtain ⟨o, e⟩ := r.there a ha
    exact (E.same a o e (dis a ha).2).trans (dis a ha).1
  · refine E.mem (fun a ha => List.mem_append_left _ ha) fun a o e n z => ?_
    rcases List.mem_append.mp z with z | z
    · exact E.off a o e (fun y => n (List.mem_append_left _ y)) z
    · exact n (List.mem_append_right _ z)
/-- x[k] -/
theorem pg_subE (G : Good Φ c X) {i : Nat} {x : Str} {p pos : Pos} {k : IE} {ke : Expr} (h : nameB c i x = true) (hk : PE X ke (tE X.K (evE Φ k))) (hs : noSlice ke = true) : PG X (.Subscript (.Name x p) ke pos) (tG X.K Φ prot (.sub i k)) := by
  have hu : X.A.units + 1 < cLine := by have := G.un; omega
  refine (pg_sub (pe_name G h) hk (set_any hu) (by intro v; cases ke <;> first | rfl | cases hs)).of fun v σ H Q q => ?_
  obtain ⟨F, L, ms, m, M, ms', R, r, nd, dis, e, kk⟩ := q
  unfold evT at e
  obtain ⟨_, e0, e⟩ := bindSome e
  obtain ⟨⟨qv, ms1⟩, e1, e⟩ := bindSome e
  obtain ⟨kd, e2, e⟩ := bindSome e
  unfold Rx.chg at e
  obtain ⟨o, e3, e⟩ := bindSome e
  obtain ⟨o', e4, e⟩ := mapSome e
  subst e
  obtain ⟨_, ov0, _, hv0⟩ := there_ok e0 R
  refine ⟨ov0, hv0, tE.go R e1 fun kv F1 H1 L1 Mk g => ?_⟩
  obtain ⟨F2, dk, R2, E2⟩ := g.frz1 e2
  obtain ⟨r2, d2, X2⟩ := E2.beside r dis
  obtain ⟨ov, ho, q⟩ := store_ok R2 e3 e4 dk r2 nd d2
  rw [hv0] at ho; cases ho
  rcases q with q | q
  · obtain ⟨p, xs, a, b, h1, h2, h3, h4, L', h5, h6⟩ := q
    exact .inl ⟨p, xs, a, b, h1, h2, h3, h4, kk σ F2 _ L' h5 (X2.trans h6) (Keep.refl _ _)⟩
  · obtain ⟨a, H', h1, h2, L', h5, h6⟩ := q
    exact .inr ⟨a, H', h1, h2, kk σ F2 _ L' h5 (X2.trans h6) (Keep.refl _ _)⟩
theorem pgs_nilE : PGs X [] (tGs X.K Φ prot []) := pgs_nil.of fun v σ H Q q => by
  obtain ⟨F, L, ms, rs, M, ms', R, r, nd, dis, e, k⟩ := q
  cases r with
  | nil =>
    unfold evTs at e; cases e
    exact ⟨rfl, k σ F H L R ((Ext.refl F H _).mem (fun _ h => h) fun a _ _ n z => n (List.mem_append_left _ z)) (Keep.refl _ _)⟩
  | cons _ _ => unfold evTs at e; cases e
theorem pgs_consE {e : Expr} {es : List Expr} {t : ST} {ts : List ST} (h1 : PG X e (tG X.K Φ prot t)) (h2 : PGs X es (tGs X.K Φ prot ts)) (hp : plainE e = true) : PGs X (e :: es) (tGs X.K Φ prot (t :: ts)) := by
  refine (pgs_cons h1 h2 (by cases e <;> first | rfl | cases hp)).of fun v σ H Q q => ?_
  obtain ⟨F, L, ms, rs, M, ms', R, r, nd, dis, e, k⟩ := q
  cases r with
  | nil => unfold evTs at e; cases e
  | @cons m rs v vs M1 M2 r rr =>
    unfold evTs at e
    obtain ⟨ms1, e1, e2⟩ := bindSome e
    obtain ⟨n1, n2, n3⟩ := List.nodup_append.mp nd
    refine ⟨v, vs, rfl, F, L, ms, m, M1, ms1, R, r, n1, fun a ha => dis a (List.mem_append_left _ ha), e1, fun σ1 F1 H1 L1 R1 E1 k1 => ?_⟩
    have d2 : ∀ a ∈ M2, F a = none ∧ a ∉ L ++ M1 := fun a ha => ⟨(dis a (List.mem_append_right _ ha)).1, fun z => (List.mem_append.mp z).elim (dis a (List.mem_append_right _ ha)).2 fun y => n3 a y a ha rfl⟩
    obtain ⟨r2, d3, X2⟩ := E1.besides rr d2
    refine ⟨F1, L1, ms1, rs, M2, ms', R1, r2, n2, d3, e2, fun σ2 F2 H2 L2 R2 E2 k2 => k σ2 F2 H2 L2 R2 ?_ (k1.trans k2)⟩
    have z := X2.trans E2
    rw [List.append_assoc] at z
    exact z
theorem vals_own {F H : Hp} : ∀ {ds : List PyData} {vs : List V}, DtAll F ds vs → OwnAll K F H (ds.map .val) vs []
  | _, _, .nil => .nil
  | _, _, .cons r t => .cons (L1 := []) (.val r) (vals_own t)
theorem evTs_len : ∀ {ts : List ST} {rs : List MV} {ms ms' : MEnv}, evTs Φ ts rs ms = some ms' → rs.length = ts.length
  | [], [], _, _, _ => rfl
  | [], _ :: _, _, _, e => by unfold evTs at e; cases e
  | _ :: _, [], _, _, e => by unfold evTs at e; cases e
  | t :: ts, r :: rs, _, _, e => by
    unfold evTs at e
    obtain ⟨ms1, e1, e2⟩ := bindSome e
    rw [List.length_cons, List.length_cons, evTs_len e2]
theorem pg_tpE (G : Good Φ c X) {es : List Expr} {ts : List ST} {k : Nat} {pos : Pos} (h : PGs X es (tGs X.K Φ prot ts)) (hp : es.all plainE = true) (hl : ts.length = es.length) : PG X (.Tuple es k pos) (tG X.K Φ prot (.tp ts)) := by
  obtain ⟨b1, b2⟩ := each_plain (env := X.env) hp
  refine (PG.or (pg_tup G.calm h (b1.trans hl.symm) b2) (pg_unl G.calm h (b1.trans hl.symm) b2)).of fun v σ H Q q => ?_
  obtain ⟨F, L, ms, m, M, ms', R, r, nd, dis, e, kk⟩ := q
  have lit : ∀ {ds : List PyData} {vs : List V}, DtAll F ds vs → evTs Φ ts (ds.map .val) ms = some ms' → vs.length = ts.length ∧ tGs X.K Φ prot ts vs σ H Q := fun {ds vs} dt e => by
    refine ⟨by rw [← evTs_len e, List.length_map, dt.len], F, L, ms, ds.map .val, [], ms', R, vals_own dt, List.nodup_nil, (fun _ z => by cases z), e, fun σ' F' H' L' R' E' kp => kk σ' F' H' L' R' (E'.mem (fun a ha => ?_) fun a o e n z => E'.off a o e (fun y => n ?_) z) kp⟩
    · rw [List.append_nil] at ha; exact List.mem_append_left _ ha
    · rw [List.append_nil] at y; exact List.mem_append_left _ y
  cases r with
  | @val d v dt =>
    cases dt with
    | @lst a ds vs ha rs =>
      have e : evTs Φ ts (ds.map .val) ms = some ms' := by unfold evT at e; exact e
      obtain ⟨h1, h2⟩ := lit rs e
      exact .inr ⟨a, vs, rfl, SqL.of (R.sub _ _ ha), h1, h2⟩
    | @tup a ds vs ha rs =>
      have e : evTs Φ ts (ds.map .val) ms = some ms' := by unfold evT at e; exact e
      obtain ⟨h1, h2⟩ := lit rs e
      exact .inl ⟨a, vs, rfl, (ha.mono R.sub).sq, h1, h2⟩
    | _ => unfold evT at e; cases e
  | @ls a ds vs ha rs =>
    have e : evTs Φ ts (ds.map .val) ms = some ms' := by unfold evT at e; exact e
    obtain ⟨h1, h2⟩ := lit rs e
    exact .inr ⟨a, vs, rfl, SqL.of ha, h1, h2⟩
  | @tup a cs vs Lk ha rs =>
    have e : evTs Φ ts cs ms = some ms' := by unfold evT at e; exact e
    obtain ⟨n1, n2⟩ := List.nodup_cons.mp nd
    refine .inl ⟨a, vs, rfl, ha.sq, by rw [← rs.len]; exact evTs_len e, F, L, ms, cs, Lk, ms', R, rs, n2, fun b hb => dis b (List.mem_cons_of_mem _ hb), e, fun σ' F' H' L' R' E' kp => kk σ' F' H' L' R' (E'.mem (fun b hb => ?_) fun b o e n z => E'.off b o e (fun y => n ?_) z) kp⟩
    · exact (List.mem_append.mp hb).elim (List.mem_append_left _) fun z => List.mem_append_right _ (List.mem_cons_of_mem _ z)
    · exact (List.mem_append.mp y).elim (List.mem_append_left _) fun z => List.mem_append_right _ (List.mem_cons_of_mem _ z)
  | _ => unfold evT at e; cases e

/-! ### statements, read -/
def fin (K : PySem.W.Frag) (prot : List Nat) (F H : Hp) (L : List Addr) (σ : L2.St) (D : Ends) : Out → Prop
  | .nx ms => ∀ σ' F' H' L', Rel K F' H' ms σ' L' → Ext F H L F' H' L' → Keep prot σ σ' → D.nx σ' H'
  | .brk ms => ∀ σ' F' H' L', Rel K F' H' ms σ' L' → Ext F H L F' H' L' → Keep prot σ σ' → D.bk σ' H'
  | .cnt ms => ∀ σ' F' H' L', Rel K F' H' ms σ' L' → Ext F H L F' H' L' → Keep prot σ σ' → D.ct σ' H'
  | .ret m ms => ∀ v σ' F' H' L' M, Got K F H L F' H' L' ms σ' [m] [v] M → Keep prot σ σ' → D.rt v H'
def tSt (K : PySem.W.Frag) (prot : List Nat) (f : MEnv → Option Out) : TS := fun D σ H => ∃ F L ms o, Rel K F H ms σ L ∧ f ms = some o ∧ fin K prot F H L σ D o
theorem fin.from {F H F1 H1 : Hp} {L L1 : List Addr} {σ1 : L2.St} {D : Ends} {o : Out} (E : Ext F H L F1 H1 L1) (kp : Keep prot σ σ1) (h : fin K prot F H L σ D o) : fin K prot F1 H1 L1 σ1 D o := by
  cases o with
  | nx ms => exact fun σ' F' H' L' R' E' k' => h σ' F' H' L' R' (E.trans E') (kp.trans k')
  | brk ms => exact fun σ' F' H' L' R' E' k' => h σ' F' H' L' R' (E.trans E') (kp.trans k')
  | cnt ms => exact fun σ' F' H' L' R' E' k' => h σ' F' H' L' R' (E.trans E') (kp.trans k')
  | ret m ms => exact fun v σ' F' H' L' M g k' => h v σ' F' H' L' M (g.from E) (kp.trans k')
theorem pss_nilE : PSs X [] (tSt X.K prot (evSs Φ [])) := pss_nil.of fun D σ H q => by
  obtain ⟨F, L, ms, o, R, e, k⟩ := q
  unfold evSs at e; cases e
  exact k σ F H L R (Ext.refl _ _ _) (Keep.refl _ _)
theorem pss_consE {st : Stmt} {sts : List Stmt} {s : IS} {r : List IS} (h1 : PS X st (tSt X.K prot (evS Φ s))) (h2 : PSs X sts (tSt X.K prot (evSs Φ r))) : PSs X (st :: sts) (tSt X.K prot (evSs Φ (s :: r))) := (pss_cons h1 h2).of fun D σ H q => by
  obtain ⟨F, L, ms, o, R, e, k⟩ := q
  unfold evSs at e
  obtain ⟨o1, e1, e2⟩ := bindSome e
  refine ⟨F, L, ms, o1, R, e1, ?_⟩
  cases o1 with
  | nx ms1 => exact fun σ1 F1 H1 L1 R1 E1 k1 => ⟨F1, L1, ms1, o, R1, e2, k.from E1 k1⟩
  | brk ms1 => cases e2; exact k
  | cnt ms1 => cases e2; exact k
  | ret m ms1 => cases e2; exact k
theorem ownOr_ok {ow : Bool} {m m' : MV} {v : V} {M : List Addr} {F H F1 H1 : Hp} {L L1 : List Addr} {ms1 : MEnv} (e : ownOr ow m = some m') (g : Got K F H L F1 H1 L1 ms1 σ [m] [v] M) : ∃ F' M', Got K F H L F' H1 L1 ms1 σ [m'] [v] M' := by
  unfold ownOr at e
  split at e
  · cases e; exact ⟨_, _, g⟩
  · split at e
    · cases e; exact ⟨_, _, g⟩
    · cases e; exact ⟨_, _, g⟩
    · obtain ⟨d, e1, e2⟩ := mapSome e
      subst e2
      obtain ⟨F', r, R, E⟩ := g.frz1 e1
      exact ⟨F', [], Got.of R E r⟩
/-- an assignment's end -/
theorem asg_go {ow : Bool} {t : ST} {e : IE} {D : Ends} {H : Hp} (q : tSt K prot (evS Φ (.asg ow t e)) D σ H) : tAsg (tE K (evE Φ e)) (tG K Φ prot t) D σ H := by
  obtain ⟨F, L, ms, o, R, ee, k⟩ := q
  unfold evS at ee
  obtain ⟨⟨m, ms1⟩, e1, ee⟩ := bindSome ee
  obtain ⟨m', e2, ee⟩ := bindSome ee
  obtain ⟨ms2, e3, ee⟩ := mapSome ee
  subst ee
  refine tE.go R e1 fun v F1 H1 L1 M g => ?_
  obtain ⟨F2, M2, g2⟩ := ownOr_ok e2 g
  exact ⟨F2, L1, ms1, m', M2, ms2, g2.rel, g2.res.fst, g2.nd, g2.dis, e3, fun σ' F' H' L' R' E' kp => k σ' F' H' L' R' (g2.ext.trans E') kp⟩
theorem ret_go {ow : Bool} {e : IE} {D : Ends} {H : Hp} (q : tSt K prot (evS Φ (.ret ow e)) D σ H) : tRet (tE K (evE Φ e)) D σ H := by
  obtain ⟨F, L, ms, o, R, ee, k⟩ := q
  unfold evS at ee
  obtain ⟨⟨m, ms1⟩, e1, ee⟩ := bindSome ee
  obtain ⟨m', e2, ee⟩ := mapSome ee
  subst ee
  refine tE.go R e1 fun v F1 H1 L1 M g => ?_
  obtain ⟨F2, M2, g2⟩ := ownOr_ok e2 g
  exact k v σ F2 H1 L1 M2 g2 (Keep.refl _ _)
theorem ex_go {e : IE} {D : Ends} {H : Hp} (q : tSt K prot (evS Φ (.ex e)) D σ H) : tDrop (tE K (evE Φ e)) D σ H := by
  obtain ⟨F, L, ms, o, R, ee, k⟩ := q
  unfold evS at ee
  obtain ⟨⟨m, ms1⟩, e1, ee⟩ := mapSome ee
  subst ee
  exact tE.go R e1 fun v F1 H1 L1 M g => k σ F1 H1 L1 g.rel g.ext0 (Keep.refl _ _)
theorem ite_goS {c : IE} {a b : List IS} {D : Ends} {H : Hp} (q : tSt K prot (evS Φ (.ite c a b)) D σ H) : tIfS (tT K (evE Φ c)) (tSt K prot (evSs Φ a)) (tSt K prot (evSs Φ b)) D σ H := by
  obtain ⟨F, L, ms, o, R, ee, k⟩ := q
  unfold evS at ee
  obtain ⟨⟨m, ms1⟩, e1, ee⟩ := bindSome ee
  obtain ⟨b, e2, ee⟩ := bindSome ee
  refine tT.from R (Ext.refl _ _ _) e1 e2 fun F1 H1 L1 R1 E1 => ?_
  cases b with
  | true => rw [if_pos rfl] at ee; exact ⟨F1, L1, ms1, o, R1, ee, k.from E1 (Keep.refl _ _)⟩
  | false => rw [if_neg (by decide)] at ee; exact ⟨F1, L1, ms1, o, R1, ee, k.from E1 (Keep.refl _ _)⟩
theorem whl_go {n : Nat} {c : IE} {b : List IS} {D : Ends} {H : Hp} (q : tSt K prot (evS Φ (.whl n c b)) D σ H) : tWhile (tT K (evE Φ c)) (tSt K prot (evSs Φ b)) D σ H := by
  obtain ⟨F, L, ms, o, R, ee, k⟩ := q
  unfold evS at ee
  refine ⟨fun n σ H => ∃ F L ms, Rel K F H ms σ L ∧ whileF (fun ms => (evE Φ c ms).bind fun (v, ms1) => (isB v).map fun k => (k, ms1)) (fun ms => evSs Φ b ms) n ms = some o ∧ fin K prot F H L σ D o, ⟨n, F, L, ms, R, ee, k⟩, ?_⟩
  rintro m σ1 H1 ⟨F1, L1, ms1, R1, e1, k1⟩
  cases m with
  | zero => unfold whileF at e1; cases e1
  | succ m =>
    unfold whileF at e1
    obtain ⟨⟨kk, ms2⟩, e2, e3⟩ := bindSome e1
    obtain ⟨⟨v, ms3⟩, e4, e5⟩ := bindSome e2
    obtain ⟨kb, e6, e7⟩ := mapSome e5
    cases e7
    refine tT.from R1 (Ext.refl _ _ _) e4 e6 fun F2 H2 L2 R2 E2 => ?_
    have k2 := k1.from E2 (Keep.refl prot σ1)
    cases kk with
    | false =>
      have e3 : some (Out.nx ms2) = some o := e3
      cases e3
      exact iteF (k2 σ1 F2 H2 L2 R2 (Ext.refl _ _ _) (Keep.refl _ _))
    | true =>
      obtain ⟨ob, e8, e9⟩ := bindSome (o := evSs Φ b ms2) e3
      refine iteT ⟨fun σ' H' => ∃ F L ms, Rel K F H' ms σ' L ∧ whileF (fun ms => (evE Φ c ms).bind fun (v, ms1) => (isB v).map fun k => (k, ms1)) (fun ms => evSs Φ b ms) m ms = some o ∧ fin K prot F H' L σ' D o, fun σ' H' w => ⟨m, Nat.lt_succ_self _, w⟩, F2, L2, _, ob, R2, e8, ?_⟩
      cases ob with
      | nx ms4 => exact fun σ' F' H' L' R' E' kp => ⟨F', L', ms4, R', e9, k2.from E' kp⟩
      | cnt ms4 => exact fun σ' F' H' L' R' E' kp => ⟨F', L', ms4, R', e9, k2.from E' kp⟩
      | brk ms4 => cases e9; exact k2
      | ret r ms4 => cases e9; exact k2
end
end Rx
/-! Rx, part 14: statements. -/
namespace Rx
open PySem PySem.Spec L2 PyProof.Rows
section
variable {Φ : Funs} {c : Cfg} {X : Cx} {K : PySem.W.Frag} {σ τ : L2.St} {prot : List Nat}

theorem for_go {t : NT} {it : II} {b : List IS} {D : Ends} {H : Hp} (hp : ∀ j ∈ prot, j ∉ t.slots) (q : tSt K prot (evS Φ (.for_ t it b)) D σ H) : tFor (tI K (evI Φ it)) (gNT K t) (tSt K prot (evSs Φ b)) D σ H := by
  obtain ⟨F, L, ms, o, R, ee, k⟩ := q
  unfold evS at ee
  obtain ⟨⟨ds, ms1⟩, e1, e2⟩ := bindSome ee
  refine ⟨F, L, ms, ds, ms1, R, e1, fun J F1 H1 L1 wk R1 E1 => ?_⟩
  have k1 := k.from E1 (Keep.refl prot σ)
  refine ⟨fun i n σ' H' => n = ds.length - i ∧ i ≤ ds.length ∧ ∃ F' L' ms', Sub F1 F' ∧ Rel K F' H' ms' σ' L' ∧ forF t.put (fun ms => evSs Φ b ms) (ds.drop i) ms' = some o ∧ fin K prot F' H' L' σ' D o, ⟨ds.length, by simp, Nat.zero_le _, F1, L1, ms1, Sub.refl _, R1, by rw [List.drop_zero]; exact e2, k1⟩, ?_⟩
  rintro i n σi Hi ⟨hn, hi, Fi, Li, msi, hsub, Ri, ei, ki⟩
  by_cases hlt : i < ds.length
  · refine .inr ⟨wk.goes i Hi hlt (hsub.trans Ri.sub), ?_⟩
    have hd : ds[i]? = some ds[i] := List.getElem?_eq_getElem hlt
    rw [List.drop_eq_getElem_cons hlt] at ei
    unfold forF at ei
    obtain ⟨msA, c1, c2⟩ := bindSome ei
    obtain ⟨ob, c3, c4⟩ := bindSome c2
    refine ⟨fun σ' H' => i + 1 ≤ ds.length ∧ ∃ F' L' ms', Sub F1 F' ∧ Rel K F' H' ms' σ' L' ∧ forF t.put (fun ms => evSs Φ b ms) (ds.drop (i + 1)) ms' = some o ∧ fin K prot F' H' L' σ' D o, fun σ' H' w => ⟨ds.length - (i + 1), by omega, rfl, w.1, w.2⟩, fun x H' y => ?_⟩
    have item : ∃ Fa, Sub F1 Fa ∧ Rel K Fa H' msi σi Li ∧ Dt Fa ds[i] x ∧ fin K prot Fa H' Li σi D o := by
      rcases wk.yields i Hi x H' _ hd (hsub.trans Ri.sub) y with ⟨h1, h2⟩ | ⟨T, oo, es, vs, h1, h2, h3, h4, wo, h5⟩
      · subst h1
        exact ⟨Fi, hsub, Ri, h2.mono hsub, ki⟩
      · subst h2 h4
        refine ⟨upd Fi T (.frz oo (.tup vs)), hsub.trans (Sub.new (Ri.sub.off h3)), Ri.newF h3, ?_, ki.from (Ext.newF Ri.sub h3) (Keep.refl _ _)⟩
        rw [h1]
        exact .tup (TupK.same wo) (h5.mono (hsub.trans (Sub.new (Ri.sub.off h3))))
    obtain ⟨Fa, s1, Ra, dt, ka⟩ := item
    refine nt_put t Ra dt c1 fun τ' LA RA hLA hs hl => ?_
    have kA := ka.from ((Ext.refl Fa H' Li).less hLA) (Keep.names hs hl hp)
    refine ⟨Fa, LA, msA, ob, RA, c3, ?_⟩
    cases ob with
    | nx ms2 => exact fun σ' F' H2 L' R' E' kp => ⟨hlt, F', L', ms2, s1.trans E'.fr, R', c4, kA.from E' kp⟩
    | cnt ms2 => exact fun σ' F' H2 L' R' E' kp => ⟨hlt, F', L', ms2, s1.trans E'.fr, R', c4, kA.from E' kp⟩
    | brk ms2 => cases c4; exact kA
    | ret m ms2 => cases c4; exact kA
  · have ei2 : i = ds.length := by omega
    subst ei2
    refine .inl ⟨wk.stops Hi (hsub.trans Ri.sub), ?_⟩
    rw [List.drop_length] at ei
    unfold forF at ei
    cases ei
    exact ki σi Fi Hi Li Ri (Ext.refl _ _ _) (Keep.refl _ _)
/-- a value that is no comprehension -/
def noComp : Expr → Bool
  | .ListComp .. => false
  | .SetComp .. => false
  | .DictComp .. => false
  | _ => true
theorem sw_no {e : Expr} {t : Option Expr} {l : Nat} {env : PySem.Env} (h : noComp e = true) : swapsWith e t l env = pure false := by
  cases e <;> first | rfl | cases h
def isName : Expr → Bool
  | .Name .. => true
  | _ => false
def isTuple : Expr → Bool
  | .Tuple .. => true
  | _ => false
/-- a tuple of targets, one of them no name -/
def hasPlace : Expr → Bool
  | .Tuple ts _ _ => ts.any fun t => !isName t
  | _ => false
/-- an assignment whose value stands in no comprehension, or that goes to no name -/
def hasMany : Expr → Bool
  | .Tuple ts _ _ => decide (3 < ts.length)
  | _ => false
def asgB (tg e : Expr) : Bool := plainE tg && (noComp e || !isName tg) && (!isTuple tg || !isTuple e || hasPlace tg || hasMany tg)
theorem sw_many {env : PySem.Env} {ts vs : List Expr} {k k2 : Nat} {p p2 : Pos} (h : 3 < ts.length) : swappedStores [.Tuple ts k p] (.Tuple vs k2 p2) env = pure none := by
  have fin : ∀ (b1 b2 b3 f8 c8 : Bool) (nm : List Str), b1 = true → (do
      if b1 then return none
      if b2 then return none
      if b3 then return none
      if f8 then return none
      if c8 then unsupported "assign.tuple-of-constant-expressions:order-of-the-stores"
      return some nm : Sem (Option (List Str))) = pure none := by
    rintro _ _ _ _ _ _ rfl
    rfl
  have e1 : (ts.length == 2) = false := beq_eq_false_iff_ne.mpr (by omega)
  have e2 : (ts.length == 3) = false := beq_eq_false_iff_ne.mpr (by omega)
  have e : (!(ts.length == 2 || ts.length == 3) || vs.length != ts.length || env.blockKind != .function) = true := by rw [e1, e2]; rfl
  exact fin _ _ _ _ _ _ e
theorem fm_lt {α : Type} {f : Expr → Option α} (hf : ∀ t, isName t = false → f t = none) : ∀ {ts : List Expr}, (ts.any fun t => !isName t) = true → (ts.filterMap f).length < ts.length
  | [], h => by cases h
  | t :: ts, h => by
    have le : (ts.filterMap f).length ≤ ts.length := List.length_filterMap_le ..
    cases hn : isName t with
    | false =>
      rw [List.filterMap_cons_none (hf t hn), List.length_cons]
      omega
    | true =>
      rw [List.any_cons, hn] at h
      have ih := fm_lt hf (ts := ts) (by simpa using h)
      cases ht : f t with
      | none => rw [List.filterMap_cons_none ht, List.length_cons]; omega
      | some a => rw [List.filterMap_cons_some ht, List.length_cons, List.length_cons]; omega
theorem sw_place {env : PySem.Env} {ts vs : List Expr} {k k2 : Nat} {p p2 : Pos} (h : (ts.any fun t => !isName t) = true) : swappedStores [.Tuple ts k p] (.Tuple vs k2 p2) env = pure none := by
  have fin : ∀ (b1 b2 f8 c8 : Bool) (nm : List Str), nm.length < ts.length → (do
      if b1 then return none
      if b2 then return none
      if nm.length != ts.length || nm.eraseDups.length != nm.length then return none
      if f8 then return none
      if c8 then unsupported "assign.tuple-of-constant-expressions:order-of-the-stores"
      return some nm : Sem (Option (List Str))) = pure none := by
    intro b1 b2 f8 c8 nm hn
    have e : (nm.length != ts.length) = true := by simp; omega
    rw [e]
    cases b1 <;> cases b2 <;> rfl
  exact fin _ _ _ _ _ (fm_lt (fun t ht => by cases t <;> first | rfl | cases ht) h)
theorem asg_facts {tg e : Expr} {l : Nat} {env : PySem.Env} (h : asgB tg e = true) : swapsWithSole [tg] e l env = pure false ∧ ((∀ ts p, tg ≠ .List ts p) → swappedStores [tg] e env = pure none) ∧ (assignEach [tg] env).map (·.2) = [assign tg env] := by
  unfold asgB at h
  simp only [Bool.and_eq_true, Bool.or_eq_true, Bool.not_eq_true'] at h
  obtain ⟨⟨h1, h2⟩, h3⟩ := h
  refine ⟨?_, fun nl => ?_, ?_⟩
  · show swapsWith e (some tg) l env = pure false
    rcases h2 with h2 | h2
    · exact sw_no h2
    · cases e <;> first | rfl | (cases tg <;> first | rfl | cases h2)
  · cases tg with
    | Tuple ts k p =>
      rcases h3 with ((h3 | h3) | h3) | h3
      · cases h3
      · cases e <;> first | rfl | cases h3
      rotate_left
      · have h3 : 3 < ts.length := of_decide_eq_true h3
        cases e <;> first | exact sw_many h3 | rfl
      · have h3 : (ts.any fun t => !isName t) = true := h3
        cases e <;> first | exact sw_place h3 | rfl
    | List ts p => exact absurd rfl (nl ts p)
    | _ => rfl
  · cases tg <;> first | rfl | cases h1
def noLst : Expr → Bool
  | .List .. => false
  | _ => true
theorem ps_asgE {ow : Bool} {t : ST} {a : IE} {tg e : Expr} {pos : Pos} (he : PE X e (tE X.K (evE Φ a))) (hg : PG X tg (tG X.K Φ prot t)) (h : asgB tg e = true) (hl : noLst tg = true) : PS X (.Assign [tg] e pos) (tSt X.K prot (evS Φ (.asg ow t a))) := by
  obtain ⟨h1, h2, h3⟩ := asg_facts (l := pos.line) (env := X.env) h
  exact (ps_asg he hg h1 (h2 fun ts p z => by subst z; cases hl) h3).of fun D σ H q => asg_go q
theorem ps_exE {a : IE} {e : Expr} {pos : Pos} (he : PE X e (tE X.K (evE Φ a))) (h : noComp e = true) : PS X (.Expr e pos) (tSt X.K prot (evS Φ (.ex a))) := (ps_expr he (sw_no h)).of fun D σ H q => ex_go q
theorem ps_retE {ow : Bool} {a : IE} {e : Expr} {pos : Pos} (he : PE X e (tE X.K (evE Φ a))) : PS X (.Return (some e) pos) (tSt X.K prot (evS Φ (.ret ow a))) := (ps_ret he).of fun D σ H q => ret_go q
theorem ps_retNE {pos : Pos} : PS X (.Return none pos) (tSt X.K prot (evS Φ .retN)) := ps_retN.of fun D σ H q => by
  obtain ⟨F, L, ms, o, R, e, k⟩ := q
  unfold evS at e; cases e
  exact k .non σ F H L [] (Got.of R (Ext.refl _ _ _) .non) (Keep.refl _ _)
theorem ps_passE {pos : Pos} : PS X (.Pass pos) (tSt X.K prot (evS Φ .pass)) := ps_pass.of fun D σ H q => by
  obtain ⟨F, L, ms, o, R, e, k⟩ := q
  unfold evS at e; cases e
  exact k σ F H L R (Ext.refl _ _ _) (Keep.refl _ _)
theorem ps_brkE {pos : Pos} : PS X (.Break pos) (tSt X.K prot (evS Φ .brk)) := ps_break.of fun D σ H q => by
  obtain ⟨F, L, ms, o, R, e, k⟩ := q
  unfold evS at e; cases e
  exact k σ F H L R (Ext.refl _ _ _) (Keep.refl _ _)
theorem ps_contE {pos : Pos} : PS X (.Continue pos) (tSt X.K prot (evS Φ .cont)) := ps_continue.of fun D σ H q => by
  obtain ⟨F, L, ms, o, R, e, k⟩ := q
  unfold evS at e; cases e
  exact k σ F H L R (Ext.refl _ _ _) (Keep.refl _ _)
theorem ps_neverE {st : Stmt} : PS X st (tSt X.K prot (evS Φ .never)) := ps_never.of fun D σ H q => by
  obtain ⟨F, L, ms, o, R, e, k⟩ := q
  unfold evS at e; cases e
theorem ps_ifE {a : IE} {p q : List IS} {e : Expr} {ps qs : List Stmt} {pos : Pos} (he : PT X e (tT X.K (evE Φ a))) (hp : PSs X ps (tSt X.K prot (evSs Φ p))) (hq : PSs X qs (tSt X.K prot (evSs Φ q))) : PS X (.If e ps qs pos) (tSt X.K prot (evS Φ (.ite a p q))) := (ps_if he hp hq).of fun D σ H q => ite_goS q
theorem passes (G : Good Φ c X) : PassesOwn (model X.prog X.w) X.A X.env X.xe := by rw [G.xe]; exact PassesOwn.never
theorem ps_whileE (G : Good Φ c X) {n : Nat} {a : IE} {p : List IS} {e : Expr} {ps : List Stmt} {pos : Pos} (he : PT X e (tT X.K (evE Φ a))) (hp : PSs X ps (tSt X.K prot (evSs Φ p))) : PS X (.While e ps [] pos) (tSt X.K prot (evS Φ (.whl n a p))) := (ps_while (passes G) he hp).of fun D σ H q => whl_go q
def noFold : Expr → Bool
  | .Set .. => false
  | _ => true
theorem ps_forE (G : Good Φ c X) {t : NT} {it : II} {p : List IS} {tg e : Expr} {ps : List Stmt} {pos : Pos} (hi : PI X tg e (tI X.K (evI Φ it))) (hg : chkNT c t tg = true) (hp : PSs X ps (tSt X.K prot (evSs Φ p))) (hn : ∀ j ∈ prot, j ∉ t.slots) (hs : ∀ x, foldedSetIterable e X.env x = pure x) : PS X (.For tg e ps [] pos) (tSt X.K prot (evS Φ (.for_ t it p))) :=
  (ps_for (passes G) G.calm hi (pg_nt G t tg hg) hp hs).of fun D σ H q => for_go hn q

/-! ### a, b = x, y -/
def parB (c : Cfg) (x y : Str) (px py : Pos) (a b : Expr) : Bool := decide (x ≠ y) && (py.line == px.line) && plainE a && plainE b && !([a, b].all (foldedForSure 8)) && !([a, b].all (constantsAlone 8)) && decide (c.sc.names.lookup x = some .local) && decide (c.sc.names.lookup y = some .local)
theorem sw_par2 {env : PySem.Env} {x y : Str} {px py pt : Pos} {a b : Expr} {kt k2 : Nat} {pt2 : Pos} (hk : env.scope.kind = .function) (hx : env.scope.names.lookup x = some .local) (hy : env.scope.names.lookup y = some .local) (h1 : x ≠ y) (h2 : (py.line == px.line) = true) (h3 : plainE a = true) (h4 : plainE b = true)
    (h5 : [a, b].all (foldedForSure 8) = false) (h6 : [a, b].all (constantsAlone 8) = false) : swappedStores [.Tuple [.Name x px, .Name y py] kt pt] (.Tuple [a, b] k2 pt2) env = pure (some [x, y]) := by
  have hb : env.blockKind = .function := by unfold Env.blockKind; rw [hk]; rfl
  have kx : env.kindOf x = some .local := hx
  have ky : env.kindOf y = some .local := hy
  have hs : ([a, b].any fun | .Starred .. => true | _ => false) = false := by
    cases a <;> first | (cases h3; done) | (cases b <;> first | rfl | cases h4)
  have hxy : (y == x) = false := beq_eq_false_iff_ne.mpr fun z => h1 z.symm
  have hnn : ([x, y].eraseDups.length != [x, y].length) = false := by simp [List.eraseDups, List.eraseDupsBy, List.eraseDupsBy.loop, hxy]
  have hn : ([Expr.Name x px, Expr.Name y py].filterMap fun
      | .Name id pos => if env.kindOf id == some .local && pos.line == px.line then some id else none
      | _ => none) = [x, y] := by
    simp only [List.filterMap_cons, List.filterMap_nil, kx, ky, h2]
    simp
  have fin : ∀ (bk : ScopeKind) (st f8 c8 : Bool) (nm : List Str), bk = .function → st = false → f8 = false → c8 = false → nm = [x, y] → (do
      if !(2 == 2 || 2 == 3) || 2 != 2 || bk != .function then return none
      if st then return none
      if nm.length != 2 || nm.eraseDups.length != nm.length then return none
      if f8 then return none
      if c8 then unsupported "assign.tuple-of-constant-expressions:order-of-the-stores"
      return some nm : Sem (Option (List Str))) = pure (some [x, y]) := by
    rintro _ _ _ _ _ rfl rfl rfl rfl rfl
    simp only [hnn]
    rfl
  exact fin _ _ _ _ _ hb hs h5 h6 hn
theorem sw_par3 {env : PySem.Env} {x y z : Str} {px py pz pt : Pos} {a b d : Expr} {kt k2 : Nat} {pt2 : Pos} (hk : env.scope.kind = .function) (hx : env.scope.names.lookup x = some .local) (hy : env.scope.names.lookup y = some .local) (hz : env.scope.names.lookup z = some .local)
    (h1 : x ≠ y) (h1' : x ≠ z) (h1'' : y ≠ z) (h2 : (py.line == px.line) = true) (h2' : (pz.line == px.line) = true) (h3 : plainE a = true) (h4 : plainE b = true) (h4' : plainE d = true)
    (h5 : [a, b, d].all (foldedForSure 8) = false) (h6 : [a, b, d].all (constantsAlone 8) = false) : swappedStores [.Tuple [.Name x px, .Name y py, .Name z pz] kt pt] (.Tuple [a, b, d] k2 pt2) env = pure (some [x, y, z]) := by
  have hb : env.blockKind = .function := by unfold Env.blockKind; rw [hk]; rfl
  have kx : env.kindOf x = some .local := hx
  have ky : env.kindOf y = some .local := hy
  have kz : env.kindOf z = some .local := hz
  have hs : ([a, b, d].any fun | .Starred .. => true | _ => false) = false := by
    have one : ∀ {e : Expr}, plainE e = true → (match e with | .Starred .. => true | _ => false) = false := fun {e} h => by cases e <;> first | rfl | cases h
    rw [List.any_cons, List.any_cons, List.any_cons, List.any_nil, one h3, one h4, one h4']
    rfl
  have e1 : (y == x) = false := beq_eq_false_iff_ne.mpr fun z => h1 z.symm
  have e2 : (z == x) = false := beq_eq_false_iff_ne.mpr fun z => h1' z.symm
  have e3 : (z == y) = false := beq_eq_false_iff_ne.mpr fun z => h1'' z.symm
  have hnn : ([x, y, z].eraseDups.length != [x, y, z].length) = false := by simp [List.eraseDups, List.eraseDupsBy, List.eraseDupsBy.loop, e1, e2, e3]
  have hn : ([Expr.Name x px, Expr.Name y py, Expr.Name z pz].filterMap fun
      | .Name id pos => if env.kindOf id == some .local && pos.line == px.line then some id else none
      | _ => none) = [x, y, z] := by
    simp only [List.filterMap_cons, List.filterMap_nil, kx, ky, kz, h2, h2']
    simp
  have fin : ∀ (bk : ScopeKind) (st f8 c8 : Bool) (nm : List Str), bk = .function → st = false → f8 = false → c8 = false → nm = [x, y, z] → (do
      if !(3 == 2 || 3 == 3) || 3 != 3 || bk != .function then return none
      if st then return none
      if nm.length != 3 || nm.eraseDups.length != nm.length then return none
      if f8 then return none
      if c8 then unsupported "assign.tuple-of-constant-expressions:order-of-the-stores"
      return some nm : Sem (Option (List Str))) = pure (some [x, y, z]) := by
    rintro _ _ _ _ _ rfl rfl rfl rfl rfl
    simp only [hnn]
    rfl
  exact fin _ _ _ _ _ hb hs h5 h6 hn
def setN : List Nat → List V → L2.St → L2.St
  | i :: is, v :: vs, σ => setN is vs (σ.set i (some v))
  | _, _, σ => σ
theorem store_all {F H : Hp} : ∀ (is : List Nat) {rs : List MV} {vs : List V} {M : List Addr} {ms ms' : MEnv} {σ : L2.St} {L : List Addr}, Rel K F H ms σ L → OwnAll K F H rs vs M → M.Nodup → (∀ a ∈ M, F a = none ∧ a ∉ L) → evTs Φ (is.map .n) rs ms = some ms' → (∀ i ∈ is, i ∉ prot) →
    ∃ L', Rel K F H ms' (setN is vs σ) L' ∧ (∀ a ∈ L', a ∈ L ++ M) ∧ Keep prot σ (setN is vs σ)
  | [], _, _, _, _, _, _, _, R, .nil, _, _, e, _ => by
    rw [List.map_nil] at e
    unfold evTs at e; cases e
    exact ⟨_, R, fun a ha => List.mem_append_left _ ha, Keep.refl _ _⟩
  | [], _, _, _, _, _, _, _, R, .cons _ _, _, _, e, _ => by rw [List.map_nil] at e; unfold evTs at e; cases e
  | i :: is, _, _, _, _, _, _, _, R, .nil, _, _, e, _ => by rw [List.map_cons] at e; unfold evTs at e; cases e
  | i :: is, _, _, _, ms, ms', σ, L, R, @OwnAll.cons _ _ _ m rs v vs M1 M2 r t, nd, dis, e, hp => by
    rw [List.map_cons] at e
    unfold evTs at e
    obtain ⟨ms1, e1, e2⟩ := bindSome e
    unfold evT setS at e1
    obtain ⟨n1, n2, n3⟩ := List.nodup_append.mp nd
    split at e1
    · rename_i hi
      cases e1
      obtain ⟨L1, R1, h1⟩ := R.store r n1 (fun a ha => dis a (List.mem_append_left _ ha)) hi
      obtain ⟨L2, R2, h2, k2⟩ := store_all is R1 t n2 (fun a ha => ⟨(dis a (List.mem_append_right _ ha)).1, fun z => (List.mem_append.mp (h1 a z)).elim (dis a (List.mem_append_right _ ha)).2 fun y => n3 a y a ha rfl⟩) e2 fun j hj => hp j (List.mem_cons_of_mem _ hj)
      refine ⟨L2, R2, fun a ha => ?_, (Keep.set _ (hp i List.mem_cons_self)).trans k2⟩
      rcases List.mem_append.mp (h2 a ha) with z | z
      · rcases List.mem_append.mp (h1 a z) with y | y
        · exact List.mem_append_left _ y
        · exact List.mem_append_right _ (List.mem_append_left _ y)
      · exact List.mem_append_right _ (List.mem_append_right _ z)
    · cases e1
theorem par_go {is : List Nat} {as : List IE} {D : Ends} {H : Hp} (hp : ∀ i ∈ is, i ∉ prot) (q : tSt K prot (evS Φ (.asg true (.tp (is.map .n)) (.otup as))) D σ H) : tA K (evEs Φ as) σ H fun vs H1 => vs.length = is.length ∧ D.nx (setN is vs σ) H1 := by
  obtain ⟨F, L, ms, o, R, ee, k⟩ := q
  unfold evS at ee
  obtain ⟨⟨m, ms1⟩, e1, ee⟩ := bindSome ee
  obtain ⟨m', e2, ee⟩ := bindSome ee
  obtain ⟨ms2, e3, ee⟩ := mapSome ee
  subst ee
  unfold ownOr at e2
  rw [if_pos rfl] at e2
  cases e2
  unfold evE at e1
  obtain ⟨⟨rs, ms3⟩, e4, e5⟩ := bindSome e1
  have e5 : (if rs.length ≤ lim then some (MV.tup rs, ms3) else none) = some (m, ms1) := e5
  split at e5
  · cases e5
    have e3 : evTs Φ (is.map .n) rs ms1 = some ms2 := by unfold evT at e3; exact e3
    refine tA.go R e4 fun vs F1 H1 L1 M g => ?_
    obtain ⟨L', R', h1, kp⟩ := store_all is g.rel g.res g.nd g.dis e3 hp
    refine ⟨?_, k _ F1 H1 L' R' (g.ext.less h1) kp⟩
    have z := evTs_len e3
    rw [List.length_map] at z
    rw [← g.res.len, z]
  · cases e5
theorem ps_par2E (G : Good Φ c X) {i j : Nat} {ia ib : IE} {x y : Str} {px py pt pos pt2 : Pos} {kt k2 : Nat} {a b : Expr} (h : parB c x y px py a b = true) (hi : c.N[i]? = some x) (hj : c.N[j]? = some y) (hp : ∀ l ∈ [i, j], l ∉ prot) (ha : PA X [a, b] (tA X.K (evEs Φ [ia, ib]))) :
    PS X (.Assign [.Tuple [.Name x px, .Name y py] kt pt] (.Tuple [a, b] k2 pt2) pos) (tSt X.K prot (evS Φ (.asg true (.tp [.n i, .n j]) (.otup [ia, ib])))) := by
  unfold parB at h
  simp only [Bool.and_eq_true, decide_eq_true_eq, Bool.not_eq_true'] at h
  obtain ⟨⟨⟨⟨⟨⟨⟨h1, h2⟩, h3⟩, h4⟩, h5⟩, h6⟩, h7⟩, h8⟩ := h
  have hij : i ≠ j := fun z => h1 (by subst z; rw [hi] at hj; cases hj; rfl)
  have l7 : X.env.scope.names.lookup x = some .local := by rw [G.sc]; exact h7
  have l8 : X.env.scope.names.lookup y = some .local := by rw [G.sc]; exact h8
  refine (ps_par G.calm G.nd (by rw [G.N]; exact hi) (by rw [G.N]; exact hj) hij l7 l8 ha (sw_par2 G.kd l7 l8 h1 h2 h3 h4 h5 h6)).of fun D σ H q => ?_
  have z := par_go (is := [i, j]) hp q
  obtain ⟨F, L, ms, m, ms', R, e, k⟩ := z
  refine ⟨F, L, ms, m, ms', R, e, fun vs F' H' L' M g => ?_⟩
  obtain ⟨hl, hn⟩ := k vs F' H' L' M g
  match vs, hl, hn with
  | [v, w], _, hn => exact ⟨v, w, rfl, hn⟩
theorem ps_par3E (G : Good Φ c X) {i j l : Nat} {ia ib ic : IE} {x y z : Str} {px py pz pt pos pt2 : Pos} {kt k2 : Nat} {a b d : Expr} (h : parB c x y px py a b = true) (h' : parB c x z px pz a d = true) (h'' : parB c y z py pz b d = true) (h5 : [a, b, d].all (foldedForSure 8) = false) (h6 : [a, b, d].all (constantsAlone 8) = false)
    (hi : c.N[i]? = some x) (hj : c.N[j]? = some y) (hl : c.N[l]? = some z) (hp : ∀ l' ∈ [i, j, l], l' ∉ prot) (ha : PA X [a, b, d] (tA X.K (evEs Φ [ia, ib, ic]))) :
    PS X (.Assign [.Tuple [.Name x px, .Name y py, .Name z pz] kt pt] (.Tuple [a, b, d] k2 pt2) pos) (tSt X.K prot (evS Φ (.asg true (.tp [.n i, .n j, .n l]) (.otup [ia, ib, ic])))) := by
  unfold parB at h h' h''
  simp only [Bool.and_eq_true, decide_eq_true_eq, Bool.not_eq_true'] at h h' h''
  obtain ⟨⟨⟨⟨⟨⟨⟨a1, a2⟩, a3⟩, a4⟩, _⟩, _⟩, a7⟩, a8⟩ := h
  obtain ⟨⟨⟨⟨⟨⟨⟨b1, b2⟩, b3⟩, b4⟩, _⟩, _⟩, b7⟩, b8⟩ := h'
  obtain ⟨⟨⟨⟨⟨⟨⟨c1, _⟩, _⟩, _⟩, _⟩, _⟩, _⟩, _⟩ := h''
  have hij : i ≠ j := fun z => a1 (by subst z; rw [hi] at hj; cases hj; rfl)
  have hil : i ≠ l := fun z => b1 (by subst z; rw [hi] at hl; cases hl; rfl)
  have hjl : j ≠ l := fun z => c1 (by subst z; rw [hj] at hl; cases hl; rfl)
  have l7 : X.env.scope.names.lookup x = some .local := by rw [G.sc]; exact a7
  have l8 : X.env.scope.names.lookup y = some .local := by rw [G.sc]; exact a8
  have l9 : X.env.scope.names.lookup z = some .local := by rw [G.sc]; exact b8
  refine (ps_par3 G.calm G.nd (by rw [G.N]; exact hi) (by rw [G.N]; exact hj) (by rw [G.N]; exact hl) hij hil hjl l7 l8 l9 ha (sw_par3 G.kd l7 l8 l9 a1 b1 c1 a2 b2 a3 a4 b4 h5 h6)).of fun D σ H q => ?_
  have z := par_go (is := [i, j, l]) hp q
  obtain ⟨F, L, ms, m, ms', R, e, k⟩ := z
  refine ⟨F, L, ms, m, ms', R, e, fun vs F' H' L' M g => ?_⟩
  obtain ⟨hl, hn⟩ := k vs F' H' L' M g
  match vs, hl, hn with
  | [u, v, w], _, hn => exact ⟨u, v, w, rfl, hn⟩
end
end Rx
/-! Rx, part 15: dicts, lists' methods. -/
namespace Rx
open PySem PySem.Spec L2 PyProof.Rows
section
variable {Φ : Funs} {c : Cfg} {X : Cx} {K : PySem.W.Frag} {σ τ : L2.St} {prot : List Nat}

/-! ### an item of a slot's own thing -/
def rIxA (K : PySem.W.Frag) : R2 := fun x y H Q => rIxL K x y H Q ∨ rIxT K x y H Q
theorem noSl {e : Expr} (h : noSlice e = true) : NoSl e := fun o i => plain_ix h o i
theorem OwnAll.at_ {F H : Hp} : ∀ {ms : List MV} {vs : List V} {L : List Addr} {j : Nat} {m : MV}, OwnAll K F H ms vs L → ms[j]? = some m → ∃ v Lj, vs[j]? = some v ∧ Own K F H m v Lj ∧ ∀ a ∈ Lj, a ∈ L
  | _, _, _, _, _, .nil, e => by simp at e
  | _, _, _, 0, m, .cons r t, e => by simp at e; subst e; exact ⟨_, _, rfl, r, fun a ha => List.mem_append_left _ ha⟩
  | _, _, _, j + 1, m, .cons r t, e => by
    obtain ⟨v, Lj, h1, h2, h3⟩ := OwnAll.at_ (j := j) (m := m) t (by simpa using e)
    exact ⟨v, Lj, by simpa using h1, h2, fun a ha => List.mem_append_right _ (h3 a ha)⟩
/-- what is read at k of a slot's thing -/
theorem rd_ok {F H : Hp} {o : MV} {ov : V} {La : List Addr} {dk : Bool} {kd d : PyData} {kv : V} (r : Own K F H o ov La) (rk : Dt F kd kv) (e : rdOf dk o kd = some d) :
    (dk = false → ∃ a xs i v, ov = .ref a ∧ kv = .int i ∧ H a = some (.lst xs) ∧ atI xs i = some v ∧ Dt F d v) ∧ (dk = true → ∃ a v, ov = .ref a ∧ DGet H a kv (some v) ∧ Dt F d v) := by
  cases dk with
  | false =>
    refine ⟨fun _ => ?_, fun z => (by cases z)⟩
    cases r with
    | @ls a ds vs ha rs =>
      have e : ((idxOf ds.length kd).bind fun j => ds[j]?) = some d := e
      obtain ⟨j, e1, e2⟩ := bindSome e
      obtain ⟨i, rfl, hj⟩ := idx_of e1 rk
      obtain ⟨v, h1, h2⟩ := rs.at_ e2
      refine ⟨a, vs, i, v, rfl, rfl, ha, ?_, h2⟩
      unfold atI
      rw [← rs.len, hj]
      exact h1
    | @lst a cs vs Lk ha rs =>
      have e : ((idxOf cs.length kd).bind fun j => (cs[j]?).bind fun c => match c with | .val d => some d | _ => none) = some d := e
      obtain ⟨j, e1, e2⟩ := bindSome e
      obtain ⟨cv, e3, e4⟩ := bindSome e2
      obtain ⟨i, rfl, hj⟩ := idx_of e1 rk
      split at e4
      · cases e4
        obtain ⟨v, Lj, h1, h2, _⟩ := rs.at_ e3
        cases h2 with
        | val h2 =>
          refine ⟨a, vs, i, v, rfl, rfl, ha, ?_, h2⟩
          unfold atI
          rw [← rs.len, hj]
          exact h1
      · cases e4
    | _ => exact nomatch (show none = some d from e)
  | true =>
    refine ⟨fun z => (by cases z), fun _ => ?_⟩
    cases r with
    | @dct a ks cs vs Lk ha hl rs =>
      have e : ((keyOf kd).bind fun q => (findK ks q).bind fun j => (cs[j]?).bind fun c => match c with | .val d => some d | _ => none) = some d := e
      obtain ⟨q, e1, e2⟩ := bindSome e
      obtain ⟨j, e3, e4⟩ := bindSome e2
      obtain ⟨cv, e5, e6⟩ := bindSome e4
      cases kV_of e1 rk
      split at e6
      · cases e6
        obtain ⟨v, Lj, h1, h2, _⟩ := rs.at_ e5
        cases h2 with
        | val h2 =>
          have z := findK_val hl e3 h1
          exact ⟨a, v, rfl, by rw [← z]; exact DGet.k ha, h2⟩
      · cases e6
    | _ => exact nomatch (show none = some d from e)
theorem pe_rdE (G : Good Φ c X) {dk : Bool} {i : Nat} {x : Str} {k : IE} {ke : Expr} {p pos : Pos} (h : nameB c i x = true) (hk : PE X ke (tE X.K (evE Φ k))) (hs : noSlice ke = true) : PE X (.Subscript (.Name x p) ke pos) (tE X.K (evE Φ (.rd dk i k))) := by
  have hu : X.A.units + 1 < cLine := by have := G.un; omega
  have main : ∀ {σ H Q}, tE X.K (evE Φ (.rd dk i k)) σ H Q → ∃ ov, σ[i]? = some (some ov) ∧ tE X.K (evE Φ k) σ H fun y H2 => (dk = false → rIxL X.K ov y H2 Q) ∧ (dk = true → ∃ a v, ov = .ref a ∧ DGet H2 a y (some v) ∧ Q v H2) := fun {σ H Q} q => by
    obtain ⟨F, L, ms, m, ms', R, e, kk⟩ := q
    unfold evE at e
    obtain ⟨_, e0, e⟩ := bindSome e
    obtain ⟨⟨qv, ms1⟩, e1, e⟩ := bindSome e
    obtain ⟨kd, e2, e⟩ := bindSome e
    obtain ⟨o, e3, e⟩ := bindSome e
    obtain ⟨d, e4, e⟩ := mapSome e
    cases e
    obtain ⟨_, ov, _, hv⟩ := there_ok e0 R
    refine ⟨ov, hv, tE.go R e1 fun y F1 H1 L1 M g => ?_⟩
    obtain ⟨F2, dk', R2, E2⟩ := g.frz1 e2
    obtain ⟨v0, La, Lb, h1, h2, _⟩ := R2.own.cut (joinSome e3)
    rw [hv] at h1; cases h1
    obtain ⟨w1, w2⟩ := rd_ok h2 dk' e4
    refine ⟨fun z => ?_, fun z => ?_⟩
    · obtain ⟨a, xs, ii, v, q1, q2, q3, q4, q5⟩ := w1 z
      exact ⟨a, xs, ii, v, q1, q2, SqL.of q3, q4, kk _ _ _ _ _ (Got.of R2 E2 q5)⟩
    · obtain ⟨a, v, q1, q2, q3⟩ := w2 z
      exact ⟨a, v, q1, q2, kk _ _ _ _ _ (Got.of R2 E2 q3)⟩
  cases dk with
  | false =>
    refine (pe_ix ix_list (pe_name G h) hk (plain_ix hs)).of fun σ H Q q => ?_
    obtain ⟨ov, hv, z⟩ := main q
    refine ⟨ov, hv, ?_⟩
    obtain ⟨F, L, ms, m, ms', R, e, kk⟩ := z
    exact ⟨F, L, ms, m, ms', R, e, fun v F' H' L' M g => (kk v F' H' L' M g).1 rfl⟩
  | true =>
    refine (pe_dget hu (pe_name G h) hk (noSl hs)).of fun σ H Q q => ?_
    obtain ⟨ov, hv, z⟩ := main q
    refine ⟨ov, hv, ?_⟩
    obtain ⟨F, L, ms, m, ms', R, e, kk⟩ := z
    exact ⟨F, L, ms, m, ms', R, e, fun v F' H' L' M g => (kk v F' H' L' M g).2 rfl⟩

/-! ### dicts made -/
def prs (K : PySem.W.Frag) (Φ : Funs) : List Key → List IE → List (TE × TE)
  | k :: ks, e :: es => (L2.tC (kV k), tE K (evE Φ e)) :: prs K Φ ks es
  | _, _ => []
theorem prs_go : ∀ {ks : List Key} {es : List IE} {F H : Hp} {L : List Addr} {ms ms' : MEnv} {rs : List MV} {Q : List (V × V) → Hp → Prop}, ks.length = es.length → Rel K F H ms σ L → evEs Φ es ms = some (rs, ms') →
    (∀ vs F' H' L' M, Got K F H L F' H' L' ms' σ rs vs M → Q ((ks.zip vs).map fun kv => (kV kv.1, kv.2)) H') → tPairs (prs K Φ ks es) σ H Q
  | [], [], F, H, L, ms, ms', rs, Q, _, R, e, k => by
    unfold evEs at e; cases e
    exact k [] F H L [] (Got.start R)
  | [], _ :: _, _, _, _, _, _, _, _, h, _, _, _ => by simp at h
  | _ :: _, [], _, _, _, _, _, _, _, h, _, _, _ => by simp at h
  | q :: ks, a :: es, F, H, L, ms, ms', rs, Q, h, R, e, k => by
    unfold evEs at e
    obtain ⟨⟨m, ms1⟩, e1, e2⟩ := bindSome e
    obtain ⟨⟨vs, ms2⟩, e3, e4⟩ := mapSome e2
    cases e4
    show tE K (evE Φ a) σ H fun y H2 => tPairs (prs K Φ ks es) σ H2 fun ps H3 => Q ((kV q, y) :: ps) H3
    exact tE.go R e1 fun v F1 H1 L1 M1 g1 => prs_go (by simpa using h) g1.rel e3 fun ws F2 H2 L2 M2 g2 => k _ _ _ _ _ (g1.cons g2)
theorem merge_zip : ∀ {ks : List Key} {vs : List V} {acc : List (Key × V)}, ks.Nodup → (∀ k ∈ ks, ∀ p ∈ acc, p.1 ≠ k) → ks.length = vs.length → mergeK acc (ks.zip vs) = acc ++ ks.zip vs
  | [], _, acc, _, _, _ => by simp [mergeK]
  | k :: ks, [], _, _, _, h => by simp at h
  | k :: ks, v :: vs, acc, nd, h, hl => by
    obtain ⟨n1, n2⟩ := List.nodup_cons.mp nd
    have e : putK acc k v = acc ++ [(k, v)] := by
      unfold putK
      rw [if_neg]
      intro z
      obtain ⟨p, h1, h2⟩ := List.any_eq_true.mp z
      exact h k List.mem_cons_self p h1 (of_decide_eq_true h2)
    show mergeK (putK acc k v) (ks.zip vs) = _
    rw [e, merge_zip n2 (fun k' hk' p hp => ?_) (by simpa using hl), List.append_assoc]
    · rfl
    · rcases List.mem_append.mp hp with z | z
      · exact h k' (List.mem_cons_of_mem _ hk') p z
      · rw [List.mem_singleton.mp z]
        exact fun y : k = k' => n1 (by rw [y]; exact hk')
theorem odct_go {ks : List Key} {es : List IE} {H : Hp} {Q : VK} (hl : ks.length = es.length) (q : tE K (evE Φ (.odct ks es)) σ H Q) : tDisp (prs K Φ ks es) σ H Q := by
  obtain ⟨F, L, ms, m, ms', R, e, k⟩ := q
  unfold evE at e
  obtain ⟨⟨rs, ms1⟩, e1, e2⟩ := bindSome e
  have e2 : (if rs.length = ks.length ∧ ks.Nodup ∧ ks.length ≤ 15 then some (MV.dct ks rs, ms1) else none) = some (m, ms') := e2
  split at e2
  · rename_i hc
    cases e2
    intro p hp
    have R0 := R.newO (o := .dK []) hp
    have off := R.fresh hp
    refine prs_go hl R0 e1 fun vs F' H' L' M g => ?_
    have hv : ks.length = vs.length := hc.1.symm.trans g.res.len
    have E0 := g.ext
    have atp : H' p = some (.dK []) := g.ext.keep p _ upd_same off
    have pM : p ∉ L' ++ M := g.ext.off p _ upd_same off
    have pF : F' p = none := (g.ext.same p _ upd_same off).trans (R.sub.off hp)
    have hnM : p ∉ M := fun z => pM (List.mem_append_right _ z)
    have hnL : p ∉ L' := fun z => pM (List.mem_append_left _ z)
    refine ⟨atp, ks.zip vs, rfl, by rw [List.length_zip, ← hv, Nat.min_self]; exact hc.2.2, ?_⟩
    rw [merge_zip hc.2.1 (fun _ _ p hp => by cases hp) hv, List.nil_append]
    refine k (.ref p) F' _ L' (p :: M) ⟨⟨g.rel.own.keep (Sub.refl _) fun a ha => upd_ne fun z => hnL (z ▸ ha), g.rel.nd, g.rel.sub.updR pF, g.rel.dis⟩, .one (.dct upd_same hv (g.res.keep (Sub.refl _) fun a ha => upd_ne fun z => hnM (z ▸ ha))), List.nodup_cons.mpr ⟨hnM, g.nd⟩, fun a ha => ?_, ?_⟩
    · rcases List.mem_cons.mp ha with rfl | ha
      · exact ⟨pF, hnL⟩
      · exact g.dis a ha
    · refine ⟨g.ext.fr, fun a o ea n => ?_, fun a o ea n z => ?_, fun a o ea n => ?_⟩
      · have ne : a ≠ p := ne_of_none ea hp
        rw [upd_ne ne]
        exact g.ext.keep a o (by rw [upd_ne ne]; exact ea) n
      · have ne : a ≠ p := ne_of_none ea hp
        rcases List.mem_append.mp z with z | z
        · exact g.ext.off a o (by rw [upd_ne ne]; exact ea) n (List.mem_append_left _ z)
        · rcases List.mem_cons.mp z with z | z
          · exact ne z
          · exact g.ext.off a o (by rw [upd_ne ne]; exact ea) n (List.mem_append_right _ z)
      · have ne : a ≠ p := ne_of_none ea hp
        exact g.ext.same a o (by rw [upd_ne ne]; exact ea) n
  · cases e2

/-! ### methods of lists -/
theorem few1 {e : Expr} {cpos : Pos} {env : PySem.Env} (h : plainE e = true) : ((backTo cpos (starEach [e] env)).all (fun x => !x.1) && (backToKw cpos (keywordEach [] env)).all (fun x => x.1.isSome)
      && decide ([e].length + ([] : List Keyword).length + (if ([] : List Keyword).isEmpty then 0 else 1) < 30)) = true := by
  rw [star_cons h]; rfl
theorem lsAt_ok {ms : MEnv} {i : Nat} {u : Unit} (h : lsAt ms i = some u) : ∃ ds, ms[i]? = some (some (.ls ds)) := by
  unfold lsAt at h
  split at h
  · rename_i ds e; exact ⟨ds, joinSome e⟩
  · cases h
theorem ls_ty {F H : Hp} {ms : MEnv} {L : List Addr} {i : Nat} {ds : List PyData} (R : Rel K F H ms σ L) (e : ms[i]? = some (some (.ls ds))) : ∃ a vs, σ[i]? = some (some (.ref a)) ∧ H a = some (.lst vs) ∧ tyV K "list" (.ref a) H := by
  obtain ⟨v, La, Lb, h1, h2, _⟩ := R.own.cut e
  cases h2 with
  | ls ha _ => exact ⟨_, _, h1, ha, .inl ⟨rfl, _, SqL.of ha⟩⟩
/-- a list in a slot changed -/
theorem ls_chg {F H : Hp} {ms : MEnv} {L : List Addr} {i : Nat} {ds : List PyData} {a : Addr} (R : Rel K F H ms σ L) (e : ms[i]? = some (some (.ls ds))) (hv : σ[i]? = some (some (.ref a))) :
    ∃ vs, H a = some (.lst vs) ∧ DtAll F ds vs ∧ ∀ {ds' vs'}, DtAll F ds' vs' → ∃ L', Rel K F (upd H a (.lst vs')) (ms.set i (some (.ls ds'))) σ L' ∧ Ext F H L F (upd H a (.lst vs')) L' := by
  obtain ⟨v, La, h1, h2, h3, h4, h5⟩ := R.chg (M := []) e List.nodup_nil (fun _ z => by cases z)
  rw [hv] at h1; cases h1
  cases h2 with
  | ls ha rs =>
    refine ⟨_, ha, rs, fun {ds' vs'} r => ?_⟩
    obtain ⟨L', w1, w2⟩ := h5 (.ls upd_same r) h3 (fun b hb => .inl hb) (upd_off (List.mem_singleton.mpr rfl))
    rw [List.append_nil] at w2
    exact ⟨L', w1, w2⟩
theorem ps_appendE (G : Good Φ c X) {i : Nat} {x : Str} {a : IE} {e : Expr} {p apos cpos pos : Pos} (h : nameB c i x = true) (he : PE X e (tE X.K (evE Φ a))) (hp : plainE e = true) (hl : (apos.endLine == cpos.line) = true) :
    PS X (.Expr (.Call (.Attribute (.Name x p) "append" apos) [e] [] cpos) pos) (tSt X.K prot (evS Φ (.append i a))) := by
  refine (ps_expr (pe_bm PySem.F.plainAttrs_list PySem.F.slot_list_append PySem.F.type_list_append mt_append (pe_name G h) (pa1 he hp) rfl (few1 hp) hl (star_cons hp) rfl) rfl).of fun D σ H q => ?_
  obtain ⟨F, L, ms, o, R, ee, k⟩ := q
  unfold evS at ee
  obtain ⟨_, e0, ee⟩ := bindSome ee
  obtain ⟨⟨v, ms1⟩, e1, ee⟩ := bindSome ee
  obtain ⟨d, e2, ee⟩ := bindSome ee
  obtain ⟨ms2, e3, ee⟩ := mapSome ee
  subst ee
  unfold Rx.chg at e3
  obtain ⟨m, e4, e5⟩ := bindSome e3
  obtain ⟨m', e6, e7⟩ := mapSome e5
  subst e7
  obtain ⟨ds0, e8⟩ := lsAt_ok e0
  obtain ⟨a0, vs0, hv, ha, ty⟩ := ls_ty R e8
  refine ⟨_, hv, ty, tE.go R e1 fun y F1 H1 L1 M g => ?_⟩
  obtain ⟨F2, dt, R2, E2⟩ := g.frz1 e2
  cases m with
  | ls ds =>
    have e6 : (if ds.length < lim then some (MV.ls (ds ++ [d])) else none) = some m' := e6
    split at e6
    · rename_i hlt
      cases e6
      obtain ⟨vs, w1, w2, w3⟩ := ls_chg R2 (joinSome e4) hv
      obtain ⟨L', w4, w5⟩ := w3 (w2.app (.one dt))
      exact ⟨a0, vs, y, rfl, rfl, w1, by rw [← w2.len]; exact lim_lt hlt, k _ _ _ _ w4 (E2.trans w5) (Keep.refl _ _)⟩
    · cases e6
  | _ => exact nomatch (show none = some m' from e6)
theorem ps_removeE (G : Good Φ c X) {i : Nat} {x : Str} {a : IE} {e : Expr} {p apos cpos pos : Pos} (h : nameB c i x = true) (he : PE X e (tE X.K (evE Φ a))) (hp : plainE e = true) (hl : (apos.endLine == cpos.line) = true) :
    PS X (.Expr (.Call (.Attribute (.Name x p) "remove" apos) [e] [] cpos) pos) (tSt X.K prot (evS Φ (.remove i a))) := by
  refine (ps_expr (pe_bm PySem.F.plainAttrs_list PySem.F.slot_list_remove PySem.F.type_list_remove mt_remove (pe_name G h) (pa1 he hp) rfl (few1 hp) hl (star_cons hp) rfl) rfl).of fun D σ H q => ?_
  obtain ⟨F, L, ms, o, R, ee, k⟩ := q
  unfold evS at ee
  obtain ⟨_, e0, ee⟩ := bindSome ee
  obtain ⟨⟨v, ms1⟩, e1, ee⟩ := bindSome ee
  obtain ⟨d, e2, ee⟩ := bindSome ee
  obtain ⟨ms2, e3, ee⟩ := mapSome ee
  subst ee
  unfold Rx.chg at e3
  obtain ⟨m, e4, e5⟩ := bindSome e3
  obtain ⟨m', e6, e7⟩ := mapSome e5
  subst e7
  obtain ⟨ds0, e8⟩ := lsAt_ok e0
  obtain ⟨a0, vs0, hv, ha, ty⟩ := ls_ty R e8
  refine ⟨_, hv, ty, tE.go R e1 fun y F1 H1 L1 M g => ?_⟩
  obtain ⟨F2, dt, R2, E2⟩ := g.frz1 e2
  cases m with
  | ls ds =>
    cases d with
    | int kk =>
      have e6 : ((intsOf ds).bind fun is => if kk ∈ is then some (MV.ls ((is.erase kk).map PyData.int)) else none) = some m' := e6
      obtain ⟨is, f1, f2⟩ := bindSome e6
      split at f2
      · rename_i hm
        cases f2
        cases dt
        obtain ⟨vs, w1, w2, w3⟩ := ls_chg R2 (joinSome e4) hv
        obtain ⟨i1, i2⟩ := w2.inv f1
        subst i2
        have hlt : is.idxOf kk < is.length := List.idxOf_lt_length_of_mem hm
        have er : is.erase kk = is.eraseIdx (is.idxOf kk) := List.erase_eq_eraseIdx_of_idxOf rfl
        rw [er] at k
        obtain ⟨L', w4, w5⟩ := w3 (DtAll.intsA (is.eraseIdx (is.idxOf kk)))
        refine ⟨a0, is, kk, is.idxOf kk, rfl, rfl, w1, ?_, fun j hj z => ?_, k _ _ _ _ w4 (E2.trans w5) (Keep.refl _ _)⟩
        · rw [List.getElem?_eq_getElem hlt, List.getElem_idxOf]
        · obtain ⟨hj2, ez⟩ := List.getElem?_eq_some_iff.mp z
          exact absurd (List.not_of_lt_findIdx hj) (by simp [ez])
      · cases f2
    | _ => exact nomatch (show none = some m' from e6)
  | _ => exact nomatch (show none = some m' from e6)
end
end Rx
/-! Rx, part 16: slices, pops, ops in place. -/
namespace Rx
open PySem PySem.Spec L2 PyProof.Rows
section
variable {Φ : Funs} {c : Cfg} {X : Cx} {K : PySem.W.Frag} {σ τ : L2.St} {prot : List Nat}

/-! ### slices -/
def tPs (K : PySem.W.Frag) (Φ : Funs) : List IE → L2.St → Hp → (List Int → Hp → Prop) → Prop
  | [], _, H, Q => Q [] H
  | a :: as, σ, H, Q => tE K (evE Φ a) σ H fun x H1 => ∃ i, x = .int i ∧ tPs K Φ as σ H1 fun is H2 => Q (i :: is) H2
theorem frz_int {m : MV} {i : Int} (h : m.frz = some (.int i)) : m = .val (.int i) := by
  cases m with
  | val d => unfold MV.frz at h; cases h; rfl
  | ls ds => unfold MV.frz at h; cases h
  | lst ms => unfold MV.frz at h; obtain ⟨_, _, e⟩ := mapSome h; cases e
  | tup ms => unfold MV.frz at h; obtain ⟨_, _, e⟩ := mapSome h; cases e
  | dct _ _ => unfold MV.frz at h; cases h
  | scr _ => unfold MV.frz at h; cases h
  | rng _ _ => unfold MV.frz at h; cases h
  | dtt _ => unfold MV.frz at h; cases h
  | fdt _ => unfold MV.frz at h; cases h
theorem tPs_go : ∀ {as : List IE} {is : List Int} {F H : Hp} {L : List Addr} {ms ms' : MEnv} {Q : List Int → Hp → Prop}, Rel K F H ms σ L → evEs Φ as ms = some (is.map fun i => .val (.int i), ms') →
    (∀ F' H' L', Rel K F' H' ms' σ L' → Ext F H L F' H' L' → Q is H') → tPs K Φ as σ H Q
  | [], is, F, H, L, ms, ms', Q, R, e, k => by
    unfold evEs at e
    cases is with
    | nil => cases e; exact k F H L R (Ext.refl _ _ _)
    | cons i is => cases e
  | a :: as, is, F, H, L, ms, ms', Q, R, e, k => by
    unfold evEs at e
    obtain ⟨⟨m, ms1⟩, e1, e2⟩ := bindSome e
    obtain ⟨⟨vs, ms2⟩, e3, e4⟩ := mapSome e2
    cases is with
    | nil => cases e4
    | cons i is =>
      have q : m = .val (.int i) ∧ vs = is.map (fun i => .val (.int i)) ∧ ms2 = ms' := by
        injection e4 with h1 h2
        injection h1 with h3 h4
        exact ⟨h3, h4, h2⟩
      obtain ⟨rfl, rfl, rfl⟩ := q
      refine tE.go R e1 fun v F1 H1 L1 M g => ?_
      have r := g.res.fst
      cases r with
      | val r =>
        cases r
        exact ⟨i, rfl, tPs_go g.rel e3 fun F' H' L' R' E' => k F' H' L' R' (g.ext0.trans E')⟩
/-- the parts that are seen are ints -/
theorem seen_ints : ∀ {as : List IE} {rs : List MV} {ms : MEnv} {is : List Int}, (∀ a ∈ as, isPk a = false) → seen as rs ms = some (is.map .int) → rs = is.map fun i => .val (.int i)
  | [], [], ms, is, _, e => by
    unfold seen at e
    cases is with
    | nil => rfl
    | cons i is => cases e
  | [], _ :: _, ms, is, _, e => by unfold seen at e; cases e
  | a :: as, [], ms, is, h, e => by cases a <;> (unfold seen at e; cases e)
  | a :: as, r :: rs, ms, is, h, e => by
    have h1 := h a List.mem_cons_self
    have e' : (r.frz.bind fun d => (seen as rs ms).map fun ds => d :: ds) = some (is.map .int) := by
      cases a with
      | pk i => cases h1
      | _ => unfold seen at e; exact e
    obtain ⟨d, e3, e4⟩ := bindSome e'
    obtain ⟨ds2, e5, e6⟩ := mapSome e4
    cases is with
    | nil => cases e6
    | cons i is =>
      injection e6 with q1 q2
      subst q1 q2
      rw [frz_int e3, seen_ints (fun a ha => h a (List.mem_cons_of_mem _ ha)) e5]
      rfl
/-- a thing that has a part sliced off -/
theorem sl_go {b1 b2 : Bool} {a : IE} {as : List IE} {H : Hp} {Q : VK} (hn : ∀ x ∈ as, isPk x = false) (lo hi : List Int → Option Int) (hs : ∀ ds d, opSem (.sl b1 b2) ds = some d → ∃ x is, ds = x :: is.map .int ∧ slOf x (lo is) (hi is) = some d)
    (q : tE K (evE Φ (.op (.sl b1 b2) (a :: as))) σ H Q) : tO K Φ a σ H fun x H1 => tPs K Φ as σ H1 fun is H2 => rSlAny K x (lo is) (hi is) H2 Q := by
  obtain ⟨F, L, ms, m, ms', R, e, k⟩ := q
  unfold evE at e
  obtain ⟨⟨rs, ms1⟩, e1, e2⟩ := bindSome e
  obtain ⟨ds, e3, e4⟩ := bindSome e2
  obtain ⟨d, e5, e6⟩ := mapSome e4
  cases e6
  obtain ⟨x, is, rfl, hsl⟩ := hs _ _ e5
  unfold evEs at e1
  obtain ⟨⟨r0, ms2⟩, f1, f2⟩ := bindSome e1
  obtain ⟨⟨rs', ms3⟩, f3, f4⟩ := mapSome f2
  cases f4
  cases n : isPk a with
  | true =>
    cases a with
    | pk j =>
      unfold evE at f1
      obtain ⟨m0, g1, g2⟩ := mapSome f1
      cases g2
      obtain ⟨v, _, _, hv, _⟩ := R.own.cut (joinSome g1)
      unfold seen at e3
      obtain ⟨mj, h1, h2⟩ := bindSome e3
      obtain ⟨dj, h3, h4⟩ := bindSome h2
      obtain ⟨ds2, h5, h6⟩ := mapSome h4
      injection h6 with q1 q2
      subst q1 q2
      have hr := seen_ints hn h5
      rw [hr] at f3
      refine ⟨v, hv, tPs_go R f3 fun F' H' L' R' E' => ?_⟩
      obtain ⟨v', La, Lb, w1, w2, _⟩ := R'.own.cut (joinSome h1)
      rw [hv] at w1; cases w1
      have opd : Opd F' H' dj v := by
        cases w2 with
        | val r => unfold MV.pk at h3; cases h3; exact .fz r
        | ls a b => unfold MV.pk at h3; cases h3; exact .ls a b
        | _ => exact nomatch (show none = some dj from h3)
      refine sl_dt (a := b1) (b := b2) R'.sub opd hsl fun v H2 md => ?_
      obtain ⟨F3, M3, g3⟩ := Got.made R' E' md
      exact k _ _ _ _ _ g3
    | _ => cases n
  | false =>
    have e3' : (r0.frz.bind fun d => (seen as rs' ms').map fun ds => d :: ds) = some (x :: is.map .int) := by
      cases a with
      | pk i => cases n
      | _ => unfold seen at e3; exact e3
    obtain ⟨dj, h3, h4⟩ := bindSome e3'
    obtain ⟨ds2, h5, h6⟩ := mapSome h4
    injection h6 with q1 q2
    subst q1 q2
    have hr := seen_ints hn h5
    rw [hr] at f3
    have main : tE K (evE Φ a) σ H fun x H1 => tPs K Φ as σ H1 fun is H2 => rSlAny K x (lo is) (hi is) H2 Q := by
      refine tE.go R f1 fun v F1 H1 L1 M1 g => ?_
      refine tPs_go g.rel f3 fun F' H' L' R' E' => ?_
      obtain ⟨w1, w2, w3⟩ := E'.beside g.res.fst g.dis
      have hd : ∀ a ∈ M1, F' a = none := fun a ha => (w2 a ha).1
      have R3 : Rel K (addF F' H' M1) H' ms' σ L' := R'.frz hd fun a ha hb => (w2 a hb).2 ha
      have E3 : Ext F H L (addF F' H' M1) H' L' := (g.ext.trans w3).trans (Ext.addF hd)
      have dt : Dt (addF F' H' M1) dj v := w1.frz R'.sub h3 (addF_sub hd) fun a ha => addF_in ha
      refine sl_dt (a := b1) (b := b2) R3.sub (.fz dt) hsl fun v H2 md => ?_
      obtain ⟨F3, M3, g3⟩ := Got.made R3 E3 md
      exact k _ _ _ _ _ g3
    cases a with
    | pk i => cases n
    | _ => exact main
theorem pe_sl00 {a : IE} {e : Expr} {p2 pos : Pos} (he : PE X e (tO X.K Φ a)) : PE X (.Subscript e (.Slice none none none p2) pos) (tE X.K (evE Φ (.op (.sl false false) [a]))) :=
  (pe_slice sl_any he po_none po_none).of fun σ H Q q => by
    refine sl_go (lo := fun _ => none) (hi := fun _ => none) (by simp) (fun ds d e => ?_) q
    have e : s_sl_false_false ds = some d := e
    unfold s_sl_false_false at e
    split at e
    · exact ⟨_, [], rfl, e⟩
    · cases e
theorem pe_sl10 {a l : IE} {e el : Expr} {p2 pos : Pos} (he : PE X e (tO X.K Φ a)) (hl : PE X el (tE X.K (evE Φ l))) (n : isPk l = false) : PE X (.Subscript e (.Slice (some el) none none p2) pos) (tE X.K (evE Φ (.op (.sl true false) [a, l]))) :=
  (pe_slice sl_any he (po_some hl) po_none).of fun σ H Q q => by
    refine sl_go (lo := fun is => is[0]?) (hi := fun _ => none) (by simpa using n) (fun ds d e => ?_) q
    have e : s_sl_true_false ds = some d := e
    unfold s_sl_true_false at e
    split at e
    · exact ⟨_, [_], rfl, e⟩
    · cases e
theorem pe_sl01 {a l : IE} {e el : Expr} {p2 pos : Pos} (he : PE X e (tO X.K Φ a)) (hl : PE X el (tE X.K (evE Φ l))) (n : isPk l = false) : PE X (.Subscript e (.Slice none (some el) none p2) pos) (tE X.K (evE Φ (.op (.sl false true) [a, l]))) :=
  (pe_slice sl_any he po_none (po_some hl)).of fun σ H Q q => by
    refine sl_go (lo := fun _ => none) (hi := fun is => is[0]?) (by simpa using n) (fun ds d e => ?_) q
    have e : s_sl_false_true ds = some d := e
    unfold s_sl_false_true at e
    split at e
    · exact ⟨_, [_], rfl, e⟩
    · cases e
theorem pe_sl11 {a l h : IE} {e el eh : Expr} {p2 pos : Pos} (he : PE X e (tO X.K Φ a)) (hl : PE X el (tE X.K (evE Φ l))) (hh : PE X eh (tE X.K (evE Φ h))) (n : isPk l = false) (n' : isPk h = false) : PE X (.Subscript e (.Slice (some el) (some eh) none p2) pos) (tE X.K (evE Φ (.op (.sl true true) [a, l, h]))) :=
  (pe_slice sl_any he (po_some hl) (po_some hh)).of fun σ H Q q => by
    refine sl_go (lo := fun is => is[0]?) (hi := fun is => is[1]?) (by simp [n, n']) (fun ds d e => ?_) q
    have e : s_sl_true_true ds = some d := e
    unfold s_sl_true_true at e
    split at e
    · exact ⟨_, [_, _], rfl, e⟩
    · cases e
/-- an item -/
theorem pe_ixE (G : Good Φ c X) {a b : IE} {l r : Expr} {pos : Pos} (ha : PE X l (tO X.K Φ a)) (hb : PE X r (tO X.K Φ b)) (hs : noSlice r = true) : PE X (.Subscript l r pos) (tE X.K (evE Φ (.op .ix [a, b]))) :=
  (pe_ix (IxR.or ix_list ix_tup) ha hb (plain_ix hs)).of fun σ H Q q => op2_go ok_ix q
theorem pe_negE (G : Good Φ c X) {a : IE} {e : Expr} {pos : Pos} (ha : PE X e (tO X.K Φ a)) : PE X (.UnaryOp .USub e pos) (tE X.K (evE Φ (.op .neg [a]))) :=
  (pe_un un_neg ha).of fun σ H Q q => op1_go ok_neg q
end
end Rx
/-! Rx, part 17: pops, extend, things below, ops in place. -/
namespace Rx
open PySem PySem.Spec L2 PyProof.Rows
section
variable {Φ : Funs} {c : Cfg} {X : Cx} {K : PySem.W.Frag} {σ τ : L2.St} {prot : List Nat}

theorem DtAll.dropLast {F : Hp} {ds : List PyData} {vs : List V} (h : DtAll F ds vs) : DtAll F ds.dropLast vs.dropLast := by
  rw [List.dropLast_eq_take, List.dropLast_eq_take, h.len]
  exact h.take _
theorem DtAll.last {F : Hp} {ds : List PyData} {vs : List V} {d : PyData} (h : DtAll F ds vs) (e : ds.getLast? = some d) : ∃ v, vs[vs.length - 1]? = some v ∧ Dt F d v := by
  rw [List.getLast?_eq_getElem?, h.len] at e
  exact h.at_ e
/-- xs.pop() -/
theorem pe_popE (G : Good Φ c X) {i : Nat} {x : Str} {p apos cpos : Pos} (h : nameB c i x = true) (hl : (apos.endLine == cpos.line) = true) : PE X (.Call (.Attribute (.Name x p) "pop" apos) [] [] cpos) (tE X.K (evE Φ (.pop i))) := by
  refine (pe_bm0 PySem.F.plainAttrs_list PySem.F.slot_list_pop PySem.F.type_list_pop mt_pop (pe_name G h) rfl hl).of fun σ H Q q => ?_
  obtain ⟨F, L, ms, m, ms', R, e, k⟩ := q
  unfold evE at e
  obtain ⟨o, e1, e2⟩ := bindSome e
  obtain ⟨⟨d, m'⟩, e3, e4⟩ := mapSome e2
  cases e4
  cases o with
  | ls ds =>
    have e3 : ((ds.getLast?).map fun d => (d, MV.ls ds.dropLast)) = some (d, m') := e3
    obtain ⟨d', f1, f2⟩ := mapSome e3
    cases f2
    obtain ⟨a, vs, hv, ha, ty⟩ := ls_ty R (joinSome e1)
    obtain ⟨vs', w1, w2, w3⟩ := ls_chg R (joinSome e1) hv
    obtain ⟨v, l1, l2⟩ := w2.last f1
    obtain ⟨L', w4, w5⟩ := w3 w2.dropLast
    exact ⟨_, hv, ty, a, vs', v, rfl, rfl, w1, l1, k _ _ _ _ _ (Got.of w4 w5 l2)⟩
  | _ => exact nomatch (show none = some (d, m') from e3)
/-- xs.pop(e) -/
theorem pe_popiE (G : Good Φ c X) {i : Nat} {x : Str} {a : IE} {e : Expr} {p apos cpos : Pos} (h : nameB c i x = true) (he : PE X e (tE X.K (evE Φ a))) (hp : plainE e = true) (hl : (apos.endLine == cpos.line) = true) :
    PE X (.Call (.Attribute (.Name x p) "pop" apos) [e] [] cpos) (tE X.K (evE Φ (.popi i a))) := by
  refine (pe_bm PySem.F.plainAttrs_list PySem.F.slot_list_pop PySem.F.type_list_pop mt_popAt (pe_name G h) (pa1 he hp) rfl (few1 hp) hl (star_cons hp) rfl).of fun σ H Q q => ?_
  obtain ⟨F, L, ms, m, ms', R, e, k⟩ := q
  unfold evE at e
  obtain ⟨_, e0, e⟩ := bindSome e
  obtain ⟨⟨v, ms1⟩, e1, e⟩ := bindSome e
  obtain ⟨kd, e2, e⟩ := bindSome e
  obtain ⟨o, e3, e⟩ := bindSome e
  obtain ⟨⟨d, m'⟩, e4, e5⟩ := mapSome e
  cases e5
  obtain ⟨ds0, e8⟩ := lsAt_ok e0
  obtain ⟨a0, vs0, hv, ha, ty⟩ := ls_ty R e8
  refine ⟨_, hv, ty, tE.go R e1 fun y F1 H1 L1 M g => ?_⟩
  obtain ⟨F2, dt, R2, E2⟩ := g.frz1 e2
  cases o with
  | ls ds =>
    have e4 : (if ds.length < lim then (idxOf ds.length kd).bind fun j => (ds[j]?).map fun d => (d, MV.ls (ds.eraseIdx j)) else none) = some (d, m') := e4
    split at e4
    case isFalse => cases e4
    rename_i hlim
    obtain ⟨j, f1, f2⟩ := bindSome e4
    obtain ⟨d', f3, f4⟩ := mapSome f2
    cases f4
    obtain ⟨ii, rfl, hj⟩ := idx_of f1 dt
    obtain ⟨vs', w1, w2, w3⟩ := ls_chg R2 (joinSome e3) hv
    obtain ⟨v', l1, l2⟩ := w2.at_ f3
    obtain ⟨L', w4, w5⟩ := w3 (w2.era j)
    rw [w2.len] at hj
    obtain ⟨q1, q2, q3, q4⟩ := ixN_seq hj
    have hsz : vs'.length < 1000000 := by rw [← w2.len]; exact hlim
    exact ⟨a0, vs', ii, j, v', rfl, rfl, w1, by omega, by omega, q1, l1, k _ _ _ _ _ (Got.of w4 (E2.trans w5) l2)⟩
  | _ => exact nomatch (show none = some (d, m') from e4)
/-- d["k"].pop() -/
theorem pe_dpopE (G : Good Φ c X) {i : Nat} {x y : Str} {j : Nat} {p p2 p3 apos cpos : Pos} (h : nameB c i x = true) (hl : (apos.endLine == cpos.line) = true) : PE X (.Call (.Attribute (.Subscript (.Name x p) (.Constant (.str y) j p2) p3) "pop" apos) [] [] cpos) (tE X.K (evE Φ (.dpop i y))) := by
  have hu : X.A.units + 1 < cLine := by have := G.un; omega
  refine (pe_bm0 PySem.F.plainAttrs_list PySem.F.slot_list_pop PySem.F.type_list_pop mt_pop (pe_dget hu (pe_name G h) pe_str fun _ _ => rfl) rfl hl).of fun σ H Q q => ?_
  obtain ⟨F, L, ms, m, ms', R, e, k⟩ := q
  unfold evE at e
  split at e
  case h_2 => cases e
  rename_i ks cs e1
  obtain ⟨jj, e2, e⟩ := bindSome e
  obtain ⟨cm, e3, e⟩ := bindSome e
  obtain ⟨⟨d, c'⟩, e4, e5⟩ := mapSome e
  cases e5
  obtain ⟨ov, La, h1, h2, h3, h4, h5⟩ := R.chg (M := []) (joinSome e1) List.nodup_nil (fun _ z => by cases z)
  cases h2 with
  | @dct a _ _ vs Lk ha hlen rs =>
    obtain ⟨n1, n2⟩ := List.nodup_cons.mp h3
    obtain ⟨u, Lj, g1, g2, g3, g4, g5⟩ := rs.kid e3 n2
    cases cm with
    | ls ds =>
      have e4 : ((ds.getLast?).map fun d => (d, MV.ls ds.dropLast)) = some (d, c') := e4
      obtain ⟨d', f1, f2⟩ := mapSome e4
      cases f2
      cases g2 with
      | @ls b _ ws hb rb =>
        obtain ⟨v, l1, l2⟩ := rb.last f1
        have hba : b ≠ a := fun z => n1 (z ▸ g4 b (List.mem_singleton.mpr rfl))
        obtain ⟨L', q1, q2, q3⟩ := g5 (H' := upd H b (.lst ws.dropLast)) (c' := .ls ds.dropLast) (v' := .ref b) (Lj' := [b]) (M := []) (fun w _ hw => upd_ne fun z => hw (by rw [z]; exact List.mem_singleton.mpr rfl)) (.ls upd_same rb.dropLast) (by simp) (fun w hw => .inl hw) (fun _ z => by cases z)
        have hset : vs.set jj (.ref b) = vs := by
          apply List.ext_getElem?
          intro t
          by_cases ht : jj = t
          · subst ht
            obtain ⟨hlt, _⟩ := List.getElem?_eq_some_iff.mp g1
            rw [List.getElem?_set_self hlt, g1]
          · rw [List.getElem?_set_ne ht]
        rw [hset] at q1
        have own' : Own X.K F (upd H b (.lst ws.dropLast)) (.dct ks (cs.set jj (.ls ds.dropLast))) (.ref a) (a :: L') := .dct (by rw [upd_ne (Ne.symm hba)]; exact ha) hlen q1
        obtain ⟨L2, w1, w2⟩ := h5 own' (List.nodup_cons.mpr ⟨fun z => (q3 a z).elim n1 fun y => (by cases y), q2⟩) (fun w hw => .inl ((List.mem_cons.mp hw).elim (fun z => by rw [z]; exact List.mem_cons_self) fun z => (q3 w z).elim (List.mem_cons_of_mem _) fun y => (by cases y))) fun w hw => upd_ne fun z => hw (by rw [z]; exact List.mem_cons_of_mem _ (g4 b (List.mem_singleton.mpr rfl)))
        rw [List.append_nil] at w2
        have hget : DGet H a (.str y) (some (.ref b)) := by
          have z := findK_val hlen e2 g1
          rw [← z]
          exact DGet.k (k := .inr y) ha
        exact ⟨.ref a, h1, a, .ref b, rfl, hget, .inl ⟨rfl, _, SqL.of hb⟩, b, ws, v, rfl, rfl, hb, l1, k _ _ _ _ _ (Got.of w1 w2 l2)⟩
    | _ => exact nomatch (show none = some (d, c') from e4)
/-- x op= e, ints -/
def augO : Op → Option Operator
  | .add => some .Add | .sub => some .Sub
  | _ => none
theorem ps_augE (G : Good Φ c X) {i : Nat} {x : Str} {o : Op} {bo : Operator} {a : IE} {e : Expr} {p pos : Pos} (h : ownB c i x = true) (ho : augO o = some bo) (hp : i ∉ prot) (he : PE X e (tE X.K (evE Φ a))) : PS X (.AugAssign (.Name x p) bo e pos) (tSt X.K prot (evS Φ (.aug i o a))) := by
  have hN : X.N[i]? = some x ∧ Loc X.env.scope x ∧ (X.fn x = true ∨ X.env.scope.names.lookup x = some .local) := by
    unfold ownB at h
    rw [Bool.and_eq_true, decide_eq_true_eq] at h
    have hx : c.own.names.lookup x = some .local ∨ c.own.names.lookup x = some .cell := by
      have h2 := h.2
      split at h2
      · exact .inl (by assumption)
      · exact .inr (by assumption)
      · cases h2
    obtain ⟨l, f⟩ := G.st x hx
    exact ⟨by rw [G.N]; exact h.1, l, f⟩
  have main : ∀ (f : Int → Int → Int), (∀ a b : Int, opSem o [.int a, .int b] = some (.int (f a b))) → ∀ D σ H, tSt X.K prot (evS Φ (.aug i o a)) D σ H → tAug i (tE X.K (evE Φ a)) (ipI f) D σ H := fun f hf D σ H q => by
    obtain ⟨F, L, ms, out, R, ee, k⟩ := q
    unfold evS at ee
    split at ee
    case h_2 => cases ee
    rename_i x0 e0
    obtain ⟨⟨v, ms1⟩, e1, ee⟩ := bindSome ee
    obtain ⟨y, e2, ee⟩ := bindSome ee
    split at ee
    case h_2 => cases ee
    rename_i ia ib _ _
    rw [hf] at ee
    cases ee
    obtain ⟨w, La, Lb, h1, h2, _⟩ := R.own.cut (joinSome e0)
    cases h2 with
    | val h2 =>
      cases h2
      refine ⟨_, h1, tE.go R e1 fun yv F1 H1 L1 M g => ?_⟩
      obtain ⟨F2, dt, R2, E2⟩ := g.frz1 e2
      cases dt
      refine ⟨ia, ib, rfl, rfl, ?_⟩
      by_cases hi : i < ms1.length
      · obtain ⟨L', R', hL⟩ := R2.put (.int (f ia ib)) hi
        exact k _ _ _ _ R' (E2.trans ((Ext.refl _ _ _).less hL)) (Keep.set _ hp)
      · have hs : i < σ.length := (List.getElem?_eq_some_iff.mp h1).1
        rw [R2.own.len] at hi
        exact absurd hs hi
  cases o <;> first | (cases ho; done) | skip
  · cases ho
    exact (ps_aug G.nd hN.1 hN.2.1 he ip_add hN.2.2).of (main _ fun _ _ => rfl)
  · cases ho
    exact (ps_aug G.nd hN.1 hN.2.1 he ip_sub hN.2.2).of (main _ fun _ _ => rfl)
/-- len(d["k"]) -/
theorem pe_dlenE (G : Good Φ c X) {i : Nat} {x y z : Str} {j : Nat} {p p2 p3 p4 pos : Pos} (h : nameB c i x = true) (hz : z = "len") (hx : globB c z = true) : PE X (.Call (.Name z p4) [.Subscript (.Name x p) (.Constant (.str y) j p2) p3] [] pos) (tE X.K (evE Φ (.dlen i y))) := by
  have hu : X.A.units + 1 < cLine := by have := G.un; omega
  subst hz
  obtain ⟨g1, g2, g3⟩ := gl_of G hx
  refine (pe_callB call_len_seq g1 (G.bl _ (by decide)) boot_len (pa1 (pe_dget hu (pe_name G h) pe_str fun _ _ => rfl) rfl)).of fun σ H Q q => ?_
  obtain ⟨F, L, ms, m, ms', R, e, k⟩ := q
  unfold evE at e
  split at e
  case h_2 => cases e
  rename_i ks cs e1
  obtain ⟨jj, e2, e⟩ := bindSome e
  obtain ⟨cm, e3, e⟩ := bindSome e
  obtain ⟨v, La, Lb, h1, h2, _⟩ := R.own.cut (joinSome e1)
  cases h2 with
  | @dct a _ _ vs Lk ha hlen rs =>
    obtain ⟨u, Lj, g1, g2, g3⟩ := rs.at_ e3
    cases cm with
    | ls ds =>
      cases e
      cases g2 with
      | @ls b _ ws hb rb =>
        have hget : DGet H a (.str y) (some (.ref b)) := by
          have z := findK_val hlen e2 g1
          rw [← z]
          exact DGet.k (k := .inr y) ha
        refine ⟨.ref a, h1, a, .ref b, rfl, hget, b, ws, rfl, .inl (SqL.of hb), ?_⟩
        rw [← rb.len]
        exact k _ F H L [] (Got.of R (Ext.refl _ _ _) (.int _))
    | _ => exact nomatch (show none = some (m, ms') from e)
end
end Rx
/-! Rx, more operations: classes of values, lists of ranges. -/
namespace Rx
open PySem PySem.Spec L2 PyProof.Rows
section
variable {Φ : Funs} {c : Cfg} {X : Cx} {K : PySem.W.Frag} {σ τ : L2.St} {prot : List Nat}
/-! ### isinstance -/
def Ty.name : Ty → String
  | .int => "int" | .bool => "bool" | .str => "str" | .tuple => "tuple" | .list => "list"
def tyN : PyData → String
  | .none => "NoneType" | .bool _ => "bool" | .int _ => "int" | .str _ => "str" | .list _ => "list" | .tuple _ => "tuple" | .dict _ => "dict"
theorem kitT (t : Ty) (d : PyData) (h : ∀ kv, d ≠ .dict kv) : kitB (tyN d) t.name = some (tyOk t d) := by
  cases d with
  | dict kv => exact absurd rfl (h kv)
  | none => cases t <;> (show kitB "NoneType" _ = some false; decide +kernel)
  | bool b => cases t <;> first | (show kitB "bool" _ = some true; decide +kernel) | (show kitB "bool" _ = some false; decide +kernel)
  | int b => cases t <;> first | (show kitB "int" _ = some true; decide +kernel) | (show kitB "int" _ = some false; decide +kernel)
  | str b => cases t <;> first | (show kitB "str" _ = some true; decide +kernel) | (show kitB "str" _ = some false; decide +kernel)
  | list b => cases t <;> first | (show kitB "list" _ = some true; decide +kernel) | (show kitB "list" _ = some false; decide +kernel)
  | tuple b => cases t <;> first | (show kitB "tuple" _ = some true; decide +kernel) | (show kitB "tuple" _ = some false; decide +kernel)
theorem Opd.ty {F H : Hp} (hs : Sub F H) {d : PyData} {v : V} (h : Opd F H d v) : TyX K H v (.type (tyN d)) := by
  cases h with
  | ls ha _ => exact .base (.lst ha)
  | fz r =>
    cases r with
    | non => exact .base .non
    | bl b => exact .base (.bl b)
    | int i => exact .base (.int i)
    | str x => exact .base (.str x)
    | lst ha _ => exact .base (.lst (hs _ _ ha))
    | tup ha _ => exact .fTuple (hs _ _ ha.choose_spec.1)
theorem ok_isa {K : PySem.W.Frag} (t : Ty) : OpOk (.isa t) (R1of fun x H Q => rIsi K [x, .ty t.name] H Q) := by
  intro F H ds vs d Q hs dt e k
  have e : s_isa t ds = some d := e
  unfold s_isa at e
  split at e
  · cases e
  · rename_i d0 hnd _
    cases e
    obtain ⟨v, rfl, r⟩ := dt.oneV
    exact ⟨v, .ty t.name, _, _, _, rfl, .ty _, r.ty hs, kit_ty (kitT t d0 fun kv z => hnd kv z), k _ _ (.bl _)⟩
  · cases e
def tyB : Ty → Str → Bool
  | .int, x => decide (x = "int") | .bool, x => decide (x = "bool") | .str, x => decide (x = "str") | .tuple, x => decide (x = "tuple") | .list, x => decide (x = "list")
theorem pe_tyE (G : Good Φ c X) {t : Ty} {x : Str} {p : Pos} (h : tyB t x = true) (hx : globB c x = true) : PE X (.Name x p) (L2.tC (.ty t.name)) := by
  obtain ⟨g1, g2, g3⟩ := gl_of G hx
  have fin : ∀ {y : Str} {n : String}, x = y → y ∈ blts → bootBuiltins y = some (.type n) → PE X (.Name x p) (L2.tC (.ty n)) := fun {y n} e hy hv => by
    subst e
    exact pe_bltn g1 (G.bl _ hy) hv rfl g3 g2
  cases t with
  | int => exact fin (of_decide_eq_true h) (by decide) (by decide +kernel)
  | bool => exact fin (of_decide_eq_true h) (by decide) (by decide +kernel)
  | str => exact fin (of_decide_eq_true h) (by decide) (by decide +kernel)
  | tuple => exact fin (of_decide_eq_true h) (by decide) (by decide +kernel)
  | list => exact fin (of_decide_eq_true h) (by decide) (by decide +kernel)
theorem pe_isaE (G : Good Φ c X) {t : Ty} {a : IE} {e : Expr} {z x : Str} {p p2 pos : Pos} (hz : z = "isinstance") (hg : globB c z = true) (h : tyB t x = true) (hx : globB c x = true) (ha : PE X e (tO X.K Φ a)) (hp : plainE e = true) : PE X (.Call (.Name z p) [e, .Name x p2] [] pos) (tE X.K (evE Φ (.op (.isa t) [a]))) := by
  subst hz
  obtain ⟨g1, g2, g3⟩ := gl_of G hg
  refine (pe_callB call_isi g1 (G.bl _ (by decide)) (by decide +kernel) (pa2 ha (pe_tyE G h hx) hp rfl) (by decide) (by decide) (star_cons hp) rfl).of fun σ H Q q => ?_
  exact tO_mono (op1_go (ok_isa t) q) fun _ _ q => q

/-! ### list(range(..)) -/
theorem rg_dt {F : Hp} (lo hi : Int) : DtAll F (rangeD lo hi) (rgV lo hi) := by
  unfold rangeD rgV
  have key : ∀ (f : Nat → Int) (l : List Nat), DtAll F (l.map fun k => PyData.int (f k)) (l.map fun k => V.int (f k)) := fun f l => by
    induction l with
    | nil => exact .nil
    | cons k l ih => exact .cons (.int _) ih
  exact key (fun k => lo + (k : Int)) _
theorem rg_ok {lo hi : Int} (h1 : -1000000 ≤ lo) (h2 : lo ≤ 1000000) (h3 : -1000000 ≤ hi) (h4 : hi ≤ 1000000) : RgOk lo hi := by
  refine ⟨by omega, by omega, by omega, by omega, ?_⟩
  have : (2 : Nat) ^ 24 = 16777216 := by decide
  omega
theorem ok_lr1 : OpOk .lrange1 (R1of fun x H1 Q => ∃ n, x = .int n ∧ RgOk 0 n ∧ ∀ q, H1 q = none → Q (.ref q) (upd H1 q (.lst (rgV 0 n)))) := by
  intro F H ds vs d Q hs dt e k
  have e : s_lrange1 ds = some d := e
  unfold s_lrange1 at e
  split at e
  · split at e
    · rename_i j _ hj
      cases e
      obtain ⟨v, rfl, r⟩ := dt.oneV
      cases r.intOf
      have h1 : -1000000 ≤ j := hj.1
      have h2 : j ≤ 1000000 := hj.2
      exact ⟨j, rfl, rg_ok (by omega) (by omega) h1 h2, fun q hq => k _ _ (.lst rfl hq (rg_dt 0 j))⟩
    · cases e
  · cases e
theorem ok_lr2 : OpOk .lrange2 (R2of fun x y H1 Q => ∃ i j, x = .int i ∧ y = .int j ∧ RgOk i j ∧ ∀ q, H1 q = none → Q (.ref q) (upd H1 q (.lst (rgV i j)))) := by
  intro F H ds vs d Q hs dt e k
  have e : s_lrange2 ds = some d := e
  unfold s_lrange2 at e
  split at e
  · split at e
    · rename_i i j _ hj
      cases e
      obtain ⟨v, u, rfl, r, r'⟩ := dt.two
      cases r.intOf; cases r'.intOf
      obtain ⟨h1, h2, h3, h4⟩ := hj
      have h1 : -1000000 ≤ i := h1
      have h2 : i ≤ 1000000 := h2
      have h3 : -1000000 ≤ j := h3
      have h4 : j ≤ 1000000 := h4
      exact ⟨i, j, rfl, rfl, rg_ok h1 h2 h3 h4, fun q hq => k _ _ (.lst rfl hq (rg_dt i j))⟩
    · cases e
  · cases e
theorem pe_lr1E (G : Good Φ c X) {a : IE} {e : Expr} {y z : Str} {p1 p2 p3 p4 : Pos} (hy : y = "list") (hz : z = "range") (gy : globB c y = true) (gz : globB c z = true) (ha : PE X e (tO X.K Φ a)) (hp : plainE e = true) :
    PE X (.Call (.Name y p1) [.Call (.Name z p2) [e] [] p3] [] p4) (tE X.K (evE Φ (.op .lrange1 [a]))) := by
  subst hy hz
  obtain ⟨g1, _, _⟩ := gl_of G gy
  obtain ⟨g2, _, _⟩ := gl_of G gz
  exact (pe_listRg G.calm g1 (G.bl _ (by decide)) (prg_1 g2 (G.bl _ (by decide)) ha (star_cons hp))).of fun σ H Q q => op1_go ok_lr1 q
theorem pe_lr2E (G : Good Φ c X) {a b : IE} {e e' : Expr} {y z : Str} {p1 p2 p3 p4 : Pos} (hy : y = "list") (hz : z = "range") (gy : globB c y = true) (gz : globB c z = true) (ha : PE X e (tO X.K Φ a)) (hb : PE X e' (tO X.K Φ b)) (hp : plainE e = true) (hp' : plainE e' = true) :
    PE X (.Call (.Name y p1) [.Call (.Name z p2) [e, e'] [] p3] [] p4) (tE X.K (evE Φ (.op .lrange2 [a, b]))) := by
  subst hy hz
  obtain ⟨g1, _, _⟩ := gl_of G gy
  obtain ⟨g2, _, _⟩ := gl_of G gz
  exact (pe_listRg G.calm g1 (G.bl _ (by decide)) (prg_2 g2 (G.bl _ (by decide)) ha hb (by rw [star_cons hp]) (star_cons hp') (by rw [star_cons hp']; rfl))).of fun σ H Q q => op2_go ok_lr2 q
end
end Rx
/-! Rx, more: lists below, stores into places. -/
namespace Rx
open PySem PySem.Spec L2 PyProof.Rows
section
variable {Φ : Funs} {c : Cfg} {X : Cx} {K : PySem.W.Frag} {σ τ : L2.St} {prot : List Nat}
theorem set_same {α : Type} {xs : List α} {j : Nat} {x : α} (h : xs[j]? = some x) : xs.set j x = xs := by
  apply List.ext_getElem?
  intro t
  by_cases ht : j = t
  · subst ht
    rw [List.getElem?_set_self (List.getElem?_eq_some_iff.mp h).1, h]
  · rw [List.getElem?_set_ne ht]
/-- a kid's list, and the whole with it changed -/
theorem kid_ok {F H : Hp} {o : MV} {ov : V} {M : List Addr} {kd : PyData} {kv : V} {j : Nat} {ds : List PyData} (r : Own K F H o ov M) (nd : M.Nodup) (rk : Dt F kd kv) (e : kidOf o kd = some (j, .ls ds)) :
    ∃ l ws, (∀ H2 Q, (∀ a ∈ M, H2 a = H a) → Q (.ref l) H2 → rIxA K ov kv H2 Q) ∧ l ∈ M ∧ H l = some (.lst ws) ∧ DtAll F ds ws ∧
      ∀ {F' H' : Hp} {ds' : List PyData} {ws' : List V}, Sub F F' → (∀ a ∈ M, H' a = H a) → DtAll F' ds' ws' → Own K F' (upd H' l (.lst ws')) (putKid o j (.ls ds')) ov M := by
  have main : ∀ {cs : List MV} {vs : List V} {a : Addr} {Lk : List Addr}, (a :: Lk).Nodup → OwnAll K F H cs vs Lk → ((idxOf cs.length kd).bind fun j => (cs[j]?).map fun c => (j, c)) = some (j, .ls ds) →
      ∃ l ws i, kv = .int i ∧ atI vs i = some (.ref l) ∧ l ∈ Lk ∧ H l = some (.lst ws) ∧ DtAll F ds ws ∧ ∀ {F' H' : Hp} {ds' : List PyData} {ws' : List V}, Sub F F' → (∀ b ∈ Lk, H' b = H b) → DtAll F' ds' ws' → ∃ L', OwnAll K F' (upd H' l (.lst ws')) (cs.set j (.ls ds')) vs L' ∧ L'.Nodup ∧ L' = Lk := fun {cs vs a Lk} nd rs e => by
    obtain ⟨j', e1, e2⟩ := bindSome e
    obtain ⟨c', e3, e4⟩ := mapSome e2
    cases e4
    obtain ⟨i, rfl, hj⟩ := idx_of e1 rk
    obtain ⟨n1, n2⟩ := List.nodup_cons.mp nd
    have key : ∀ {cs : List MV} {vs : List V} {Lk : List Addr} {j : Nat}, OwnAll K F H cs vs Lk → Lk.Nodup → cs[j]? = some (.ls ds) → ∃ l ws, vs[j]? = some (.ref l) ∧ l ∈ Lk ∧ H l = some (.lst ws) ∧ DtAll F ds ws ∧
        ∀ {F' H' : Hp} {ds' : List PyData} {ws' : List V}, Sub F F' → (∀ b ∈ Lk, H' b = H b) → DtAll F' ds' ws' → OwnAll K F' (upd H' l (.lst ws')) (cs.set j (.ls ds')) vs Lk := by
      intro cs
      induction cs with
      | nil => intro vs Lk j _ _ e; simp at e
      | cons m cs ih =>
        intro vs Lk j rs nd e
        cases rs with
        | @cons _ _ v vs L1 L2 r t =>
          obtain ⟨n1, n2, n3⟩ := List.nodup_append.mp nd
          cases j with
          | zero =>
            simp at e; subst e
            cases r with
            | @ls l _ ws hl rl =>
              refine ⟨l, ws, rfl, List.mem_append_left _ (List.mem_singleton.mpr rfl), hl, rl, fun {F' H' ds' ws'} hs hk rd => ?_⟩
              refine .cons (L1 := [l]) (.ls upd_same rd) (t.keep hs fun b hb => ?_)
              rw [upd_ne fun z => n3 l (List.mem_singleton.mpr rfl) b hb z.symm]
              exact hk b (List.mem_append_right _ hb)
          | succ j =>
            obtain ⟨l, ws, h1, h2, h3, h4, h5⟩ := ih (j := j) t n2 (by simpa using e)
            refine ⟨l, ws, by simpa using h1, List.mem_append_right _ h2, h3, h4, fun {F' H' ds' ws'} hs hk rd => ?_⟩
            refine .cons (r.keep hs fun b hb => ?_) (h5 hs (fun b hb => hk b (List.mem_append_right _ hb)) rd)
            rw [upd_ne fun z => n3 b hb l h2 z]
            exact hk b (List.mem_append_left _ hb)
    obtain ⟨l, ws, h1, h2, h3, h4, h5⟩ := key rs n2 e3
    refine ⟨l, ws, i, rfl, ?_, h2, h3, h4, fun {F' H' ds' ws'} hs hk rd => ⟨Lk, h5 hs hk rd, n2, rfl⟩⟩
    unfold atI
    rw [← rs.len, hj]
    exact h1
  cases r with
  | @lst a cs vs Lk ha rs =>
    obtain ⟨l, ws, i, rfl, h1, h2, h3, h4, h5⟩ := main nd rs e
    refine ⟨l, ws, fun H2 Q hk q => .inl ⟨a, vs, i, .ref l, rfl, rfl, SqL.of ((hk a List.mem_cons_self).trans ha), h1, q⟩, List.mem_cons_of_mem _ h2, h3, h4, fun {F' H' ds' ws'} hs hk rd => ?_⟩
    obtain ⟨L', q1, q2, rfl⟩ := h5 hs (fun b hb => hk b (List.mem_cons_of_mem _ hb)) rd
    have ne : a ≠ l := fun z => (List.nodup_cons.mp nd).1 (by rw [z]; exact h2)
    exact .lst ((upd_ne ne).trans ((hk a List.mem_cons_self).trans ha)) q1
  | @tup a cs vs Lk ha rs =>
    obtain ⟨l, ws, i, rfl, h1, h2, h3, h4, h5⟩ := main nd rs e
    refine ⟨l, ws, fun H2 Q hk q => .inr ⟨a, vs, i, .ref l, rfl, rfl, (ha.eq (hk a List.mem_cons_self)).sq, h1, q⟩, List.mem_cons_of_mem _ h2, h3, h4, fun {F' H' ds' ws'} hs hk rd => ?_⟩
    obtain ⟨L', q1, q2, rfl⟩ := h5 hs (fun b hb => hk b (List.mem_cons_of_mem _ hb)) rd
    have ne : a ≠ l := fun z => (List.nodup_cons.mp nd).1 (by rw [z]; exact h2)
    exact .tup (ha.eq ((upd_ne ne).trans (hk a List.mem_cons_self))) q1
  | _ => exact nomatch (show none = some (j, MV.ls ds) from e)
/-- x[k].append(e) -/
theorem ps_append1E (G : Good Φ c X) {i : Nat} {x : Str} {k a : IE} {ke e : Expr} {p p2 apos cpos pos : Pos} (h : nameB c i x = true) (hk : PE X ke (tE X.K (evE Φ k))) (hs : noSlice ke = true) (he : PE X e (tE X.K (evE Φ a))) (hp : plainE e = true) (hl : (apos.endLine == cpos.line) = true) :
    PS X (.Expr (.Call (.Attribute (.Subscript (.Name x p) ke p2) "append" apos) [e] [] cpos) pos) (tSt X.K prot (evS Φ (.append1 i k a))) := by
  refine (ps_expr (pe_bm PySem.F.plainAttrs_list PySem.F.slot_list_append PySem.F.type_list_append mt_append (pe_ix (IxR.or ix_list ix_tup) (pe_name G h) hk (plain_ix hs)) (pa1 he hp) rfl (few1 hp) hl (star_cons hp) rfl) rfl).of fun D σ H q => ?_
  obtain ⟨F, L, ms, out, R, ee, kk⟩ := q
  unfold evS at ee
  obtain ⟨_, e0, ee⟩ := bindSome ee
  obtain ⟨⟨q, ms1⟩, e1, ee⟩ := bindSome ee
  obtain ⟨kd, e2, ee⟩ := bindSome ee
  obtain ⟨o, e3, ee⟩ := bindSome ee
  obtain ⟨⟨j, cm⟩, e4, ee⟩ := bindSome ee
  obtain ⟨_, e5, ee⟩ := bindSome ee
  obtain ⟨⟨v, ms2⟩, e6, ee⟩ := bindSome ee
  obtain ⟨d, e7, ee⟩ := bindSome ee
  split at ee
  case h_2 => cases ee
  rename_i hn
  obtain ⟨c', e8, ee⟩ := mapSome ee
  subst ee
  cases cm with
  | ls ds =>
    have e8 : (if ds.length < lim then some (MV.ls (ds ++ [d])) else none) = some c' := e8
    split at e8
    case isFalse => cases e8
    rename_i hlt
    cases e8
    obtain ⟨_, ov0, _, hv0⟩ := there_ok e0 R
    refine ⟨ov0, hv0, tE.go R e1 fun kv F1 H1 L1 M g => ?_⟩
    obtain ⟨F2, dk, R2, E2⟩ := g.frz1 e2
    obtain ⟨ov, L3, Mo, hov, g3⟩ := Got.mov R2 e3
    rw [hv0] at hov; cases hov
    have own := g3.res.fst
    obtain ⟨l, ws, k1, k2, k3, k4, k5⟩ := kid_ok own g3.nd dk e4
    refine k1 H1 _ (fun _ _ => rfl) ⟨.inl ⟨rfl, ws, SqL.of k3⟩, ?_⟩
    refine tE.go g3.rel e6 fun y F4 H4 L4 M4 g4 => ?_
    obtain ⟨F5, dy, R5, E5⟩ := g4.frz1 e7
    obtain ⟨_, w2, w3⟩ := E5.beside own g3.dis
    have same : ∀ b ∈ Mo, H4 b = H1 b := fun b hb => by
      obtain ⟨ob, eb⟩ := own.there b hb
      rw [eb]
      exact E5.keep b ob eb (g3.dis b hb).2
    have atl : H4 l = some (.lst ws) := (same l k2).trans k3
    have rs : DtAll F5 (ds ++ [d]) (ws ++ [y]) := (k4.mono E5.fr).app (.one dy)
    have own' := k5 (F' := F5) (H' := H4) E5.fr same rs
    have hl5 : l ∉ L4 := fun z => (w2 l k2).2 z
    have R6 : OwnS X.K F5 (upd H4 l (.lst (ws ++ [y]))) ms2 σ L4 := R5.own.keep (Sub.refl _) fun b hb => upd_ne fun z => hl5 (z ▸ hb)
    obtain ⟨L7, f1, f2, f3⟩ := R6.fill hn hv0 own'
    have hF : F5 l = none := (w2 l k2).1
    have R7 : Rel X.K F5 (upd H4 l (.lst (ws ++ [y]))) (ms2.set i (some (putKid o j (.ls (ds ++ [d]))))) σ L7 := ⟨f1, f3 R5.nd g3.nd fun b hb z => (w2 b hb).2 z, R5.sub.updR hF, fun b hb => ((f2 b).mp hb).elim (fun z => (w2 b z).1) (R5.dis b)⟩
    refine ⟨l, ws, y, rfl, rfl, atl, by rw [← k4.len]; exact lim_lt hlt, kk σ F5 _ L7 R7 ?_ (Keep.refl _ _)⟩
    have E6 : Ext F H L F5 H4 (L4 ++ Mo) := (E2.trans g3.ext).trans w3
    refine ⟨E6.fr, fun b ob eb nb => ?_, fun b ob eb nb z => ?_, E6.same⟩
    · have nl : b ≠ l := fun z => E6.off b ob eb nb (List.mem_append_right _ (by rw [z]; exact k2))
      rw [upd_ne nl]
      exact E6.keep b ob eb nb
    · exact E6.off b ob eb nb (((f2 b).mp z).elim (List.mem_append_right _) (List.mem_append_left _))
  | _ => exact nomatch (show none = some _ from e5)
end
end Rx
/-! Rx, more: enumerate over lists and tuples. -/
namespace Rx
open PySem PySem.Spec L2 PyProof.Rows
theorem meets_enumB {v : Value} {o : Obj} {H : Heap → Prop} (B : Begins v o H) :
    Meets (Builtin.«enumerate.__new__» ⟨[.type "enumerate", v], []⟩) (fun _ R s => H s.heap ∧
      R (.ok (.ret (.ref (s.heap.push o).objs.size))) { s with heap := (s.heap.push o).push { cls := .type "enumerate", data := .fields #[.none, .bool false, .ref s.heap.objs.size, rawInt 0, .none, .none] } }) :=
  .of_wp fun prog w A R s h => by
    obtain ⟨hp, g, d, tk, os⟩ := s; obtain ⟨h1, h⟩ := h
    have hsub := sub_enumerate
    have q1 : ∀ {A' : Around} {E : Value → Shared → Prop} {Q : Value → Shared → Prop}, Q (.ref hp.objs.size) ⟨hp.push o, g, d, tk, os⟩ → wpAny (model prog w) A' (pyIter v) Q E ⟨hp, g, d, tk, os⟩ :=
      fun q => B.iter prog w _ _ ⟨hp, g, d, tk, os⟩ _ h1 q
    wp_walk using q1
    refine wpAny_stack_any fun st => wpAny_pure ?_
    split
    · rename_i c _ _ _ _ _
      cases (c == Value.type "enumerate")
      · wp_walk using q1
        exact ⟨_, rfl, h⟩
      · wp_walk using q1
        exact ⟨_, rfl, h⟩
    · wp_walk using q1
      exact ⟨_, rfl, h⟩
theorem call_enumT {prog : Program} {w : World} {A : Around} {E : Value → Shared → Prop} {s : Shared} {t : Addr} {items : Array Value} {Q : Value → Shared → Prop} (ht : s.heap.IsTuple t items)
    (h : ∀ h', IsEnum h' (s.heap.objs.size + 1) s.heap.objs.size 0 .none → h'.IsTupleIter s.heap.objs.size t 0 → (∀ b o, s.heap.get? b = some o → h'.get? b = some o) → Q (.ref (s.heap.objs.size + 1)) { s with heap := h' }) :
    wpAny (model prog w) A (call (.type "enumerate") [.ref t]) Q E s := by
  have B := begins_tuple t items
  refine callType_new F.called_enumerate (by decide) (F.typeCall_enumerate_1 _) (F.newCall_enumerate_1 _) (fun obj => F.args_object_init_2 obj _) F.entry_enumerate_new
    (meets_enumB B) ⟨ht, ?_⟩
  generalize ho : ({ cls := .type "tuple_iterator", data := .fields #[.ref t, .int 0 0] } : Obj) = o at B
  have hz : (s.heap.push o).objs.size = s.heap.objs.size + 1 := Heap.size_push ..
  show _ ∧ _
  rw [hz]
  have he : IsEnum ((s.heap.push o).push { cls := .type "enumerate", data := .fields #[.none, .bool false, .ref s.heap.objs.size, rawInt 0, .none, .none] }) (s.heap.objs.size + 1) s.heap.objs.size 0 .none := by
    have := Heap.get?_push_size (s.heap.push o) (o := { cls := .type "enumerate", data := .fields #[.none, .bool false, .ref s.heap.objs.size, rawInt 0, .none, .none] }) rfl
    rw [hz] at this; exact this
  refine ⟨⟨_, he, rfl⟩, h _ he ?_ fun b o x => Heap.get?_push_of_some _ (Heap.get?_push_of_some _ x)⟩
  subst ho
  exact ⟨_, Heap.get?_push_of_some _ (Heap.get?_push_size _ rfl), rfl, rfl⟩
theorem call_enumL {prog : Program} {w : World} {A : Around} {E : Value → Shared → Prop} {s : Shared} {t : Addr} {items : Array Value} {Q : Value → Shared → Prop} (ht : s.heap.IsList t items)
    (h : ∀ h', IsEnum h' (s.heap.objs.size + 1) s.heap.objs.size 0 .none → h'.IsListIter s.heap.objs.size t 0 → (∀ b o, s.heap.get? b = some o → h'.get? b = some o) → Q (.ref (s.heap.objs.size + 1)) { s with heap := h' }) :
    wpAny (model prog w) A (call (.type "enumerate") [.ref t]) Q E s := by
  have B := begins_list t items
  refine callType_new F.called_enumerate (by decide) (F.typeCall_enumerate_1 _) (F.newCall_enumerate_1 _) (fun obj => F.args_object_init_2 obj _) F.entry_enumerate_new
    (meets_enumB B) ⟨ht, ?_⟩
  generalize ho : ({ cls := .type "list_iterator", data := .fields #[.ref t, .int 0 0] } : Obj) = o at B
  have hz : (s.heap.push o).objs.size = s.heap.objs.size + 1 := Heap.size_push ..
  show _ ∧ _
  rw [hz]
  have he : IsEnum ((s.heap.push o).push { cls := .type "enumerate", data := .fields #[.none, .bool false, .ref s.heap.objs.size, rawInt 0, .none, .none] }) (s.heap.objs.size + 1) s.heap.objs.size 0 .none := by
    have := Heap.get?_push_size (s.heap.push o) (o := { cls := .type "enumerate", data := .fields #[.none, .bool false, .ref s.heap.objs.size, rawInt 0, .none, .none] }) rfl
    rw [hz] at this; exact this
  refine ⟨⟨_, he, rfl⟩, h _ he ?_ fun b o x => Heap.get?_push_of_some _ (Heap.get?_push_of_some _ x)⟩
  subst ho
  exact ⟨_, Heap.get?_push_of_some _ (Heap.get?_push_size _ rfl), rfl, rfl⟩
/-- the tuple at a, each item in a new pair -/
def IteT (K : PySem.W.Frag) (a : Addr) : It :=
  ⟨fun i H => ∃ (xs : List V) (x : V), SqT K H a xs ∧ xs[i]? = some x, fun i H v H' => ∃ T o x, v = .ref T ∧ H T = none ∧ H' = upd H T (.frz o (.tup [.int (i : Nat), x])) ∧ TupO o ∧ ∀ xs, SqT K H a xs → xs[i]? = some x, fun i H => ∃ xs : List V, SqT K H a xs ∧ xs.length = i⟩
theorem turn_enumT {P : Program} {w : World} {K : PySem.W.Frag} {elts : List Expr} {kk : Nat} {tpos : Pos} (a e it : Addr) (hea : e ≠ a) (hia : a ≠ it) :
    Turn P w K (.Tuple elts kk tpos) (IteT K a) [e, it] e (fun i h => (∃ old, IsEnum h e it ((i : Nat) : Int) old) ∧ h.IsTupleIter it a i ∧ e ≠ it) where
  mem := by simp
  obj := fun i h st b hb => by
    obtain ⟨⟨old, he⟩, ⟨o, ho, hc, hd⟩, _⟩ := st
    have e' : b = e ∨ b = it := by simpa using hb
    rcases e' with z | z
    · rw [z]; exact ⟨_, he, fun v q => nomatch q⟩
    · rw [z]; exact ⟨o, ho, fun v q => by rw [hd] at q; cases q⟩
  keep := fun i h h' st k => let ⟨⟨old, he⟩, hi, hne⟩ := st; ⟨⟨old, k e (by simp) _ he⟩, hi.at fun o q => k it (by simp) o q, hne⟩
  item := by
    intro X hP hw hK hc i pins s σ H E I hf st hg
    subst hP hw hK
    obtain ⟨⟨old, he⟩, hit, hne⟩ := st
    obtain ⟨xs, x, hq, hx⟩ := hg
    obtain ⟨its, rv, p, hz⟩ := I.tuple hq
    obtain ⟨u, hu, ru⟩ := rv.get hx
    have hel : e < s.heap.objs.size := Heap.lt_size he
    have hil : it < s.heap.objs.size := by obtain ⟨_, q, _⟩ := hit; exact Heap.lt_size q
    have p' : s.heap.IsTuple a its.toArray := p
    have hil2 : i < its.toArray.size := by
      rw [List.size_toArray]
      exact (List.getElem?_eq_some_iff.mp hu).1
    refine wpAny_pyNext_enum_itemD (A := X.A) (Draws.tuple (A := X.A.in1) (by exact I.ok.hd hc) it a hia its.toArray) he ⟨hit, p'⟩ hil2 hne (by simp [hne, hea]) fun u' h' tk hP ho hit2 hT hsz hk => ?_
    obtain ⟨hit', _⟩ := hit2
    have : u' = u := by
      have z : its.toArray[i]? = some u' := hP
      have z2 : its.toArray[i]? = some u := by simpa using hu
      rw [z2] at z; cases z; rfl
    subst this
    refine ⟨_, rfl, wpAny_letOwnedTupleGo_enum (s := { s with heap := h', toks := tk + 1 }) ho fun h'' he' sb => ?_⟩
    have hT2 : h''.get? s.heap.objs.size = some { cls := .type "tuple", data := .seq #[.int i tk, u'] } := (sb.2 _ (Nat.ne_of_gt hel)).trans hT
    let oo : Obj := { cls := .type "tuple", data := .seq #[.int i tk, u'] }
    have new : ObjOk X.prog X.w (upd H s.heap.objs.size (.frz oo (.tup [.int (i : Nat), x]))) h'' s.heap.objs.size (.frz oo (.tup [.int (i : Nat), x])) :=
      ⟨hT2, by show 2 ≤ sizeLine; decide, [.int i tk, u'], .cons ⟨_, rfl⟩ (.cons ru .nil), ⟨_, hT2, rfl, _, rfl⟩⟩
    have I1 : Inv X pins σ (upd H s.heap.objs.size (.frz oo (.tup [.int (i : Nat), x]))) { s with heap := h'', toks := tk + 1 } :=
      I.turnedNew (ch := [e, it]) (fun b ob hb q => (sb.2 b (fun z => hb (by simp [z]))).trans (hk b ob (fun z => hb (by simp [z])) (fun z => hb (by simp [z])) q)) hf (Nat.le_refl _) new
    refine ⟨.ref s.heap.objs.size, _, I1, rfl, ⟨_, oo, x, rfl, I.hok.fresh (Nat.le_refl _), rfl, TupO.mk, fun ys hy => by rw [I.tuple_inj hy hq]; exact hx⟩, ⟨⟨u', ?_⟩, hit'.at fun o q => (sb.2 it (Ne.symm hne)).trans q, hne⟩, fun b hb => ?_⟩
    · have e1 : ((i + 1 : Nat) : Int) = (i : Int) + 1 := by omega
      rw [e1]; exact he'
    · have hb' : b < s.heap.objs.size := by
        have e' : b = e ∨ b = it := by simpa using hb
        rcases e' with z | z
        · rw [z]; exact hel
        · rw [z]; exact hil
      rw [upd_ne (Nat.ne_of_lt hb')]
      exact (hf b hb).1
  done := by
    intro X hP hw hK hc i pins s σ H E I hf st hg
    subst hP hw hK
    obtain ⟨⟨old, he⟩, hit, hne⟩ := st
    obtain ⟨xs, hq, hx⟩ := hg
    obtain ⟨its, rv, p, hz⟩ := I.tuple hq
    obtain ⟨f0, f1, f2, f3, f4, f5⟩ := hf it (by simp)
    have hl := rv.length
    have p' : s.heap.IsTuple a its.toArray := p
    refine wpAny_pyNext_enum_endD (A := X.A) (Draws.tuple (A := X.A.in1) (by exact I.ok.hd hc) it a hia its.toArray) he ⟨?_, p'⟩ fun h' eb => ⟨rfl, I.turned (t' := s.toks) (fun b o hb q => eb b o hb q) f0 f1 f3 f4 f5⟩
    have z : its.toArray.size = i := by rw [List.size_toArray]; omega
    rw [z]; exact hit
  self := fun A i s Q E st h => let ⟨⟨_, he⟩, _⟩ := st; wpAny_pyIter_enum he h
/-- the list at a, each item in a new pair -/
def IteL (K : PySem.W.Frag) (a : Addr) : It :=
  ⟨fun i H => ∃ (xs : List V) (x : V), SqL K H a xs ∧ xs[i]? = some x, fun i H v H' => ∃ T o x, v = .ref T ∧ H T = none ∧ H' = upd H T (.frz o (.tup [.int (i : Nat), x])) ∧ TupO o ∧ ∀ xs, SqL K H a xs → xs[i]? = some x, fun i H => ∃ xs : List V, SqL K H a xs ∧ xs.length = i⟩
theorem turn_enumL {P : Program} {w : World} {K : PySem.W.Frag} {elts : List Expr} {kk : Nat} {tpos : Pos} (a e it : Addr) (hea : e ≠ a) (hia : a ≠ it) :
    Turn P w K (.Tuple elts kk tpos) (IteL K a) [e, it] e (fun i h => (∃ old, IsEnum h e it ((i : Nat) : Int) old) ∧ h.IsListIter it a i ∧ e ≠ it) where
  mem := by simp
  obj := fun i h st b hb => by
    obtain ⟨⟨old, he⟩, ⟨o, ho, hc, hd⟩, _⟩ := st
    have e' : b = e ∨ b = it := by simpa using hb
    rcases e' with z | z
    · rw [z]; exact ⟨_, he, fun v q => nomatch q⟩
    · rw [z]; exact ⟨o, ho, fun v q => by rw [hd] at q; cases q⟩
  keep := fun i h h' st k => let ⟨⟨old, he⟩, hi, hne⟩ := st; ⟨⟨old, k e (by simp) _ he⟩, hi.at fun o q => k it (by simp) o q, hne⟩
  item := by
    intro X hP hw hK hc i pins s σ H E I hf st hg
    subst hP hw hK
    obtain ⟨⟨old, he⟩, hit, hne⟩ := st
    obtain ⟨xs, x, hq, hx⟩ := hg
    obtain ⟨its, rv, p, hz⟩ := I.list hq
    obtain ⟨u, hu, ru⟩ := rv.get hx
    have hel : e < s.heap.objs.size := Heap.lt_size he
    have hil : it < s.heap.objs.size := by obtain ⟨_, q, _⟩ := hit; exact Heap.lt_size q
    have p' : s.heap.IsList a its.toArray := p.isList
    have hil2 : i < its.toArray.size := by
      rw [List.size_toArray]
      exact (List.getElem?_eq_some_iff.mp hu).1
    refine wpAny_pyNext_enum_itemD (A := X.A) (Draws.list (A := X.A.in1) (by exact I.ok.hd hc) it a hia its.toArray) he ⟨hit, p'⟩ hil2 hne (by simp [hne, hea]) fun u' h' tk hP ho hit2 hT hsz hk => ?_
    obtain ⟨hit', _⟩ := hit2
    have : u' = u := by
      have z : its.toArray[i]? = some u' := hP
      have z2 : its.toArray[i]? = some u := by simpa using hu
      rw [z2] at z; cases z; rfl
    subst this
    refine ⟨_, rfl, wpAny_letOwnedTupleGo_enum (s := { s with heap := h', toks := tk + 1 }) ho fun h'' he' sb => ?_⟩
    have hT2 : h''.get? s.heap.objs.size = some { cls := .type "tuple", data := .seq #[.int i tk, u'] } := (sb.2 _ (Nat.ne_of_gt hel)).trans hT
    let oo : Obj := { cls := .type "tuple", data := .seq #[.int i tk, u'] }
    have new : ObjOk X.prog X.w (upd H s.heap.objs.size (.frz oo (.tup [.int (i : Nat), x]))) h'' s.heap.objs.size (.frz oo (.tup [.int (i : Nat), x])) :=
      ⟨hT2, by show 2 ≤ sizeLine; decide, [.int i tk, u'], .cons ⟨_, rfl⟩ (.cons ru .nil), ⟨_, hT2, rfl, _, rfl⟩⟩
    have I1 : Inv X pins σ (upd H s.heap.objs.size (.frz oo (.tup [.int (i : Nat), x]))) { s with heap := h'', toks := tk + 1 } :=
      I.turnedNew (ch := [e, it]) (fun b ob hb q => (sb.2 b (fun z => hb (by simp [z]))).trans (hk b ob (fun z => hb (by simp [z])) (fun z => hb (by simp [z])) q)) hf (Nat.le_refl _) new
    refine ⟨.ref s.heap.objs.size, _, I1, rfl, ⟨_, oo, x, rfl, I.hok.fresh (Nat.le_refl _), rfl, TupO.mk, fun ys hy => by rw [I.list_inj hy hq]; exact hx⟩, ⟨⟨u', ?_⟩, hit'.at fun o q => (sb.2 it (Ne.symm hne)).trans q, hne⟩, fun b hb => ?_⟩
    · have e1 : ((i + 1 : Nat) : Int) = (i : Int) + 1 := by omega
      rw [e1]; exact he'
    · have hb' : b < s.heap.objs.size := by
        have e' : b = e ∨ b = it := by simpa using hb
        rcases e' with z | z
        · rw [z]; exact hel
        · rw [z]; exact hil
      rw [upd_ne (Nat.ne_of_lt hb')]
      exact (hf b hb).1
  done := by
    intro X hP hw hK hc i pins s σ H E I hf st hg
    subst hP hw hK
    obtain ⟨⟨old, he⟩, hit, hne⟩ := st
    obtain ⟨xs, hq, hx⟩ := hg
    obtain ⟨its, rv, p, hz⟩ := I.list hq
    obtain ⟨f0, f1, f2, f3, f4, f5⟩ := hf it (by simp)
    have hl := rv.length
    have p' : s.heap.IsList a its.toArray := p.isList
    refine wpAny_pyNext_enum_endD (A := X.A) (Draws.list (A := X.A.in1) (by exact I.ok.hd hc) it a hia its.toArray) he ⟨?_, p'⟩ fun h' eb => ⟨rfl, I.turned (t' := s.toks) (fun b o hb q => eb b o hb q) f0 f1 f3 f4 f5⟩
    have z : its.toArray.size = i := by rw [List.size_toArray]; omega
    rw [z]; exact hit
  self := fun A i s Q E st h => let ⟨⟨_, he⟩, _⟩ := st; wpAny_pyIter_enum he h
section
variable {Φ : Funs} {c : Cfg} {X : Cx} {K : PySem.W.Frag} {σ : L2.St}
def iEnumT (K : PySem.W.Frag) (ta : TA) : TI := fun σ H R => ta σ H fun vs H1 => ∃ a xs, vs = [.ref a] ∧ SqT K H1 a xs ∧ R (IteT K a) H1
theorem pi_enumT {X : Cx} {e : Expr} {ta : TA} {p pos tpos : Pos} {elts : List Expr} {kk : Nat} (hg : Gl X "enumerate") (hm : X.mg "enumerate" = none) (ha : PA X [e] ta) (hs : starEach [e] X.env = [(false, eval e X.env)]) :
    PI X (.Tuple elts kk tpos) (.Call (.Name "enumerate" p) [e] [] pos) (iEnumT X.K ta) := by
  refine ⟨fun pins s σ H R I h => ?_⟩
  refine Call_ (ld_blt I hg hm boot_enumerate (PyProof.Rows.callWith_type1 (thn (ha.run pos pins s σ H _ I h) fun us s1 ⟨vs, H1, I1, r1, q1⟩ => ?_) hs rfl))
  obtain ⟨a, xs, ex, hq, q⟩ := q1
  subst ex
  cases r1 with
  | cons r rr =>
    cases rr
    cases r
    obtain ⟨its, rv, p', hz⟩ := I1.tuple hq
    have hal : a < s1.heap.objs.size := by obtain ⟨o, q, _⟩ := p'; exact Heap.lt_size q
    refine call_enumT (show s1.heap.IsTuple a its.toArray from p') fun h' he hit hk => wpAny_pyIter_enum he ?_
    have I2 : Inv X pins σ H1 { s1 with heap := h' } := I1.kept (t' := s1.toks) hk
    have n1 : s1.heap.objs.size + 1 ≠ a := Nat.ne_of_gt (Nat.lt_succ_of_lt hal)
    have n2 : a ≠ s1.heap.objs.size := Nat.ne_of_lt hal
    refine ⟨s1.heap.objs.size + 1, [s1.heap.objs.size + 1, s1.heap.objs.size], _, _, H1, rfl, I2, turn_enumT a (s1.heap.objs.size + 1) s1.heap.objs.size n1 n2, ⟨⟨.none, he⟩, hit, Nat.succ_ne_self _⟩, fun b hb => ?_, q⟩
    have e' : b = s1.heap.objs.size + 1 ∨ b = s1.heap.objs.size := by simpa using hb
    have hle : s1.heap.objs.size ≤ b := by
      rcases e' with z | z
      · rw [z]; exact Nat.le_add_right _ _
      · rw [z]; exact Nat.le_refl _
    exact I1.fpOk hle (I1.hok.fresh hle)
theorem wk_enumT {F : Hp} {a : Addr} {ds : List PyData} {vs : List V} (h : SqT K F a vs) (r : DtAll F ds vs) : Wk K F (IteT K a) (ds.zipIdx.map fun p => .tuple [.int p.2, p.1]) where
  goes := fun i H hi s => by
    rw [List.length_map, List.length_zipIdx, r.len] at hi
    exact ⟨vs, vs[i], SqT.mono s h, by simp [hi]⟩
  stops := fun H s => by
    rw [List.length_map, List.length_zipIdx, r.len]
    exact ⟨vs, SqT.mono s h, rfl⟩
  yields := fun i H x H' d e s y => by
    rw [enum_at] at e
    obtain ⟨d0, e1, e2⟩ := mapSome e
    cases e2
    obtain ⟨v, h1, h2⟩ := r.at_ e1
    obtain ⟨T, oo, u, z1, z2, z3, wo, z4⟩ := y
    have z5 := z4 vs (SqT.mono s h)
    rw [h1] at z5; cases z5
    exact .inr ⟨T, oo, _, _, rfl, z1, z2, z3, wo, .cons (.int _) (.cons h2 .nil)⟩
def iEnumL (K : PySem.W.Frag) (ta : TA) : TI := fun σ H R => ta σ H fun vs H1 => ∃ a xs, vs = [.ref a] ∧ SqL K H1 a xs ∧ R (IteL K a) H1
theorem pi_enumL {X : Cx} {e : Expr} {ta : TA} {p pos tpos : Pos} {elts : List Expr} {kk : Nat} (hg : Gl X "enumerate") (hm : X.mg "enumerate" = none) (ha : PA X [e] ta) (hs : starEach [e] X.env = [(false, eval e X.env)]) :
    PI X (.Tuple elts kk tpos) (.Call (.Name "enumerate" p) [e] [] pos) (iEnumL X.K ta) := by
  refine ⟨fun pins s σ H R I h => ?_⟩
  refine Call_ (ld_blt I hg hm boot_enumerate (PyProof.Rows.callWith_type1 (thn (ha.run pos pins s σ H _ I h) fun us s1 ⟨vs, H1, I1, r1, q1⟩ => ?_) hs rfl))
  obtain ⟨a, xs, ex, hq, q⟩ := q1
  subst ex
  cases r1 with
  | cons r rr =>
    cases rr
    cases r
    obtain ⟨its, rv, p', hz⟩ := I1.list hq
    have hal : a < s1.heap.objs.size := by obtain ⟨o, q, _⟩ := p'.isList; exact Heap.lt_size q
    refine call_enumL p'.isList fun h' he hit hk => wpAny_pyIter_enum he ?_
    have I2 : Inv X pins σ H1 { s1 with heap := h' } := I1.kept (t' := s1.toks) hk
    have n1 : s1.heap.objs.size + 1 ≠ a := Nat.ne_of_gt (Nat.lt_succ_of_lt hal)
    have n2 : a ≠ s1.heap.objs.size := Nat.ne_of_lt hal
    refine ⟨s1.heap.objs.size + 1, [s1.heap.objs.size + 1, s1.heap.objs.size], _, _, H1, rfl, I2, turn_enumL a (s1.heap.objs.size + 1) s1.heap.objs.size n1 n2, ⟨⟨.none, he⟩, hit, Nat.succ_ne_self _⟩, fun b hb => ?_, q⟩
    have e' : b = s1.heap.objs.size + 1 ∨ b = s1.heap.objs.size := by simpa using hb
    have hle : s1.heap.objs.size ≤ b := by
      rcases e' with z | z
      · rw [z]; exact Nat.le_add_right _ _
      · rw [z]; exact Nat.le_refl _
    exact I1.fpOk hle (I1.hok.fresh hle)
theorem wk_enumL {F : Hp} {a : Addr} {ds : List PyData} {vs : List V} (h : SqL K F a vs) (r : DtAll F ds vs) : Wk K F (IteL K a) (ds.zipIdx.map fun p => .tuple [.int p.2, p.1]) where
  goes := fun i H hi s => by
    rw [List.length_map, List.length_zipIdx, r.len] at hi
    exact ⟨vs, vs[i], SqL.mono s h, by simp [hi]⟩
  stops := fun H s => by
    rw [List.length_map, List.length_zipIdx, r.len]
    exact ⟨vs, SqL.mono s h, rfl⟩
  yields := fun i H x H' d e s y => by
    rw [enum_at] at e
    obtain ⟨d0, e1, e2⟩ := mapSome e
    cases e2
    obtain ⟨v, h1, h2⟩ := r.at_ e1
    obtain ⟨T, oo, u, z1, z2, z3, wo, z4⟩ := y
    have z5 := z4 vs (SqL.mono s h)
    rw [h1] at z5; cases z5
    exact .inr ⟨T, oo, _, _, rfl, z1, z2, z3, wo, .cons (.int _) (.cons h2 .nil)⟩
theorem pi_enumE (G : Good Φ c X) {x : Str} {a : IE} {e : Expr} {p pos tpos : Pos} {elts : List Expr} {kk : Nat} (hx : x = "enumerate") (hg : globB c x = true) (ha : PE X e (tE X.K (evE Φ a))) (hp : plainE e = true) :
    PI X (.Tuple elts kk tpos) (.Call (.Name x p) [e] [] pos) (tI X.K (evI Φ (.enum a))) := by
  subst hx
  obtain ⟨g1, g2, g3⟩ := gl_of G hg
  refine (PI.or (pi_enumL g1 (G.bl _ (by decide)) (pa1 ha hp) (star_cons hp)) (pi_enumT g1 (G.bl _ (by decide)) (pa1 ha hp) (star_cons hp))).of fun σ H R q => ?_
  obtain ⟨F, L, ms, ds, ms', RR, e, k⟩ := q
  unfold evI at e
  obtain ⟨⟨v, ms1⟩, e1, e2⟩ := bindSome e
  obtain ⟨d, e3, e4⟩ := bindSome e2
  obtain ⟨ds', e5, e6⟩ := mapSome e4
  cases e6
  unfold seqOf at e5
  split at e5
  · cases e5
    refine .inl (tE.go RR e1 fun x F1 H1 L1 M g => ?_)
    obtain ⟨F2, dt, R2, E2⟩ := g.frz1 e3
    cases dt with
    | @lst a _ vs ha r => exact ⟨a, vs, rfl, SqL.of (R2.sub _ _ ha), k _ _ _ _ (wk_enumL (SqL.of ha) r) R2 E2⟩
  · cases e5
    refine .inr (tE.go RR e1 fun x F1 H1 L1 M g => ?_)
    obtain ⟨F2, dt, R2, E2⟩ := g.frz1 e3
    cases dt with
    | @tup a _ vs ha r => exact ⟨a, vs, rfl, (ha.mono R2.sub).sq, k _ _ _ _ (wk_enumT ha.sq r) R2 E2⟩
  · cases e5
end
end Rx
/-! sorted of tuples the first of which is empty. -/
namespace Rx
open PySem PySem.Spec L2 PyProof.Rows
open PySem.W (EachIs dataLe AllAlike SortsAt dataKind dataKind_some dataKind_inv dataLt dataLt_tuple keyToksAll alikeAll alike firstLt_toks eqAt_alikeAll rcLt_alikeAll)
open PySem.SeqAt PySem.W
theorem call_tuple_lt {prog : Program} {w : World} {A : Around} {s : Shared} {E : Value → Shared → Prop} {Q : Value → Shared → Prop} {l b : Addr} {items items2 : Array Value} {e r : Nat → Bool} (hl : s.heap.IsTuple l items) (hb : s.heap.IsTuple b items2)
    (he : ∀ j (h1 : j < items.size) (h2 : j < items2.size), EqAt A.in1 s items[j] items2[j] (e j)) (hr : ∀ j (h1 : j < items.size) (h2 : j < items2.size), e j = false → RcLt A.in1 s items[j] items2[j] (r j))
    (h : Q (.bool (firstLt e r (decide (items.size < items2.size)) (List.range (min items.size items2.size)))) s) : wpAny (model prog w) A (call (.builtin "tuple.__lt__") [.ref l, .ref b]) Q E s := by
  obtain ⟨⟨cls, dd, data, sl⟩, ho, hc, n, hd⟩ := id hl
  obtain ⟨⟨cls2, dd2, data2, sl2⟩, ho2, hc2, n2, hd2⟩ := id hb
  simp only at hc hd hc2 hd2
  subst hc hd hc2 hd2
  exact call_meets F.slot_tuple_lt ⟨_, ho, rfl⟩ F.entry_tuple_lt (F.args_tuple_lt_2 _ _) (tuple_ltAt l b items items2 n n2 dd dd2 sl sl2 e r) ⟨ho, ho2, he, hr, h⟩
theorem oneLt_tup {prog : Program} {w : World} {A : Around} {E : Value → Shared → Prop} {s : Shared} {xs ys : List PyData} {a b : Value} {as bs : List Addr} {Q : Bool → Shared → Prop} (ra : Reads s.heap a (.tuple xs) as) (rb : Reads s.heap b (.tuple ys) bs) (h : alike (.tuple xs) (.tuple ys) = true)
    (hu : A.units + min (PyData.tuple xs).depth (PyData.tuple ys).depth < cLine) (hq : Q (dataLt (.tuple xs) (.tuple ys)) s) : wpAny (model prog w) A (oneLt' true a b) Q E s := by
  have hal : alikeAll xs ys = true := by simpa [alike] using h
  cases ra with
  | @tuple l o vs n _ as₁ h1 h2 h3 h4 =>
    cases rb with
    | @tuple l' o' vs' n' _ bs₁ k1 k2 k3 k4 =>
      have n1 : vs.size = xs.length := by simpa using ReadsAll.length _ _ _ h4
      have n2 : vs'.size = ys.length := by simpa using ReadsAll.length _ _ _ k4
      rw [dataLt_tuple, ← firstLt_toks xs ys hal, ← n1, ← n2] at hq
      rw [oneLt'_eq]
      simp only [if_true]
      refine wpAny_bind (wpAny_cRoomFor (room_here hu) ?_)
      refine wpAny_bind (wpAny_callSpecialIfBound?_slot (T := "tuple") ⟨_, h1, h2⟩ F.slot_tuple_lt (call_tuple_lt (e := pairEq xs ys) (r := fun j => dataLt (xs.getD j .none) (ys.getD j .none)) ⟨_, h1, h2, _, h3⟩ ⟨_, k1, k2, _, k3⟩ (fun j j1 j2 => ?_) (fun j j1 j2 hj => ?_) ?_))
      · have := eqAt_alikeAll xs ys A.in1 s vs.toList vs'.toList _ _ h4 k4 hal (room_in hu) j (by simpa using j1) (by simpa using j2)
        simpa using this
      · have := rcLt_alikeAll xs ys A.in1 s vs.toList vs'.toList _ _ h4 k4 hal (room_in hu) j (by simpa using j1) (by simpa using j2) hj
        simpa using this
      · exact wpAny_truthy_bool hq
section
variable {M : Model} {A : Around} {E : Value → Shared → Prop} {s : Shared}
/-- the first items of tuples, the empty ones' none -/
theorem firsts_tup : ∀ (vs : List Value) (ds : List PyData), EachIs (fun v d => ∃ as, Reads s.heap v d as) vs ds → (∀ d ∈ ds, ∃ xs, d = .tuple xs) → ∀ {Q : List (Option Value) → Shared → Prop}, (∀ fs : List (Option Value), fs.length = vs.length → ((∃ r, ds = .tuple [] :: r) → ∃ r, fs = none :: r) → Q fs s) → wpAny M A (vs.mapM firstOfTuple') Q E s
  | _, _, .nil, _, Q, h => by rw [List.mapM_nil]; exact wpAny_pure (h [] rfl (fun ⟨r, e⟩ => by cases e))
  | v :: vs, d :: ds, .cons ⟨as, r⟩ t, ht, Q, h => by
    obtain ⟨xs, rfl⟩ := ht d List.mem_cons_self
    cases r with
    | @tuple a o us n _ as ho hc hd r =>
      rw [List.mapM_cons]
      refine wpAny_bind ?_
      rw [kas_first_eq]
      refine wpAny_bind (Looks.here (show Looks M s.heap (typeOf (.ref a)) o.cls from (Looks.ld ho).andThen .now) ?_)
      rw [hc, if_neg (by first | decide | simp)]
      refine wpAny_bind (listItems_at ho hd (wpAny_pure ?_))
      refine wpAny_bind (firsts_tup vs ds t (fun d hd => ht d (List.mem_cons_of_mem _ hd)) (Q := fun bs s' => wpAny M A (pure (us[0]? :: bs)) Q E s') fun fs hl hf => wpAny_pure (h _ (by rw [List.length_cons, List.length_cons, hl]) fun ⟨r', e⟩ => ?_))
      cases e
      have : us.toList = [] := by
        generalize us.toList = z at r
        cases r
        rfl
      have : us[0]? = none := by rw [← Array.getElem?_toList, this]; rfl
      rw [this]
      exact ⟨_, rfl⟩
theorem kind_tup {v : Value} {vs : List Value} {ds : List PyData} (e : EachIs (fun v d => ∃ as, Reads s.heap v d as) (v :: vs) (.tuple [] :: ds)) (ht : ∀ d ∈ ds, ∃ xs, d = .tuple xs) {Q : SortKind → Shared → Prop} (h : Q oneType' s) : wpAny M A (keyKind' (v :: vs).toArray) Q E s := by
  have hT : ∀ u ∈ v :: vs, Looks M s.heap (typeOf u) (Value.type "tuple") := fun u hu => by
    obtain ⟨d, hd, as, r⟩ := e.left u hu
    have : ∃ xs, d = .tuple xs := by
      rcases List.mem_cons.mp hd with rfl | hd
      · exact ⟨[], rfl⟩
      · exact ht d hd
    obtain ⟨xs, rfl⟩ := this
    exact looks_reads r
  rw [keyKind'_eq, List.mapM_toArray, map_eq_pure_bind]
  refine wpAny_bind (wpAny_bind (firsts_tup _ _ e (fun d hd => by
    rcases List.mem_cons.mp hd with rfl | hd
    · exact ⟨[], rfl⟩
    · exact ht d hd) fun fs hl hf => wpAny_pure ?_))
  obtain ⟨r, rfl⟩ := hf ⟨_, rfl⟩
  rw [if_neg (by simp), if_neg (by simp)]
  rw [oneTypeOnly'_eq, List.mapM_toArray, map_eq_pure_bind]
  refine wpAny_bind (wpAny_bind (wpAny_bind (kas_mapM (r := Value.type "tuple") _ (fun u hu Q' hq => (hT u hu).here hq) (wpAny_pure ?_))))
  have hall : ((List.map (fun _ => Value.type "tuple") (v :: vs)).toArray.all fun x => x == Value.type "tuple") = true := by
    simp only [List.all_toArray, List.all_map, List.all_eq_true]
    intro _ _
    exact beq_self_eq_true _
  have h0 : (List.map (fun _ => Value.type "tuple") (v :: vs)).toArray[0]? = some (Value.type "tuple") := by simp
  rw [h0]
  simp only [hall, if_true]
  exact wpAny_pure (wpAny_pure h)
end
/-- tuples, the first of them empty, can be sorted -/
theorem sorts_empty {prog : Program} {w : World} {A : Around} {s : Shared} {vs : List Value} {ds : List PyData} (e : EachIs (fun v d => ∃ as, Reads s.heap v d as) vs (.tuple [] :: ds)) (hal : AllAlike (.tuple [] :: ds)) (ht : ∀ d ∈ ds, ∃ xs, d = .tuple xs) (hu : ∀ d, d ∈ PyData.tuple [] :: ds → A.units + d.depth < cLine) :
    SortsAt prog w A s (dataKind s.heap (.tuple [] :: ds)) vs := by
  have ht' : ∀ d ∈ PyData.tuple [] :: ds, ∃ xs, d = .tuple xs := fun d hd => by
    rcases List.mem_cons.mp hd with rfl | hd
    · exact ⟨[], rfl⟩
    · exact ht d hd
  refine ⟨fun v hv => ?_, oneType', ?_, fun h2 E Q hq => ?_⟩
  · obtain ⟨d, hd, as, r⟩ := e.left v hv
    exact ⟨_, dataKind_some hal hd r⟩
  · intro E x y a b Q ha hb hq
    obtain ⟨d, as, hd, ra, rfl⟩ := dataKind_inv ha
    obtain ⟨d', as', hd', rb, rfl⟩ := dataKind_inv hb
    have hdd := hal d hd d' hd'
    have hroom : A.units + min d.depth d'.depth < cLine := Nat.lt_of_le_of_lt (Nat.add_le_add_left (Nat.min_le_left _ _) _) (hu d hd)
    obtain ⟨x1, rfl⟩ := ht' d hd
    obtain ⟨x2, rfl⟩ := ht' d' hd'
    rw [keyLt'_oneType]
    exact oneLt_tup ra rb hdd hroom hq
  · cases vs with
    | nil => exact absurd h2 (by simp)
    | cons v vs => exact kind_tup e ht hq
end Rx
/-! Rx, more: sorted. -/
namespace Rx
open PySem PySem.Spec L2 PyProof.Rows
open PySem.W (EachIs dataLe AllAlike)
/-- sorted of a list or of a tuple whose items read as alike data -/
theorem sort_seq {prog : Program} {w : World} {A : Around} {E : Value → Shared → Prop} {s : Shared} {a : Addr} {T : String} {o : Obj} {vs : List Value} {n : Nat} {ds : List PyData} {R : Value → PyData → Prop} {Q : Value → Shared → Prop}
    (hT : T = "list" ∨ T = "tuple") (ho : s.heap.get? a = some o) (hc : o.cls = .type T) (hd : o.data = .seq vs.toArray n) (e : EachIs R vs ds) (er : EachIs (fun v d => ∃ as, Reads s.heap v d as) vs ds)
    (hal : AllAlike ds) (hk : PySem.W.Sortable ds ∨ ∃ r, ds = .tuple [] :: r ∧ ∀ d ∈ r, ∃ xs, d = .tuple xs) (hL : vs.length ≤ sizeLine) (hu : ∀ d, d ∈ ds → A.units + 2 + d.depth < cLine)
    (h : ∀ (h1 h' : Heap) (out : Array Value), (∀ b ob, s.heap.get? b = some ob → h1.get? b = some ob) → (∀ b ob, h1.get? b = some ob → h'.get? b = some ob) → (∃ e, h'.get? h1.objs.size = some (seqObj "list" out e)) → EachIs R out.toList (ds.mergeSort (dataLe false id)) → Q (.ref h1.objs.size) { s with heap := h' }) :
    wpAny (model prog w) A (call (.builtin "sorted") [.ref a]) Q E s := by
  refine Calls.call_function_entry kind_sorted plain_sorted entry_sorted (args_sorted1 _) ?_
  unfold Builtin.«sorted»
  refine wpAny_bind (m := checkCount "sorted" 1 1 _) (wpAny_pure ?_)
  refine wpAny_bind (wpAny_collect_seq a hT ho hc hd (fun h1 k1 => ?_) (by rw [List.size_toArray]; exact hL))
  refine wpAny_bind (wpAny_newList ?_ (by simpa using hL))
  have ev : vs.toArray.toList = vs := by simp
  rw [ev]
  have at2 : (h1.push (seqObj "list" vs.toArray 0)).get? h1.objs.size = some (seqObj "list" vs.toArray 0) := Heap.get?_push_size _ rfl
  have k2 : ∀ b ob, s.heap.get? b = some ob → (PySem.W.sortingHeap (h1.push (seqObj "list" vs.toArray 0)) h1.objs.size vs).get? b = some ob := fun b ob q => PySem.W.sortingHeap_old (Nat.ne_of_lt (Heap.lt_size (k1 b ob q))) (Heap.get?_push_of_some _ (k1 b ob q))
  have er' : EachIs (fun v d => ∃ as, Reads (PySem.W.sortingHeap (h1.push (seqObj "list" vs.toArray 0)) h1.objs.size vs) v d as) vs ds := er.mono fun _ _ ⟨as, r⟩ => ⟨as, PyProof.Rows.Reads.keeps k2 r⟩
  have S : PySem.W.SortsAt prog w A.in1.in1 { s with heap := PySem.W.sortingHeap (h1.push (seqObj "list" vs.toArray 0)) h1.objs.size vs } (PySem.W.dataKind (PySem.W.sortingHeap (h1.push (seqObj "list" vs.toArray 0)) h1.objs.size vs) ds) vs := by
    rcases hk with hk | ⟨r, rfl, hk⟩
    · exact PySem.W.SortsAt.data er' hal hk hu
    · exact sorts_empty er' hal hk hu
  refine wpAny_bind (wpAny_holding (wpAny_call_entry slot_list_sort ⟨_, at2, rfl⟩ entry_list_sort (PySem.W.list_sort_vals (s := { s with heap := h1.push (seqObj "list" vs.toArray 0) }) at2 S hL ⟨_, rfl, ?_⟩) (args_list_sort _)))
  refine wpAny_pure ⟨_, rfl, h _ _ (PySem.W.sortVals (PySem.W.dataKind (PySem.W.sortingHeap (h1.push (seqObj "list" vs.toArray 0)) h1.objs.size vs) ds) false vs vs).toArray k1 (fun b ob q => ?_) ?_ ?_⟩
  · rw [PyProof.Rows.sortedHeap_old (Nat.ne_of_lt (Heap.lt_size q)) (Heap.lt_size (Heap.get?_push_of_some _ q))]
    exact Heap.get?_push_of_some _ q
  · exact PyProof.Rows.sortedHeap_at at2
  · have z := PySem.W.sortVals_data (enc := id) (h' := PySem.W.sortingHeap (h1.push (seqObj "list" vs.toArray 0)) h1.objs.size vs) false e er' (by rw [List.map_id]; exact hal)
    rw [List.map_id] at z
    exact z
section
variable {Φ : Funs} {c : Cfg} {X : Cx} {K : PySem.W.Frag} {σ : L2.St}
def rSortD (K : PySem.W.Frag) : List V → Hp → VK → Prop := fun xs H Q => ∃ (a : Addr) (vs : List V) (F : Hp) (ds : List PyData), xs = [V.ref a] ∧ (SqL K H a vs ∨ SqT K H a vs) ∧ Sub F H ∧ DtAll F ds vs ∧ (alikes ds && sortables ds && deepOk ds) = true ∧
  ∀ p ws, H p = none → DtAll F (sortD ds) ws → Q (.ref p) (upd H p (.lst ws))
theorem ok_sorted {K : PySem.W.Frag} : OpOk .sorted (rSortD K) := by
  intro F H ds vs d Q hs dt e k
  have e : s_sorted ds = some d := e
  unfold s_sorted at e
  split at e
  · split at e
    · cases e
      obtain ⟨v, rfl, r1⟩ := dt.oneV
      rename_i hc
      obtain ⟨a, vs, rfl, h1, q1⟩ := r1.lstOf hs
      exact ⟨a, vs, F, _, rfl, .inl (SqL.of h1), hs, q1, hc, fun p ws hp q => k _ _ (.lst rfl hp q)⟩
    · cases e
  · split at e
    · cases e
      obtain ⟨v, rfl, r1⟩ := dt.oneV
      rename_i hc
      obtain ⟨a, vs, rfl, h1, q1⟩ := r1.tupOf
      exact ⟨a, vs, F, _, rfl, .inr ((h1.mono hs).sq), hs, q1, hc, fun p ws hp q => k _ _ (.lst rfl hp q)⟩
    · cases e
  · cases e
theorem each_of {F : Hp} : ∀ {ds : List PyData} {vs : List V} {us : List Value}, DtAll F ds vs → Vals vs us → EachIs (fun u d => ∃ v, RelV v u ∧ Dt F d v) us ds
  | [], _, _, .nil, r => by cases r; exact .nil
  | _ :: _, _, _, .cons h t, r => by
    cases r with
    | cons r rr => exact .cons ⟨_, r, h⟩ (each_of t rr)
theorem of_each {F : Hp} : ∀ {us : List Value} {ds : List PyData}, EachIs (fun u d => ∃ v, RelV v u ∧ Dt F d v) us ds → ∃ vs, DtAll F ds vs ∧ Vals vs us
  | _, _, .nil => ⟨[], .nil, .nil⟩
  | _, _, .cons ⟨v, r, h⟩ t => let ⟨vs, q, w⟩ := of_each t; ⟨v :: vs, .cons h q, .cons r w⟩
theorem sortable_of {ds : List PyData} (h : sortables ds = true) : PySem.W.Sortable ds ∨ ∃ r, ds = .tuple [] :: r ∧ ∀ d ∈ r, ∃ xs, d = .tuple xs := by
  unfold sortables at h
  rw [Bool.or_eq_true, Bool.or_eq_true] at h
  rcases h with (h | h) | h
  · refine .inl (.inl fun d hd => ?_)
    have z := List.all_eq_true.mp h d hd
    split at z
    · exact ⟨_, _, rfl⟩
    · cases z
  · refine .inl (.inr fun d hd => ?_)
    have z := List.all_eq_true.mp h d hd
    split at z
    · cases z
    · cases z
    · rename_i n1 n2
      exact ⟨n1, fun xs => n2 xs⟩
  · split at h
    · rename_i r
      refine .inr ⟨r, rfl, fun d hd => ?_⟩
      have z := List.all_eq_true.mp h d hd
      split at z
      · exact ⟨_, rfl⟩
      · cases z
    · cases h
theorem call_sortD (hu : X.A.units + 70 < cLine) : CallR X (.builtin "sorted") (rSortD X.K) := by
  intro pins s σ H xs us Q I r h
  obtain ⟨a, vs, F, ds, rfl, hq, hs, dt, ok, q⟩ := h
  rw [Vals.ref1 r]
  simp only [Bool.and_eq_true] at ok
  obtain ⟨⟨k1, k2⟩, k3⟩ := ok
  have hal : AllAlike ds := fun d hd d' hd' => List.all_eq_true.mp (List.all_eq_true.mp k1 d hd) d' hd'
  have hdp : ∀ d, d ∈ ds → X.A.units + 2 + d.depth < cLine := fun d hd => by
    have := of_decide_eq_true (List.all_eq_true.mp k3 d hd)
    omega
  have main : ∀ {T : String} {o : Obj} {its : List Value} {n : Nat}, T = "list" ∨ T = "tuple" → s.heap.get? a = some o → o.cls = .type T → o.data = .seq its.toArray n → Vals vs its → vs.length ≤ sizeLine →
      wpAny (model X.prog X.w) X.A (call (.builtin "sorted") [.ref a]) (EP X pins σ Q) X.xe s := fun {T o its n} hT ho hc hd rv hz => by
    have e := each_of dt rv
    have er : EachIs (fun v d => ∃ as, Reads s.heap v d as) its ds := e.mono fun u d ⟨v, r, w⟩ => Dp.reads I d v u (Opd.dp hs (.fz w)) r
    refine sort_seq hT ho hc hd e er hal (sortable_of k2) (by rw [← rv.length]; exact hz) hdp fun h1 h' out z1 z2 z3 z4 => ?_
    obtain ⟨ep, z3⟩ := z3
    obtain ⟨ws, w1, w2⟩ := of_each z4
    have I1 : Inv X pins σ H { s with heap := h1 } := I.kept (t' := s.toks) z1
    have hl : ws.length ≤ sizeLine := by
      have e1 := w1.len
      have e2 := dt.len
      have e3 : (ds.mergeSort (dataLe false id)).length = ds.length := List.length_mergeSort _
      omega
    exact ⟨.ref _, upd H h1.objs.size (.lst ws), I1.laid (t' := s.toks) z2 (Nat.le_refl _) ⟨hl, out.toList, ep, w2, z3⟩, rfl, q _ ws (I1.hok.fresh (Nat.le_refl _)) (by rw [sortD_eq]; exact w1)⟩
  rcases hq with hq | hq
  · obtain ⟨its, rv, hl, hz⟩ := I.list hq
    obtain ⟨o, ho, hc, n, hd⟩ := hl.isList
    exact main (.inl rfl) ho hc hd rv hz
  · obtain ⟨its, rv, ⟨o, ho, hc, n, hd⟩, hz⟩ := I.tuple hq
    exact main (.inr rfl) ho hc hd rv hz
theorem pe_sortE (G : Good Φ c X) {a : IE} {x : Str} {e : Expr} {p pos : Pos} (h : x = "sorted") (hx : globB c x = true) (ha : PE X e (tO X.K Φ a)) (hp : plainE e = true) : PE X (.Call (.Name x p) [e] [] pos) (tE X.K (evE Φ (.op .sorted [a]))) := by
  subst h
  obtain ⟨g1, g2, g3⟩ := gl_of G hx
  have hu : X.A.units + 70 < cLine := by have := G.un; omega
  refine (pe_callB (call_sortD hu) g1 (G.bl _ (by decide)) (by decide +kernel) (pa1 ha hp) g3 g2 (star_cons hp) rfl).of fun σ H Q q => ?_
  exact op_go ok_sorted q
end
end Rx
/-! Rx, more: extend; displays with stars; chains of three; ranges as values. -/
namespace Rx
open PySem PySem.Spec L2 PyProof.Rows
theorem q_extend_tup (l : Addr) (items : Array Value) (n : Nat) (b : Addr) (items2 : Array Value) (n2 : Nat) (d2 : Option Addr) (sl2 : Array (Option Value)) (hs0 : ¬(!items.isEmpty && Builtin.List.listTooLong (items.size + items2.size)) = true) (hs1 : items.size ≤ sizeLine) (hs2 : items.size + items2.size ≤ sizeLine + 1) :
    Meets (Builtin.«list.extend» ⟨[.ref l, .ref b], []⟩) (fun _ R s => s.heap.get? l = some { cls := .type "list", dict := none, data := .seq items n, slots := #[] } ∧ s.heap.get? b = some { cls := .type "tuple", dict := d2, data := .seq items2 n2, slots := sl2 } ∧ R (.ok (.ret Value.none)) { s with heap := s.heap.update l (Obj.mapSeq fun x => x ++ items2), toks := s.toks }) :=
  .of_wp fun prog w A R s h => by
    obtain ⟨hp, g, d, tk, os⟩ := s; obtain ⟨hl, hb, h⟩ := h; have f1 := AutoSeq1.idx_int; have f2 := AutoSeq1.sub_tuple_tuple; have f3 := AutoSeq1.sub_list_list; have f4 := AutoSeq1.sub_tuple_list; have f5 := AutoSeq1.sub_list_tuple
    have hz' : (items ++ items2).size ≤ sizeLine + 1 := by rw [Array.size_append]; exact hs2
    wp_walk using (wpAny_updateSeq hl rfl (hz := hs1) (_hz' := hz')), AutoSeq1.wpAny_loadPart' hl, AutoSeq1.wpAny_loadPart' hb; exact ⟨_, rfl, h⟩
section
variable {X : Cx}
def rExtendT (K : PySem.W.Frag) : V → List V → Hp → VK → Prop := fun x vs H Q => ∃ l b xs zs, x = .ref l ∧ vs = [.ref b] ∧ H l = some (.lst xs) ∧ SqT K H b zs ∧ xs.length + zs.length ≤ sizeLine ∧ Q .non (upd H l (.lst (xs ++ zs)))
theorem mt_extendT : MtM X "list.extend" (rExtendT X.K) := by
  intro pins s σ H x vs v us Q I rx rv h
  obtain ⟨l, b, xs, zs, rfl, rfl, hH, hB, hz, q⟩ := h
  cases rx
  obtain ⟨u, rfl, ru⟩ := rv.one
  cases ru
  obtain ⟨z, its, n, r, hl, e⟩ := I.lstM hH
  obtain ⟨its2, r2, pl, hl2⟩ := I.tuple hB
  obtain ⟨⟨cls, dd, data, sl⟩, e2, hc, n2, hd⟩ := pl
  simp only at hc hd
  subst hc hd
  have k2 := r2.length
  have hsz : its.toArray.size + its2.toArray.size ≤ sizeLine := by rw [List.size_toArray, List.size_toArray]; omega
  have hlong : ¬ (!its.toArray.isEmpty && Builtin.List.listTooLong (its.toArray.size + its2.toArray.size)) = true := by
    rw [notLongL hsz, Bool.and_false]
    exact Bool.false_ne_true
  refine call_meets PySem.F.slot_list_extend ⟨_, e, rfl⟩ PySem.F.entry_list_extend (PySem.F.args_list_extend_2 _ _)
    (q_extend_tup l its.toArray n b its2.toArray n2 dd sl hlong (by rw [List.size_toArray]; omega) (by omega)) ⟨e, e2, ?_⟩
  refine ⟨.non, _, I.lset (its' := its ++ its2) hH e (by simp) (r.append r2) ?_, rfl, q⟩
  rw [List.length_append]
  omega
theorem mt_or {id : String} {r r' : V → List V → Hp → VK → Prop} (h : MtM X id r) (h' : MtM X id r') : MtM X id (fun x vs H Q => r x vs H Q ∨ r' x vs H Q) := by
  intro pins s σ H x vs v us Q I rx rv q
  rcases q with q | q
  · exact h pins s σ H x vs v us Q I rx rv q
  · exact h' pins s σ H x vs v us Q I rx rv q
end
section
variable {Φ : Funs} {c : Cfg} {X : Cx} {K : PySem.W.Frag} {σ τ : L2.St} {prot : List Nat}
/-- x.extend(e) -/
theorem ps_extendE (G : Good Φ c X) {i : Nat} {x : Str} {a : IE} {e : Expr} {p apos cpos pos : Pos} (h : nameB c i x = true) (he : PE X e (tE X.K (evE Φ a))) (hp : plainE e = true) (hl : (apos.endLine == cpos.line) = true) :
    PS X (.Expr (.Call (.Attribute (.Name x p) "extend" apos) [e] [] cpos) pos) (tSt X.K prot (evS Φ (.extend i a))) := by
  refine (ps_expr (pe_bm PySem.F.plainAttrs_list PySem.F.slot_list_extend PySem.F.type_list_extend (mt_or mt_extend mt_extendT) (pe_name G h) (pa1 he hp) rfl (few1 hp) hl (star_cons hp) rfl) rfl).of fun D σ H q => ?_
  obtain ⟨F, L, ms, o, R, ee, k⟩ := q
  unfold evS at ee
  obtain ⟨_, e0, ee⟩ := bindSome ee
  obtain ⟨⟨v, ms1⟩, e1, ee⟩ := bindSome ee
  obtain ⟨d, e2, ee⟩ := bindSome ee
  obtain ⟨es, es', ee⟩ := bindSome ee
  obtain ⟨ms2, e3, ee⟩ := mapSome ee
  subst ee
  unfold Rx.chg at e3
  obtain ⟨m, e4, e5⟩ := bindSome e3
  obtain ⟨m', e6, e7⟩ := mapSome e5
  subst e7
  obtain ⟨ds0, e8⟩ := lsAt_ok e0
  obtain ⟨a0, vs0, hv, ha, ty⟩ := ls_ty R e8
  refine ⟨_, hv, ty, tE.go R e1 fun y F1 H1 L1 M g => ?_⟩
  obtain ⟨F2, dt, R2, E2⟩ := g.frz1 e2
  cases m with
  | ls ds =>
    have e6 : (if ds.length + es.length < lim then some (MV.ls (ds ++ es)) else none) = some m' := e6
    split at e6
    · rename_i hlt
      cases e6
      obtain ⟨vs, w1, w2, w3⟩ := ls_chg R2 (joinSome e4) hv
      have hn : lim ≤ sizeLine := lim_le (Nat.le_refl _)
      cases d with
      | list zs =>
        cases es'
        cases dt with
        | @lst b _ ws h1 q1 =>
          obtain ⟨L', w4, w5⟩ := w3 (w2.app q1)
          exact .inl ⟨a0, b, vs, ws, rfl, rfl, w1, R2.sub _ _ h1, by rw [← w2.len, ← q1.len]; omega, k _ _ _ _ w4 (E2.trans w5) (Keep.refl _ _)⟩
      | tuple zs =>
        cases es'
        cases dt with
        | @tup b _ ws h1 q1 =>
          obtain ⟨L', w4, w5⟩ := w3 (w2.app q1)
          exact .inr ⟨a0, b, vs, ws, rfl, rfl, w1, (h1.mono R2.sub).sq, by rw [← w2.len, ← q1.len]; omega, k _ _ _ _ w4 (E2.trans w5) (Keep.refl _ _)⟩
      | _ => cases es'
    · cases e6
  | _ => exact nomatch (show none = some m' from e6)
end
end Rx
/-! Rx, more: displays with stars; chains of three; ranges as values. -/
namespace Rx
open PySem PySem.Spec L2 PyProof.Rows
section
variable {Φ : Funs} {c : Cfg} {X : Cx} {K : PySem.W.Frag} {σ τ : L2.St} {prot : List Nat} {H : Hp} {Q : VK}
/-! ### displays with stars -/
def tParts (K : PySem.W.Frag) (Φ : Funs) : List IE → List Bool → TA
  | a :: as, b :: ss => if b = true then StX.tStar K (tE K (evE Φ a)) (tParts K Φ as ss) else tCons (tE K (evE Φ a)) (tParts K Φ as ss)
  | _, _ => tNil
theorem parts_go : ∀ (as : List IE) (ss : List Bool) {F : Hp} {H : Hp} {L : List Addr} {ms ms' : MEnv} {ds : List PyData} {Q : List V → Hp → Prop}, Rel K F H ms σ L → evSts Φ as ss ms = some (ds, ms') →
    (∀ vs F' H' L', Rel K F' H' ms' σ L' → Ext F H L F' H' L' → DtAll F' ds vs → Q vs H') → tParts K Φ as ss σ H Q
  | [], [], F, H, L, ms, ms', ds, Q, R, e, k => by
    unfold evSts at e; cases e
    exact k [] F H L R (Ext.refl _ _ _) .nil
  | [], _ :: _, _, _, _, _, _, _, _, _, e, _ => by unfold evSts at e; cases e
  | _ :: _, [], _, _, _, _, _, _, _, _, e, _ => by unfold evSts at e; cases e
  | a :: as, b :: ss, F, H, L, ms, ms', ds, Q, R, e, k => by
    unfold evSts at e
    obtain ⟨⟨v, ms1⟩, e1, e2⟩ := bindSome e
    obtain ⟨ds1, e3, e4⟩ := bindSome e2
    obtain ⟨⟨rs, ms2⟩, e5, e6⟩ := mapSome e4
    cases e6
    cases b with
    | false =>
      cases v with
      | val d =>
        cases e3
        refine tE.go R e1 fun y F1 H1 L1 M g => ?_
        have r := g.res.fst
        cases r with
        | val r =>
          refine parts_go as ss g.rel e5 fun ws F2 H2 L2 R2 E2 t => ?_
          exact k _ _ _ _ R2 (g.ext0.trans E2) (.cons (r.mono E2.fr) t)
      | _ => cases e3
    | true =>
      cases v with
      | val d =>
        refine tE.go R e1 fun y F1 H1 L1 M g => ?_
        have r := g.res.fst
        cases r with
        | val r =>
          cases d with
          | list xs =>
            cases e3
            cases r with
            | @lst p _ vs h1 q1 =>
              refine ⟨p, vs, rfl, .inr (SqL.of (g.rel.sub _ _ h1)), parts_go as ss g.rel e5 fun ws F2 H2 L2 R2 E2 t => ?_⟩
              exact k _ _ _ _ R2 (g.ext0.trans E2) ((q1.mono E2.fr).app t)
          | tuple xs =>
            cases e3
            cases r with
            | @tup p _ vs h1 q1 =>
              refine ⟨p, vs, rfl, .inl ((h1.mono g.rel.sub).sq), parts_go as ss g.rel e5 fun ws F2 H2 L2 R2 E2 t => ?_⟩
              exact k _ _ _ _ R2 (g.ext0.trans E2) ((q1.mono E2.fr).app t)
          | _ => cases e3
      | _ => cases e3
theorem stup_go {as : List IE} {ss : List Bool} (q : tE K (evE Φ (.stup ss as)) σ H Q) : tTupK (tParts K Φ as ss) σ H Q := by
  obtain ⟨F, L, ms, m, ms', R, e, k⟩ := q
  unfold evE at e
  obtain ⟨⟨ds, ms1⟩, e1, e2⟩ := bindSome e
  have e2 : (if ds.length ≤ lim then some (MV.val (.tuple ds), ms1) else none) = some (m, ms') := e2
  split at e2
  · rename_i hl
    cases e2
    refine parts_go as ss R e1 fun vs F1 H1 L1 R1 E1 dt => ?_
    exact ⟨by rw [← dt.len]; exact lim_le hl, fun p o hp wo => k _ _ _ _ _ (Got.of (R1.newF hp) (E1.trans (Ext.newF R1.sub hp)) (.tup (TupK.same wo) (dt.mono (Sub.new (R1.sub.off hp)))))⟩
  · cases e2
/-! ### chains of three -/
def tChain3 (r1 r2 r3 : R2) (ta tb tc td : TE) : TE := fun σ H Q => ta σ H fun x H1 => tb σ H1 fun y H2 => r1 x y H2 fun z H3 => ∃ k, z = .bl k ∧
  (if k = true then tc σ H3 fun w H4 => r2 y w H4 fun z2 H5 => ∃ k2, z2 = .bl k2 ∧ (if k2 = true then td σ H5 fun u H6 => r3 w u H6 Q else Q (.bl false) H5) else Q (.bl false) H3)
theorem pe_chain3 {a b d e : Expr} {ta tb td te : TE} {pos : Pos} {o1 o2 o3 : CmpOp} {r1 r2 r3 : R2} (h1 : OpR X (compareOp o1) r1) (h2 : OpR X (compareOp o2) r2) (h3 : OpR X (compareOp o3) r3) (ha : PE X a ta) (hb : PE X b tb) (hd : PE X d td) (he : PE X e te)
    (hm : lastMarks [o1, o2, o3] [b, d, e] = false) : PE X (.Compare a [o1, o2, o3] [b, d, e] pos) (tChain3 r1 r2 r3 ta tb td te) := by
  refine ⟨fun pins s σ H Q I h => ?_⟩
  refine Compare_chain (thn (ha.run pins s σ H _ I h) fun v s1 ⟨x, H1, I1, rx, q1⟩ => chain_link (thn (hb.run pins s1 σ H1 _ I1 q1) fun u s2 ⟨y, H2, I2, ry, q2⟩ =>
    thn (h1 pins s2 σ H2 x y v u _ I2 rx ry q2) fun c1 s3 ⟨z, H3, I3, r3', k, ek, q3⟩ => ?_)) hm
  subst ek
  cases r3'
  refine wpAny_truthy_bool ?_
  cases k with
  | false => exact ite_ff ⟨.bl false, H3, I3, rfl, q3⟩
  | true =>
    refine ite_tt (chain_link (thn (hd.run pins s3 σ H3 _ I3 q3) fun w s4 ⟨z', H4, I4, r4, q4⟩ => thn (h2 pins s4 σ H4 y z' u w _ I4 ry r4 q4) fun c2 s5 ⟨z2, H5, I5, r5, k2, ek2, q5⟩ => ?_))
    subst ek2
    cases r5
    refine wpAny_truthy_bool ?_
    cases k2 with
    | false => exact ite_ff ⟨.bl false, H5, I5, rfl, q5⟩
    | true => exact ite_tt (chain_last (thn (he.run pins s5 σ H5 _ I5 q5) fun w' s6 ⟨z3, H6, I6, r6, q6⟩ => h3 pins s6 σ H6 z' z3 w w' Q I6 r4 r6 q6))
theorem pt_chain3 {a b d e : Expr} {ta tb td te : TE} {pos : Pos} {o1 o2 o3 : CmpOp} {r1 r2 r3 : R2} (h1 : OpR X (compareOp o1) r1) (h2 : OpR X (compareOp o2) r2) (h3 : OpR X (compareOp o3) r3) (ha : PE X a ta) (hb : PE X b tb) (hd : PE X d td) (he : PE X e te)
    (hm : lastMarks [o1, o2, o3] [b, d, e] = false) : PT X (.Compare a [o1, o2, o3] [b, d, e] pos) (tTest (tChain3 r1 r2 r3 ta tb td te)) := by
  refine ⟨fun pins s σ H Q I h => ?_⟩
  refine isTrue_chain (thn (ha.run pins s σ H _ I h) fun v s1 ⟨x, H1, I1, rx, q1⟩ => test_link (thn (hb.run pins s1 σ H1 _ I1 q1) fun u s2 ⟨y, H2, I2, ry, q2⟩ =>
    thn (h1 pins s2 σ H2 x y v u _ I2 rx ry q2) fun c1 s3 ⟨z, H3, I3, r3', k, ek, q3⟩ => ?_)) hm
  subst ek
  cases r3'
  refine wpAny_truthy_bool ?_
  cases k with
  | false =>
    obtain ⟨k', e', q'⟩ := q3
    cases e'
    exact ite_ff ⟨H3, I3, q'⟩
  | true =>
    refine ite_tt (test_link (thn (hd.run pins s3 σ H3 _ I3 q3) fun w s4 ⟨z', H4, I4, r4, q4⟩ => thn (h2 pins s4 σ H4 y z' u w _ I4 ry r4 q4) fun c2 s5 ⟨z2, H5, I5, r5, k2, ek2, q5⟩ => ?_))
    subst ek2
    cases r5
    refine wpAny_truthy_bool ?_
    cases k2 with
    | false =>
      obtain ⟨k', e', q'⟩ := q5
      cases e'
      exact ite_ff ⟨H5, I5, q'⟩
    | true =>
      refine ite_tt (test_last (thn (he.run pins s5 σ H5 _ I5 q5) fun w' s6 ⟨z3, H6, I6, r6, q6⟩ => thn (h3 pins s6 σ H6 z' z3 w w' _ I6 r4 r6 q6) fun c3 s7 ⟨z4, H7, I7, r7, k3, ek3, q7⟩ => ?_))
      subst ek3
      cases r7
      exact wpAny_truthy_bool ⟨H7, I7, q7⟩
theorem chain3_go {o1 o2 o3 : Op} {c1 c2 c3 : CmpOp} {r1 r2 r3 : R2} (h1 : cmpO o1 = some c1) (h2 : cmpO o2 = some c2) (h3 : cmpO o3 = some c3) (k1 : OpOk o1 (R2of r1)) (k2 : OpOk o2 (R2of r2)) (k3 : OpOk o3 (R2of r3)) {a b d e : IE} (q : tE K (evE Φ (.chain3 o1 o2 o3 a b d e)) σ H Q) :
    tChain3 r1 r2 r3 (tE K (evE Φ a)) (tE K (evE Φ b)) (tE K (evE Φ d)) (tE K (evE Φ e)) σ H Q := by
  obtain ⟨F, L, ms, m, ms', R, e, k⟩ := q
  unfold evE at e
  obtain ⟨⟨x, ms1⟩, e1, e2⟩ := bindSome e
  obtain ⟨⟨y, ms2⟩, e3, e4⟩ := bindSome e2
  obtain ⟨ds, e5, e6⟩ := bindSome e4
  obtain ⟨rr, e7, e8⟩ := bindSome e6
  obtain ⟨kk, e9, e10⟩ := bindSome e8
  obtain ⟨dx, dy, x1, y1, rfl⟩ := frz2 e5
  have zr := isB_val e9
  have zr2 : rr = .bool kk := by injection zr
  subst zr2
  refine tE.go R e1 fun vx F1 H1 L1 M1 g1 => tE.go g1.rel e3 fun vy F2 H2 L2 M2 g2 => ?_
  have g := g1.cons g2
  obtain ⟨F3, dt, R3, E3⟩ := g.frz e5
  cases dt with
  | cons tx t =>
    cases t with
    | cons ty t =>
      cases t
      refine k1 F3 H2 [dx, dy] [vx, vy] _ _ R3.sub (.cons (.fz tx) (.cons (.fz ty) .nil)) e7 fun v H' md => ?_
      obtain ⟨ev, eh⟩ := md.boolOf
      subst eh
      refine ⟨kk, ev, ?_⟩
      cases kk with
      | false =>
        rw [if_neg (by decide)] at e10; cases e10
        exact iteF (k _ _ _ _ _ (Got.of R3 E3 (.bl false)))
      | true =>
        rw [if_pos rfl] at e10
        obtain ⟨⟨z, ms3⟩, f1, f2⟩ := bindSome e10
        obtain ⟨es, f3, f4⟩ := bindSome f2
        obtain ⟨rr2, f5, f6⟩ := bindSome f4
        obtain ⟨kk2, f7, f8⟩ := bindSome f6
        obtain ⟨dy', dz, y2, z1, rfl⟩ := frz2 f3
        rw [y1] at y2; cases y2
        have zr := isB_val f7
        have zr2 : rr2 = .bool kk2 := by injection zr
        subst zr2
        refine iteT (tE.go R3 f1 fun vz F4 H4 L4 M4 g4 => ?_)
        obtain ⟨F5, tz, R5, E5⟩ := g4.frz1 z1
        refine k2 F5 H4 [dy, dz] [vy, vz] _ _ R5.sub (.cons (.fz (ty.mono E5.fr)) (.cons (.fz tz) .nil)) f5 fun v H5 md => ?_
        obtain ⟨ev2, eh2⟩ := md.boolOf
        subst eh2
        refine ⟨kk2, ev2, ?_⟩
        cases kk2 with
        | false =>
          rw [if_neg (by decide)] at f8; cases f8
          exact iteF (k _ _ _ _ _ (Got.of R5 (E3.trans E5) (.bl false)))
        | true =>
          rw [if_pos rfl] at f8
          obtain ⟨⟨u, ms4⟩, g1', g2'⟩ := bindSome f8
          obtain ⟨fs, g3', g4'⟩ := bindSome g2'
          obtain ⟨d', g5', g6'⟩ := mapSome g4'
          cases g6'
          obtain ⟨dz', du, z2, u1, rfl⟩ := frz2 g3'
          rw [z1] at z2; cases z2
          refine iteT (tE.go R5 g1' fun vu F6 H6 L6 M6 g6 => ?_)
          obtain ⟨F7, tu, R7, E7⟩ := g6.frz1 u1
          obtain ⟨b, eb⟩ := boolOp h3 g5'
          subst eb
          refine k3 F7 H6 [dz, du] [vz, vu] _ _ R7.sub (.cons (.fz (tz.mono E7.fr)) (.cons (.fz tu) .nil)) g5' fun v H8 md => ?_
          obtain ⟨ev3, eh3⟩ := md.boolOf
          subst eh3 ev3
          exact k _ _ _ _ _ (Got.of R7 ((E3.trans E5).trans E7) (.bl b))
end
end Rx
/-! Rx, more: a tuple stored into names some of which are cells. -/
namespace Rx
open PySem PySem.Spec L2 PyProof.Rows
def offLoc (sc : Scope) : Expr → Bool
  | .Name x _ => !decide (sc.names.lookup x = some .local)
  | _ => true
def hasCell (sc : Scope) : Expr → Bool
  | .Tuple ts _ _ => ts.any (offLoc sc)
  | _ => false
theorem fm_lt2 {α : Type} {f : Expr → Option α} {q : Expr → Bool} (hf : ∀ t, q t = true → f t = none) : ∀ {ts : List Expr}, ts.any q = true → (ts.filterMap f).length < ts.length
  | [], h => by cases h
  | t :: ts, h => by
    have le : (ts.filterMap f).length ≤ ts.length := List.length_filterMap_le ..
    cases hn : q t with
    | true =>
      rw [List.filterMap_cons_none (hf t hn), List.length_cons]
      omega
    | false =>
      rw [List.any_cons, hn] at h
      have ih := fm_lt2 hf (ts := ts) (by simpa using h)
      cases ht : f t with
      | none => rw [List.filterMap_cons_none ht, List.length_cons]; omega
      | some a => rw [List.filterMap_cons_some ht, List.length_cons, List.length_cons]; omega
theorem sw_cell {env : PySem.Env} {ts vs : List Expr} {k k2 : Nat} {p p2 : Pos} (h : ts.any (offLoc env.scope) = true) : swappedStores [.Tuple ts k p] (.Tuple vs k2 p2) env = pure none := by
  have fin : ∀ (b1 b2 f8 c8 : Bool) (nm : List Str), nm.length < ts.length → (do
      if b1 then return none
      if b2 then return none
      if nm.length != ts.length || nm.eraseDups.length != nm.length then return none
      if f8 then return none
      if c8 then unsupported "assign.tuple-of-constant-expressions:order-of-the-stores"
      return some nm : Sem (Option (List Str))) = pure none := by
    intro b1 b2 f8 c8 nm hl
    have e : (nm.length != ts.length || nm.eraseDups.length != nm.length) = true := by
      have : (nm.length != ts.length) = true := by
        have : nm.length ≠ ts.length := by omega
        simpa using this
      rw [this]; rfl
    rw [e]
    cases b1 <;> cases b2 <;> rfl
  refine fin _ _ _ _ _ (fm_lt2 (fun t ht => ?_) h)
  cases t with
  | Name x pos =>
    have hx : ¬ env.kindOf x = some .local := by
      have z : (!decide (env.scope.names.lookup x = some .local)) = true := ht
      have z2 : ¬ (env.scope.names.lookup x = some .local) := by simpa using z
      exact z2
    show (if (env.kindOf x == some .local && _) = true then some x else none) = none
    have e : (env.kindOf x == some .local) = false := by
      generalize env.kindOf x = o at hx
      cases o with
      | none => rfl
      | some k => cases k <;> first | rfl | exact absurd rfl hx
    rw [e]
    rfl
  | _ => rfl
section
variable {Φ : Funs} {c : Cfg} {X : Cx} {K : PySem.W.Frag} {σ τ : L2.St} {prot : List Nat}
def asgC (sc : Scope) (tg e : Expr) : Bool := plainE tg && (noComp e || !isName tg) && isTuple e && hasCell sc tg
theorem ps_asgC (G : Good Φ c X) {ow : Bool} {t : ST} {a : IE} {tg e : Expr} {pos : Pos} (he : PE X e (tE X.K (evE Φ a))) (hg : PG X tg (tG X.K Φ prot t)) (h : asgC c.sc tg e = true) : PS X (.Assign [tg] e pos) (tSt X.K prot (evS Φ (.asg ow t a))) := by
  unfold asgC at h
  simp only [Bool.and_eq_true, Bool.or_eq_true, Bool.not_eq_true'] at h
  obtain ⟨⟨⟨h1, h2⟩, h3⟩, h4⟩ := h
  refine (ps_asg he hg ?_ ?_ ?_).of fun D σ H q => asg_go q
  · show swapsWith e (some tg) pos.line X.env = pure false
    rcases h2 with h2 | h2
    · exact sw_no h2
    · cases e <;> first | rfl | (cases tg <;> first | rfl | cases h2)
  · cases tg with
    | Tuple ts k p =>
      have h4 : ts.any (offLoc X.env.scope) = true := by rw [G.sc]; exact h4
      cases e <;> first | exact sw_cell h4 | cases h3
    | _ => cases h4
  · cases tg <;> first | rfl | cases h1
end
end Rx
/-! Rx, more: a tuple's own methods; ranges as values. -/
namespace Rx
open PySem PySem.Spec L2 PyProof.Rows
section
variable {X : Cx}
/-! ### t.index(x) -/
def tBMT (r : V → List V → Hp → VK → Prop) (to : TE) (t : TA) : TE := fun σ H Q => to σ H fun x H1 => (∃ p u, x = .ref p ∧ TupK H1 p u) ∧ t σ H1 fun xs H2 => r x xs H2 Q
theorem pe_bmT {o e : Expr} {es : List Expr} {to : TE} {t : TA} {name : Str} {apos cpos : Pos} {id : String} {r : V → List V → Hp → VK → Prop} (slot : Slot "tuple" name id) (hty : typeOf (.builtin id) = pure (.type "method_descriptor")) (hm : MtR X id r) (ho : PE X o to) (ha : PA X (e :: es) t)
    (hbase : attributeBase o name X.env (eval o X.env) = eval o X.env)
    (hfew : ((backTo cpos (starEach (e :: es) X.env)).all (fun x => !x.1) && (backToKw cpos (keywordEach [] X.env)).all (fun x => x.1.isSome)
      && decide ((e :: es).length + ([] : List Keyword).length + (if ([] : List Keyword).isEmpty then 0 else 1) < 30)) = true)
    (hline : (apos.endLine == cpos.line) = true) (hs : starEach (e :: es) X.env = (false, eval e X.env) :: starEach es X.env) (hplain : (backTo cpos (starEach es X.env)).any (·.1) = false) :
    PE X (.Call (.Attribute o name apos) (e :: es) [] cpos) (tBMT r to t) := by
  refine ⟨fun pins s σ H Q I h => ?_⟩
  refine wpAny_Call_method_late hbase hfew hline rfl (thn (ho.run pins s σ H _ I h) fun v s1 ⟨x, H1, I1, r1, ⟨p, u, ex, ob, ho1, hc, hd⟩, q1⟩ => ?_)
  subst ex
  cases r1
  have hob : s1.heap.get? p = some ob := (I1.hok p _ ho1).1
  refine ⟨"tuple", id, PySem.F.plainAttrs_tuple, slot, hty, ⟨ob, hob, hc⟩, fun a ea => (by cases ea; exact ⟨ob, hob, hd⟩), ?_⟩
  have hA := ha.run cpos pins s1 σ H1 _ I1 q1
  rw [hs] at hA ⊢
  refine Calls.callWith_builtin (by show (false || (backTo cpos (starEach es X.env)).any (·.1)) = false; rw [hplain] <;> rfl) (Calls.evalArgs_plain ?_)
  exact thn hA fun us s2 ⟨vs, H2, I2, r2, q2⟩ => hm pins s2 σ H2 (.ref p) vs (.ref p) us Q I2 rfl r2 q2
def rTupIx (K : PySem.W.Frag) : V → List V → Hp → VK → Prop := fun x xs H Q => ∃ (a : Addr) (y : V) (d : PyData) (ds : List PyData) (j : Nat) (z : PyData), x = V.ref a ∧ xs = [y] ∧ Dp K H (V.ref a) (.tuple ds) ∧ Dp K H y d ∧
  SeqAt.shaped (.tuple ds) = true ∧ SeqAt.shaped d = true ∧ ds[j]? = some z ∧ PyData.eqv z d = true ∧ (∀ (m : Nat) (z' : PyData), m < j → ds[m]? = some z' → PyData.eqv z' d = false) ∧ Q (.int (j : Nat)) H
theorem mt_tupIx (hu : X.A.units + 65 < cLine) : MtR X "tuple.index" (rTupIx X.K) := by
  intro pins s σ H x xs v us Q I rx rxs h
  obtain ⟨a, y, d, ds, j, z, rfl, rfl, hl, hy, sl, sd, hz, hzj, hno, q⟩ := h
  cases rx
  cases rxs with
  | cons ry rt =>
    rename_i uy ut
    cases rt
    obtain ⟨bs, r1⟩ := Dp.reads I d y uy hy ry
    have hxs : PyData.canLayAll0 ds = true := by
      have z := SeqAt.canLay_of_shaped sl
      simpa [PyData.canLay0] using z
    have hroom : X.A.units + 1 + min (PyData.depthAll ds) d.depth < cLine := by
      have zd : d.depth ≤ 64 := by
        unfold SeqAt.shaped at sd
        rw [Bool.and_eq_true] at sd
        exact of_decide_eq_true sd.2
      omega
    cases hl with
    | tup hs ha =>
      obtain ⟨its, rv, ⟨⟨cls, dd, data, sls⟩, ho, hc, n, hdt⟩, hlen⟩ := I.tuple hs
      simp only at hc hdt
      subst hc hdt
      obtain ⟨as, h4⟩ := Dp.readsAll I ds _ its ha rv
      have hn : its.length = ds.length := SeqAt.ReadsAll.length ds its as h4
      have hmap : its.map (SeqAt.readOf s.heap) = ds := SeqAt.readsAll_map ds its as hxs h4
      obtain ⟨hjd, _⟩ := List.getElem?_eq_some_iff.mp hz
      have hjl : j < its.length := by omega
      have hj : j < its.toArray.size := by simpa using hjl
      have at_ : ∀ (m : Nat) (hm : m < its.toArray.size) (z' : PyData), ds[m]? = some z' → SeqAt.readOf s.heap its.toArray[m] = z' := by
        intro m hm z' hz'
        have hml : m < its.length := by simpa using hm
        rw [← hmap, List.getElem?_map, List.getElem?_eq_getElem hml] at hz'
        have e1 : SeqAt.readOf s.heap its[m] = z' := Option.some.inj (show some (SeqAt.readOf s.heap its[m]) = some z' from hz')
        simpa using e1
      refine call_meets PySem.F.slot_tuple_index ⟨_, ho, rfl⟩ PySem.F.entry_tuple_index (PySem.F.args_tuple_index_2 _ _)
        (TI.tuple_indexAt a its.toArray n dd sls uy (fun u => PyData.eqv (SeqAt.readOf s.heap u) d) j hj ?_ ?_) ⟨ho, SeqAt.items_eqAt (vs := its.toArray) (show ReadsAll s.heap its.toArray.toList ds as from h4) r1 hxs (SeqAt.canLay_of_shaped sd) hroom, ?_⟩
      · show PyData.eqv (SeqAt.readOf s.heap its.toArray[j]) d = true
        rw [at_ j hj z hz]
        exact hzj
      · intro m hm hmj
        have hmd : m < ds.length := by
          have : m < its.length := by simpa using hm
          omega
        have hz' : ds[m]? = some ds[m] := List.getElem?_eq_getElem hmd
        show PyData.eqv (SeqAt.readOf s.heap its.toArray[m]) d = false
        rw [at_ m hm _ hz']
        exact hno m _ hmj hz'
      · exact ⟨.int (j : Nat), H, I.tok _, ⟨_, rfl⟩, q⟩
end
section
variable {Φ : Funs} {c : Cfg} {X : Cx} {K : PySem.W.Frag} {σ τ : L2.St} {prot : List Nat} {H : Hp} {Q : VK}
theorem seen_inv {a : IE} {as : List IE} {v : MV} {vs : List MV} {ms : MEnv} {ds : List PyData} (n : isPk a = false) (e : seen (a :: as) (v :: vs) ms = some ds) : ∃ d r, v.frz = some d ∧ seen as vs ms = some r ∧ ds = d :: r := by
  unfold seen at e
  split at e
  · rename_i h1 h2; cases h1
  · rename_i h1 h2; cases h1; cases n
  · rename_i h1 h2
    cases h1; cases h2
    obtain ⟨d, e1, e2⟩ := bindSome e
    obtain ⟨r, e3, e4⟩ := mapSome e2
    exact ⟨d, r, e1, e3, e4.symm⟩
  · cases e
theorem own_tup {F H : Hp} {m : MV} {v : V} {M : List Addr} {ds : List PyData} (hs : Sub F H) (r : Own K F H m v M) (e : m.frz = some (.tuple ds)) : ∃ p u, v = .ref p ∧ TupK H p u := by
  cases r with
  | val r =>
    unfold MV.frz at e
    cases e
    cases r with
    | @tup p _ u h1 _ => exact ⟨p, u, rfl, h1.mono hs⟩
  | @tup p _ u _ h1 _ => exact ⟨p, u, rfl, h1⟩
  | ls _ _ => unfold MV.frz at e; cases e
  | @lst a ms vs L _ _ =>
    unfold MV.frz at e
    obtain ⟨d, _, e2⟩ := mapSome e
    cases e2
  | dct _ _ _ => unfold MV.frz at e; cases e
  | scr _ => unfold MV.frz at e; cases e
  | rng _ => unfold MV.frz at e; cases e
  | dtt _ _ _ => unfold MV.frz at e; cases e
  | fdt _ _ _ => unfold MV.frz at e; cases e
theorem index_go {a b : IE} (na : isPk a = false) (nb : isPk b = false) (q : tE K (evE Φ (.op .index [a, b])) σ H Q) : tBMT (rTupIx K) (tE K (evE Φ a)) (tCons (tE K (evE Φ b)) tNil) σ H Q := by
  obtain ⟨F, L, ms, m0, ms', R, e, k⟩ := q
  unfold evE at e
  obtain ⟨⟨vs, ms2⟩, e1, e2⟩ := bindSome e
  obtain ⟨ds, e3, e4⟩ := bindSome e2
  obtain ⟨d, e5, e6⟩ := mapSome e4
  cases e6
  unfold evEs at e1
  obtain ⟨⟨m, ms1⟩, f1, f2⟩ := bindSome e1
  obtain ⟨⟨vs', ms3⟩, f3, f4⟩ := mapSome f2
  cases f4
  unfold evEs at f3
  obtain ⟨⟨m', ms4⟩, g1, g2⟩ := bindSome f3
  obtain ⟨⟨vs2, ms5⟩, g3, g4⟩ := mapSome g2
  cases g4
  unfold evEs at g3
  cases g3
  obtain ⟨d1, r1, h1, h2, h3⟩ := seen_inv na e3
  obtain ⟨d2, r2, h4, h5, h6⟩ := seen_inv nb h2
  unfold seen at h5
  cases h5
  subst h6 h3
  have e5 : s_index [d1, d2] = some d := e5
  unfold s_index at e5
  split at e5
  · rename_i xs y heq
    cases heq
    split at e5
    · rename_i hsh
      rw [Bool.and_eq_true] at hsh
      obtain ⟨j, j1, j2⟩ := mapSome e5
      subst j2
      have z := List.findIdx?_eq_some_iff_getElem.mp j1
      obtain ⟨hj, z1, z2⟩ := z
      refine tE.go R f1 fun vx F1 H1 L1 M1 g => ⟨own_tup g.rel.sub g.res.fst h1, tE.go g.rel g1 fun vy F2 H2 L2 M2 gg => ?_⟩
      have ga := g.cons gg
      have fz : frzAll [m, m'] = some [.tuple xs, d2] := by
        unfold frzAll; rw [h1]
        unfold frzAll; rw [h4]
        unfold frzAll; rfl
      obtain ⟨F3, dt, R3, E3⟩ := ga.frz fz
      cases dt with
      | cons tx t =>
        cases t with
        | cons ty t =>
          cases t
          have dx := Dt.dp (K := K) R3.sub tx
          have dy := Dt.dp (K := K) R3.sub ty
          cases tx with
          | @tup pa _ us q1 q2 =>
            refine ⟨pa, vy, d2, xs, j, xs[j], rfl, rfl, dx, dy, hsh.2, hsh.1, List.getElem?_eq_getElem hj, z1, fun i z' hi hz => ?_, k _ _ _ _ _ (Got.of R3 E3 (.int _))⟩
            obtain ⟨hi2, rfl⟩ := List.getElem?_eq_some_iff.mp hz
            have := z2 i hi
            simpa using this
    · cases e5
  · cases e5
theorem pe_indexE (G : Good Φ c X) {a b : IE} {o e : Expr} {apos cpos : Pos} (na : isPk a = false) (nb : isPk b = false) (ho : PE X o (tE X.K (evE Φ a))) (he : PE X e (tE X.K (evE Φ b))) (hp : plainE e = true) (hl : (apos.endLine == cpos.line) = true)
    (hbase : attributeBase o "index" X.env (eval o X.env) = eval o X.env) : PE X (.Call (.Attribute o "index" apos) [e] [] cpos) (tE X.K (evE Φ (.op .index [a, b]))) := by
  have hu : X.A.units + 65 < cLine := by have := G.un; omega
  exact (pe_bmT PySem.F.slot_tuple_index PySem.F.type_tuple_index (mt_tupIx hu) ho (pa1 he hp) hbase (few1 hp) hl (star_cons hp) rfl).of fun _ _ _ q => index_go na nb q
end
end Rx
/-! Rx, more: ranges as values. -/
namespace Rx
open PySem PySem.Spec L2 PyProof.Rows
section
variable {X : Cx}
/-- i not in r -/
theorem op_nin_rng : OpR X (compareOp .NotIn) (fun x y H Q => ∃ i a lo hi, x = V.int i ∧ y = V.ref a ∧ H a = some (.rng lo hi) ∧ Q (.bl (!decide (lo ≤ i ∧ i < hi))) H) := by
  intro pins s σ H x y v u Q I rx ry h
  obtain ⟨i, a, lo, hi, rfl, rfl, ha, q⟩ := h
  obtain ⟨k, rfl⟩ := rx
  cases ry
  obtain ⟨t1, t2, t3, ho⟩ := I.hok a _ ha
  show wpAny _ _ (do return Value.bool (!(← contains (Value.ref a) (Value.int i k)))) _ _ s
  refine wpAny_bind (wpAny_contains_slot (T := "range") ⟨_, ho, rfl⟩ PySem.F.slot_range_contains (call_meets PySem.F.slot_range_contains ⟨_, ho, rfl⟩ PySem.F.entry_range_contains (PySem.F.args_range_contains_2 _ _) (q_contains a lo hi i t1 t2 t3 k)
    ⟨ho, wpAny_truthy_bool (wpAny_pure ⟨.bl _, H, I, rfl, ?_⟩)⟩))
  rw [place1]
  exact q
/-- a range at a slot, walked -/
def iRngS (i : Nat) : TI := fun σ H R => ∃ a lo hi, σ[i]? = some (some (.ref a)) ∧ H a = some (.rng lo hi) ∧ (-(2 ^ 62) ≤ lo ∧ lo < 2 ^ 62 ∧ -(2 ^ 62) ≤ hi ∧ hi < 2 ^ 62) ∧ R (Itr lo (hi - lo).toNat) H
theorem pi_rngS {tg : Expr} {i : Nat} {x : Str} {pos : Pos} (hx : PE X (.Name x pos) (tVar i)) : PI X tg (.Name x pos) (iRngS i) := by
  refine ⟨fun pins s σ H R I h => ?_⟩
  obtain ⟨a, lo, hi, hs, ha, ⟨h1, h2, h3, h4⟩, q⟩ := h
  refine thn (hx.run pins s σ H (fun v H' => v = .ref a ∧ H' = H) I ⟨_, hs, rfl, rfl⟩) fun v s1 ⟨y, H1, I1, r1, e1, e2⟩ => ?_
  subst e1 e2
  cases r1
  obtain ⟨t1, t2, t3, ho⟩ := I1.hok a _ ha
  refine wpAny_pyIter_range (show IsRange s1.heap a lo hi 1 t1 t2 t3 from ho) (small_one h1 h2 h3 h4) ?_
  refine ⟨s1.heap.objs.size, [s1.heap.objs.size], _, _, H1, rfl, I1.kept (t' := s1.toks) fun b o e => Heap.get?_push_of_some _ e, turn_range _ lo (hi - lo).toNat, ?_, fun b hb => ?_, q⟩
  · have e1 : lo + ((0 : Nat) : Int) * 1 = lo := by simp
    have e2 : (((hi - lo).toNat : Nat) : Int) - ((0 : Nat) : Int) = Builtin.Range.rangeSize lo hi 1 := by rw [rangeSize_one]; split <;> omega
    show IsRangeIter _ _ (lo + ((0 : Nat) : Int) * 1) ((((hi - lo).toNat : Nat) : Int) - ((0 : Nat) : Int)) 1
    rw [e1, e2]
    exact Heap.get?_push_size _ rfl
  · have e : b = s1.heap.objs.size := by simpa using hb
    subst e
    exact I1.fpOk (Nat.le_refl _) (I1.hok.fresh (Nat.le_refl _))
end
section
variable {Φ : Funs} {c : Cfg} {X : Cx} {K : PySem.W.Frag} {σ τ : L2.St} {prot : List Nat} {H : Hp} {Q : VK}
theorem pe_rngvE (G : Good Φ c X) {a b : IE} {e e' : Expr} {p pos : Pos} (hx : globB c "range" = true) (h : PE X e (tE X.K (evE Φ a))) (h' : PE X e' (tE X.K (evE Φ b))) (hp : plainE e = true) (hp' : plainE e' = true) : PE X (.Call (.Name "range" p) [e, e'] [] pos) (tE X.K (evE Φ (.rngv a b))) := by
  obtain ⟨g1, g2, g3⟩ := gl_of G hx
  refine (pe_callTy cr_range2 g1 (G.bl _ (by decide)) (by decide +kernel) (pa2 h h' hp hp') g3 g2 (star_cons hp) (by rw [star_cons hp']; rfl)).of fun σ H Q q => ?_
  obtain ⟨F, L, ms, m, ms', R, e, k⟩ := q
  unfold evE at e
  obtain ⟨⟨v, ms1⟩, e1, e2⟩ := bindSome e
  obtain ⟨⟨u, ms2⟩, e3, e4⟩ := bindSome e2
  obtain ⟨m2, e5, e6⟩ := mapSome e4
  cases e6
  refine tE.go R e1 fun x F1 H1 L1 M g => tE.go g.rel e3 fun y F2 H2 L2 M2 g2 => ?_
  unfold rngvOf at e5
  split at e5
  · rename_i i j
    split at e5
    · cases e5
      have r := g.res.fst
      have r2 := g2.res.fst
      cases r with
      | val r =>
        cases r2 with
        | val r2 =>
          cases r; cases r2
          refine ⟨i, j, rfl, fun q hq => ?_⟩
          have E := (g.cons g2).ext0
          have GG : Got X.K F H L (upd F2 q (.rng i j)) (upd H2 q (.rng i j)) L2 _ σ [.rng i j] [.ref q] [] := ⟨g2.rel.newF hq, .one (.rng upd_same), List.nodup_nil, (fun _ h => by cases h), by rw [List.append_nil]; exact E.trans (Ext.newF g2.rel.sub hq)⟩
          exact k _ _ _ _ _ GG
    · cases e5
  · cases e5
def rInR (neg : Bool) : R2 := fun x y H Q => ∃ i a lo hi, x = V.int i ∧ y = V.ref a ∧ H a = some (.rng lo hi) ∧ Q (.bl (xor neg (decide (lo ≤ i ∧ i < hi)))) H
theorem op_inR : ∀ neg : Bool, OpR X (compareOp (if neg = true then .NotIn else .In)) (rInR neg)
  | true => fun pins s σ H x y v u Q I rx ry h => by
    obtain ⟨i, a, lo, hi, h1, h2, ha, q⟩ := h
    exact op_nin_rng pins s σ H x y v u Q I rx ry ⟨i, a, lo, hi, h1, h2, ha, by rw [Bool.true_xor] at q; exact q⟩
  | false => fun pins s σ H x y v u Q I rx ry h => by
    obtain ⟨i, a, lo, hi, h1, h2, ha, q⟩ := h
    exact op_in_rng pins s σ H x y v u Q I rx ry ⟨i, a, lo, hi, h1, h2, ha, by rw [Bool.false_xor] at q; exact q⟩
theorem inR_go {neg : Bool} {a : IE} {i : Nat} (q : tE K (evE Φ (.inR neg a i)) σ H Q) : tOp (rInR neg) (tE K (evE Φ a)) (tVar i) σ H Q := by
  obtain ⟨F, L, ms, m, ms', R, e, k⟩ := q
  unfold evE at e
  obtain ⟨⟨v, ms1⟩, e1, e2⟩ := bindSome e
  obtain ⟨m2, e3, e4⟩ := bindSome e2
  obtain ⟨b, e5, e6⟩ := mapSome e4
  cases e6
  refine tE.go R e1 fun x F1 H1 L1 M g => ?_
  unfold inRof at e5
  split at e5
  · rename_i x0 lo hi
    cases e5
    have r := g.res.fst
    cases r with
    | val r =>
      cases r
      obtain ⟨w, La, Lb, h1, h2, _⟩ := g.rel.own.cut (joinSome e3)
      cases h2 with
      | @rng p _ _ hp =>
        exact ⟨_, h1, x0, p, lo, hi, rfl, rfl, g.rel.sub _ _ hp, k _ _ _ _ _ (Got.of g.rel g.ext0 (.bl _))⟩
  · cases e5
theorem pe_inRE (G : Good Φ c X) {neg : Bool} {a : IE} {i : Nat} {e : Expr} {x : Str} {p pos : Pos} (he : PE X e (tE X.K (evE Φ a))) (h : nameB c i x = true) : PE X (.Compare e [if neg = true then .NotIn else .In] [.Name x p] pos) (tE X.K (evE Φ (.inR neg a i))) :=
  (pe_cmpR (op_inR neg) he (pe_name G h) (by cases neg <;> rfl)).of fun _ _ _ q => inR_go q
theorem pt_inRE (G : Good Φ c X) {neg : Bool} {a : IE} {i : Nat} {e : Expr} {x : Str} {p pos : Pos} (he : PE X e (tE X.K (evE Φ a))) (h : nameB c i x = true) : PT X (.Compare e [if neg = true then .NotIn else .In] [.Name x p] pos) (tT X.K (evE Φ (.inR neg a i))) :=
  (pt_cmpR (op_inR neg) he (pe_name G h) (by cases neg <;> rfl)).of fun _ _ _ q => inR_go (tT_val q)
theorem pi_rngsE (G : Good Φ c X) {tg : Expr} {i : Nat} {x : Str} {pos : Pos} (h : nameB c i x = true) : PI X tg (.Name x pos) (tI X.K (evI Φ (.rngs i))) := by
  refine (pi_rngS (tg := tg) (pe_name G h)).of fun σ H R q => ?_
  obtain ⟨F, L, ms, ds, ms', RR, e, k⟩ := q
  unfold evI at e
  split at e
  · rename_i lo hi hd
    split at e
    · rename_i hl
      cases e
      obtain ⟨v, L1, L2, h1, h2, _⟩ := RR.own.cut hd
      have hlim : (lim : Int) = 1000000 := rfl
      cases h2 with
      | @rng a _ _ ha => exact ⟨a, lo, hi, h1, RR.sub _ _ ha, ⟨by omega, by omega, by omega, by omega⟩, k _ _ _ _ wk_range RR (Ext.refl _ _ _)⟩
    · cases e
  · cases e
end
end Rx
/-! Rx, more: a tuple the other way round. -/
namespace Rx
open PySem PySem.Spec L2 PyProof.Rows
theorem fm_congr {α β : Type} {f g : α → Option β} : ∀ {l : List α}, (∀ x ∈ l, f x = g x) → l.filterMap f = l.filterMap g
  | [], _ => rfl
  | x :: l, h => by rw [List.filterMap_cons, List.filterMap_cons, h x List.mem_cons_self, fm_congr fun y hy => h y (List.mem_cons_of_mem _ hy)]
theorem pick_back (xs : List Value) : ((List.range xs.length).filterMap fun (m : Nat) => xs.toArray[(((xs.length : Nat) : Int) - 1 + (m : Int) * (-1)).toNat]?) = xs.reverse := by
  have e : ∀ m ∈ List.range xs.length, xs.toArray[(((xs.length : Nat) : Int) - 1 + (m : Int) * (-1)).toNat]? = some (xs.reverse[m]?.getD .none) := fun m hm => by
    have hm := List.mem_range.mp hm
    have z : (((xs.length : Nat) : Int) - 1 + (m : Int) * (-1)).toNat = xs.length - 1 - m := by omega
    rw [z, List.getElem?_toArray, List.getElem?_reverse hm, List.getElem?_eq_getElem (by omega)]
    rfl
  rw [fm_congr e]
  show (List.range xs.length).filterMap (some ∘ fun m => xs.reverse[m]?.getD .none) = _
  rw [List.filterMap_eq_map]
  apply List.ext_getElem?
  intro i
  rw [List.getElem?_map]
  by_cases h : i < xs.length
  · have hr : i < xs.reverse.length := by rw [List.length_reverse]; exact h
    rw [List.getElem?_range h, Option.map_some, List.getElem?_eq_getElem hr]
    rfl
  · rw [List.getElem?_eq_none (by simpa using h), List.getElem?_eq_none (by simpa using h)]
    rfl
section
variable {prog : Program} {w : World} {A : Around} {E : Value → Shared → Prop} {s : Shared}
theorem applied_back {sl : Addr} {vs : Value} {n : Nat} {Q : Int × Int × Nat → Shared → Prop} (hs : s.heap.IsSliceOf sl .none .none vs) (ps : IsPart vs (some (-1)))
    (h : Q (((n : Nat) : Int) - 1, -1, n) s) : wpAny (model prog w) A (Builtin.Slice.sliceApplied (.ref sl) (pure (n : Int))) Q E s := by
  obtain ⟨os, hos, hcs, hds⟩ := id hs
  unfold Builtin.Slice.sliceApplied Builtin.Slice.sliceFields
  refine wpAny_bind (wpAny_bind (wpAny_field hos hds (x := .none) rfl (wpAny_bind (wpAny_field hos hds (x := .none) rfl (wpAny_bind (wpAny_field hos hds (x := vs) rfl (wpAny_pure ?_)))))))
  refine wpAny_bind (HT.slicePart_ ps ?_)
  show wpAny _ _ (if ((-1 : Int) == 0) = true then _ else _) _ _ s
  rw [if_neg (by decide)]
  refine wpAny_bind (HT.slicePart_ .none (wpAny_bind (HT.slicePart_ .none (wpAny_bind (wpAny_pure ?_)))))
  have ea : Builtin.Slice.sliceAdjust none none (-1) (n : Int) = ((n : Int) - 1, -1) := by
    unfold Builtin.Slice.sliceAdjust
    rfl
  have eb : Builtin.Slice.slicePlaces ((n : Int) - 1) (-1) (-1) = n := by
    unfold Builtin.Slice.slicePlaces
    rw [if_neg (by decide), show (-(-1) : Int) = 1 from rfl, Int.ediv_one]
    split <;> omega
  show wpAny _ _ (match Builtin.Slice.sliceAdjust none none (-1) (n : Int) with | (lo, hi) => pure (lo, (-1 : Int), Builtin.Slice.slicePlaces lo hi (-1))) _ _ s
  rw [ea]
  show wpAny _ _ (pure ((n : Int) - 1, (-1 : Int), Builtin.Slice.slicePlaces ((n : Int) - 1) (-1) (-1))) _ _ s
  rw [eb]
  exact wpAny_pure h
theorem get_back {t sl : Addr} {items : List Value} {vs : Value} {Q : Value → Shared → Prop} (ht : IsTup s.heap t items.toArray) (hs : s.heap.IsSliceOf sl .none .none vs) (ps : IsPart vs (some (-1)))
    (h : Q (.ref s.heap.objs.size) { s with heap := s.heap.push { cls := .type "tuple", data := .seq items.reverse.toArray } }) (hsz : items.length ≤ sizeLine) : wpAny (model prog w) A (getItem (.ref t) (.ref sl)) Q E s := by
  have htake : sizeOk (.seq items.reverse.toArray) := by
    show items.reverse.toArray.size ≤ sizeLine
    rw [List.size_toArray, List.length_reverse]
    exact hsz
  obtain ⟨os, hos, hcs, hds⟩ := id hs
  have hTs : s.TypeIs (.ref sl) "slice" := ⟨os, hos, hcs⟩
  unfold getItem
  try with_reducible refine wpAny_holding ?_
  first | refine wpAny_bind (wpAny_pure ?_) | skip
  refine wpAny_bind (wpAny_sequenceKey ht.typeIs (by decide) ?_)
  refine wpAny_bind (wpAny_callSpecial?_slot (name := Str.ofString "__getitem__") ht.typeIs PyProof.Rows.slot_tuple_getitem
    (wpAny_call_entry PyProof.Rows.slot_tuple_getitem ht.typeIs entry_tuple_getitem ?_ (args_tuple_getitem _ _)))
  show wpAny _ _ (Builtin.Tuple.tupleItemsOf (.ref t) >>= _) _ _ s
  refine wpAny_bind (tupleItemsOf_ ht ?_)
  refine wpAny_bind (wpAny_typeOf hTs ?_)
  rw [if_pos (by decide)]
  have hn : (items.toArray.size : Int) = ((items.length : Nat) : Int) := by rw [List.size_toArray]
  show wpAny _ _ (Builtin.Slice.sliceApplied (.ref sl) (pure (items.toArray.size : Int)) >>= _) _ _ s
  rw [hn]
  refine wpAny_bind (applied_back hs ps ?_)
  have hno : ¬ ((((items.length : Nat) : Int) - 1 == 0 && (-1 : Int) == 1 && items.length == items.toArray.size) = true) := by
    intro q
    rw [Bool.and_eq_true, Bool.and_eq_true] at q
    exact absurd q.1.2 (by decide)
  show wpAny _ _ (if (((items.length : Nat) : Int) - 1 == 0 && (-1 : Int) == 1 && items.length == items.toArray.size) = true then _ else _) _ _ s
  rw [if_neg hno, pick_back]
  first
    | exact wpAny_bind (m := Builtin.Tuple.tupleExact _) (wpAny_newObj_type (wpAny_pure ⟨_, rfl, wpAny_pure h⟩) htake)
    | exact wpAny_bind (m := Builtin.Tuple.tupleExact _) (wpAny_newObj_type (wpAny_bind (wpAny_pure (wpAny_pure ⟨_, rfl, wpAny_pure h⟩))) htake)
    | exact wpAny_bind (wpAny_bind (m := Builtin.Tuple.tupleExact _) (wpAny_newObj_type (wpAny_pure (wpAny_pure ⟨_, rfl, wpAny_pure h⟩)) htake))
    | exact wpAny_bind (wpAny_bind (m := Builtin.Tuple.tupleExact _) (wpAny_newObj_type (wpAny_pure ⟨_, rfl, wpAny_pure h⟩) htake))
end
section
variable {X : Cx}
def rRev (K : PySem.W.Frag) : V → Hp → VK → Prop := fun x H1 Q => (∃ a xs, x = .ref a ∧ SqL K H1 a xs ∧ ∀ p, H1 p = none → Q (.ref p) (upd H1 p (.lst xs.reverse))) ∨ (∃ a xs, x = .ref a ∧ SqT K H1 a xs ∧ ∀ p o, H1 p = none → TupO o → Q (.ref p) (upd H1 p (.frz o (.tup xs.reverse))))
theorem pe_revB {e : Expr} {te : TE} {k : Nat} {p1 p2 p3 pos : Pos} (he : PE X e te) : PE X (.Subscript e (.Slice none none (some (.UnaryOp .USub (.Constant (.int 1) k p1) p2)) p3) pos) (fun σ H Q => te σ H fun x H1 => rRev X.K x H1 Q) := by
  refine ⟨fun pins s σ H Q I h => ?_⟩
  refine Subscript_ (thn (he.run pins s σ H _ I h) fun v s1 ⟨x, H1, I1, r1, q1⟩ => ?_)
  have hst : PO X (some (.UnaryOp .USub (.Constant (.int 1) k p1) p2)) (tPart (tUn (L2.rU fun i => .int (-i)) (L2.tC (.int 1)))) := po_some (pe_un un_neg pe_int)
  refine wpAny_Slice (thn (po_none.run pins s1 σ H1 (fun o H2 => o = none ∧ H2 = H1) I1 ⟨rfl, rfl⟩) fun vl s2 ⟨l, H2, I2, pl, el, e2⟩ => ?_)
  subst el e2
  refine thn (po_none.run pins s2 σ H2 (fun o H3 => o = none ∧ H3 = H2) I2 ⟨rfl, rfl⟩) fun vu s3 ⟨u, H3, I3, pu, eu, e3⟩ => ?_
  subst eu e3
  refine thn (hst.run pins s3 σ H3 (fun o H4 => o = some (-1) ∧ H4 = H3) I3 ⟨1, rfl, -1, rfl, rfl, rfl⟩) fun vs s4 ⟨o, H4, I4, ps, eo, e4⟩ => ?_
  subst eo e4
  have I5 : Inv X pins σ H4 { s4 with heap := s4.heap.push { cls := .type "slice", data := .fields #[vl, vu, vs] } } := I4.kept (t' := s4.toks) fun b ob q => Heap.get?_push_of_some _ q
  rcases q1 with ⟨a, xs, ex, hx, q⟩ | ⟨a, xs, ex, hx, q⟩
  · subst ex
    cases r1
    obtain ⟨its, r, ht, hz⟩ := I5.list hx
    have hlen := r.length
    show wpAny (model X.prog X.w) X.A (subscriptTail e (.Slice none none (some (.UnaryOp .USub (.Constant (.int 1) k p1) p2)) p3) (.ref a) (.ref s4.heap.objs.size)) (EP X pins σ Q) X.xe { s4 with heap := s4.heap.push { cls := .type "slice", data := .fields #[vl, vu, vs] } }
    refine tail_any (ops := [.ref a, .ref s4.heap.objs.size]) ht.isList.typeIs (PySem.slot_list_getitem.lookup) ?_ (by with_unfolding_all rfl)
    refine wpAny_getItem_list_slice ht.isList (Heap.IsSliceOf.new _ vl vu vs) pl pu ps (by decide) ?_ (by rw [List.size_toArray, ← hlen]; exact hz)
    rw [PySem.W.krv_pick]
    refine ⟨.ref _, _, I5.laid (t' := s4.toks) (o := .lst xs.reverse) (fun b ob q => Heap.get?_push_of_some _ q) (Nat.le_refl _) ⟨by rw [List.length_reverse]; exact hz, _, 0, r.reverse, Heap.get?_push_size _ rfl⟩, rfl, q _ (I5.hok.fresh (Nat.le_refl _))⟩
  · subst ex
    cases r1
    obtain ⟨its, r, ht, hz⟩ := I5.tuple hx
    have hlen := r.length
    cases pl
    cases pu
    show wpAny (model X.prog X.w) X.A (subscriptTail e (.Slice none none (some (.UnaryOp .USub (.Constant (.int 1) k p1) p2)) p3) (.ref a) (.ref s4.heap.objs.size)) (EP X pins σ Q) X.xe { s4 with heap := s4.heap.push { cls := .type "slice", data := .fields #[.none, .none, vs] } }
    refine tail_any (ops := [.ref a, .ref s4.heap.objs.size]) ht.typeIs (PyProof.Rows.slot_tuple_getitem.lookup) ?_ (by with_unfolding_all rfl)
    refine get_back ht (Heap.IsSliceOf.new _ .none .none vs) ps ?_ (by rw [← hlen]; exact hz)
    refine ⟨.ref _, _, I5.laid (t' := s4.toks) (o := .frz { cls := .type "tuple", data := .seq its.reverse.toArray } (.tup xs.reverse)) (fun b ob q => Heap.get?_push_of_some _ q) (Nat.le_refl _) ⟨Heap.get?_push_size _ rfl, by rw [List.length_reverse]; exact hz, _, r.reverse, IsTup.new _ _⟩, rfl, q _ _ (I5.hok.fresh (Nat.le_refl _)) TupO.mk⟩
end
section
variable {Φ : Funs} {X : Cx}
theorem ok_rev {K : PySem.W.Frag} : OpOk .rev (R1of (rRev K)) := by
  intro F H ds vs d Q hs dt e k
  have e : s_rev ds = some d := e
  unfold s_rev at e
  split at e
  · cases e
    obtain ⟨v, rfl, r⟩ := dt.oneV
    obtain ⟨a, ws, rfl, h1, q1⟩ := r.lstOf hs
    exact .inl ⟨a, ws, rfl, SqL.of h1, fun p hp => k _ _ (.lst rfl hp q1.rev)⟩
  · cases e
    obtain ⟨v, rfl, r⟩ := dt.oneV
    obtain ⟨a, ws, rfl, h1, q1⟩ := r.tupOf
    exact .inr ⟨a, ws, rfl, (h1.mono hs).sq, fun p o hp wo => k _ _ (.tup hp wo q1.rev)⟩
  · cases e
theorem pe_revE {a : IE} {e : Expr} {k : Nat} {p1 p2 p3 pos : Pos} (he : PE X e (tO X.K Φ a)) : PE X (.Subscript e (.Slice none none (some (.UnaryOp .USub (.Constant (.int 1) k p1) p2)) p3) pos) (tE X.K (evE Φ (.op .rev [a]))) :=
  (pe_revB he).of fun σ H Q q => op1_go ok_rev q
end
end Rx
/-! Rx, more: zip of two lists or tuples, told to be of one length. -/
namespace Rx
open PySem PySem.Spec L2 PyProof.Rows
abbrev IsZs (h : Heap) (z TI TO : Addr) (f : Value) : Prop := h.get? z = some { cls := .type "zip", dict := none, data := .fields #[f, .bool false, .bool true, .ref TI, .ref TO], slots := #[] }
section
variable {prog : Program} {w : World} {A : Around} {E : Value → Shared → Prop} {s : Shared} {z TI TO i1 i2 it : Addr} {fa fb fp : List Addr} {n na nb i : Nat} {Pa Pb P : Nat → Value → Prop} {Sa Sb St : Nat → Heap → Prop} {u1 u2 : Value}
theorem end_item {Q : Option Value → Shared → Prop} (D : Draws prog w A it fp n P St) (hi : i < n) (st : St i s.heap)
    (h : ∀ x hh tk, P i x → St (i + 1) hh → Heap.SameBut it s.heap hh → Q (some x) { s with heap := hh, toks := tk }) : wpAny (model prog w) A (Builtin.SmallTypes.nextOrEnd (.ref it)) Q E s := by
  unfold Builtin.SmallTypes.nextOrEnd
  exact wpAny_bind (wpAny_attempt (D.item i s _ _ hi st fun x hh tk p q r => wpAny_pure (h x hh tk p q r)))
theorem end_done {Q : Option Value → Shared → Prop} (D : Draws prog w A it fp n P St) (st : St n s.heap)
    (h : ∀ hh, Heap.ExtBut it s.heap hh → Q none { s with heap := hh }) : wpAny (model prog w) A (Builtin.SmallTypes.nextOrEnd (.ref it)) Q E s := by
  unfold Builtin.SmallTypes.nextOrEnd
  refine wpAny_bind (wpAny_attempt (D.done s _ _ st fun hh e q ⟨o, ho, hc⟩ => ?_))
  refine wpAny_bind (wpAny_isInstance (T := "StopIteration") (b := true) ⟨o, ho, hc⟩ isSubtype_stop ?_)
  exact wpAny_pure (h hh q)
theorem zs_item {Q : Value → Shared → Prop} (S : ZipSep2 z TI TO i1 i2 fa fb) (D1 : Draws prog w A i1 fa na Pa Sa) (D2 : Draws prog w A i2 fb nb Pb Sb)
    (hz : IsZs s.heap z TI TO .none) (hTI : IsTupOf2 s.heap TI (.ref i1) (.ref i2)) (hTO : IsTupOf2 s.heap TO u1 u2) (sa : Sa i s.heap) (sb : Sb i s.heap) (la : i < na) (lb : i < nb)
    (hQ : ∀ x y hh tk, Pa i x → Pb i y → IsZs hh z TI TO (rawInt s.heap.objs.size) → IsTupOf2 hh TO x y → Sa (i + 1) hh → Sb (i + 1) hh → IsTupOf2 hh s.heap.objs.size x y → hh.objs.size = s.heap.objs.size + 1 →
      (∀ c o, c ≠ z → c ≠ TO → c ≠ i1 → c ≠ i2 → s.heap.get? c = some o → hh.get? c = some o) → Q (.ref s.heap.objs.size) { s with heap := hh, toks := tk }) :
    wpAny (model prog w) A (Builtin.«zip.__next__» ⟨[.ref z], []⟩) (fun fin s' => ∃ v, fin = .done (.ret v) ∧ Q v s') E s := by
  obtain ⟨hp, g, d, tk0, os⟩ := s
  show wpAny _ _ (field (.ref z) 2 >>= _) _ _ ⟨hp, g, d, tk0, os⟩
  refine wpAny_bind (wpAny_field hz rfl (x := .bool true) rfl ?_)
  show wpAny _ _ (field (.ref z) 3 >>= _) _ _ ⟨hp, g, d, tk0, os⟩
  refine wpAny_bind (wpAny_field hz rfl (x := .ref TI) rfl (wpAny_bind (wpAny_seqItems hTI rfl ?_)))
  show wpAny _ _ (Builtin.SmallTypes.ownedTupleIsFree (.ref z) >>= _) _ _ ⟨hp, g, d, tk0, os⟩
  refine wpAny_bind ?_
  unfold Builtin.SmallTypes.ownedTupleIsFree
  refine wpAny_bind (wpAny_field hz rfl (x := .none) rfl (wpAny_pure ?_))
  simp only [if_true]
  refine wpAny_bind (wpAny_rule (wpAny_bind (wpAny_field hz rfl (x := .ref TO) rfl ?_)))
  refine wpAny_bind (wpAny_setField_rec hz (by simp) fun ha hza hsa => ?_)
  replace hza : IsZs ha z TI TO .ellipsis := hza
  replace hsa : Heap.SameBut z hp ha := hsa
  refine wpAny_bind ?_
  simp only [List.zipIdx_cons, List.zipIdx_nil, List.forIn_cons, List.forIn_nil]
  refine wpAny_bind (wpAny_bind (wpAny_onRaise ?_))
  show wpAny _ _ (Builtin.SmallTypes.nextOrEnd (.ref i1)) _ _ ⟨ha, g, d, tk0, os⟩
  refine end_item D1 la (D1.over sa hsa S.zf1) fun x hb tkb px sx hsb => ?_
  replace hsb : Heap.SameBut i1 ha hb := hsb
  have ta : IsTupOf2 hb TO u1 u2 := hsb.extBut _ _ S.Ti1 (hsa.extBut _ _ S.TOz hTO)
  refine wpAny_bind (wpAny_seqItems (s := ⟨hb, g, d, tkb, os⟩) ta rfl (wpAny_bind (updateSeq_IsTupOf2 (s := ⟨hb, g, d, tkb, os⟩) ta fun hc tc hsc => ?_)))
  replace tc : IsTupOf2 hc TO x u2 := tc
  replace hsc : Heap.SameBut TO hb hc := hsc
  refine wpAny_bind (wpAny_letGo (wpAny_pure (wpAny_bind (wpAny_bind (wpAny_onRaise ?_)))))
  show wpAny _ _ (Builtin.SmallTypes.nextOrEnd (.ref i2)) _ _ ⟨hc, g, d, tkb, os⟩
  refine end_item D2 lb (D2.over (D2.over (D2.over sb hsa S.zf2) hsb S.sep1_2) hsc S.Tf2) fun y hd tkd py sy hsd => ?_
  replace hsd : Heap.SameBut i2 hc hd := hsd
  have td : IsTupOf2 hd TO x u2 := hsd.extBut _ _ S.Ti2 tc
  refine wpAny_bind (wpAny_seqItems (s := ⟨hd, g, d, tkd, os⟩) td rfl (wpAny_bind (updateSeq_IsTupOf2 (s := ⟨hd, g, d, tkd, os⟩) td fun he te hse => ?_)))
  replace te : IsTupOf2 he TO x y := te
  replace hse : Heap.SameBut TO hd he := hse
  refine wpAny_bind (wpAny_letGo (wpAny_pure (wpAny_pure ?_)))
  refine wpAny_bind (wpAny_seqItems (s := ⟨he, g, d, tkd, os⟩) te rfl (wpAny_bind (wpAny_newTuple ?_)))
  have esz : he.objs.size = hp.objs.size := by rw [hse.1, hsd.1, hsc.1, hsb.1, hsa.1]
  have ze : IsZs he z TI TO .ellipsis := hse.extBut _ _ S.TOz.symm (hsd.extBut _ _ S.zi2 (hsc.extBut _ _ S.TOz.symm (hsb.extBut _ _ S.zi1 hza)))
  have ke : ∀ c o, c ≠ z → c ≠ TO → c ≠ i1 → c ≠ i2 → hp.get? c = some o → he.get? c = some o := fun c o cz cT c1 c2 e =>
    hse.extBut _ _ cT (hsd.extBut _ _ c2 (hsc.extBut _ _ cT (hsb.extBut _ _ c1 (hsa.extBut _ _ cz e))))
  have fa1 : Sa (i + 1) he := D1.over (D1.over (D1.over sx hsc S.Tf1) hsd S.sep2_1) hse S.Tf1
  have fb1 : Sb (i + 1) he := D2.over sy hse S.Tf2
  have zl : z < he.objs.size := Heap.lt_size ze
  show wpAny _ _ (Builtin.SmallTypes.ownedTupleHandOut (.ref z) (.ref he.objs.size) >>= _) _ _ ⟨he.push { cls := .type "tuple", data := .seq #[x, y] }, g, d, tkd, os⟩
  refine wpAny_bind ?_
  unfold Builtin.SmallTypes.ownedTupleHandOut
  have zf : IsZs (he.push { cls := .type "tuple", data := .seq #[x, y] }) z TI TO .ellipsis := Heap.get?_push_of_some _ ze
  refine wpAny_bind (wpAny_setField_rec zf (by simp) fun hg zg hsg => ?_)
  replace zg : IsZs hg z TI TO (rawInt he.objs.size) := zg
  refine wpAny_setField_rec zg (by simp) fun hh zh hsh => ?_
  replace zh : IsZs hh z TI TO (rawInt he.objs.size) := zh
  replace hsg : Heap.SameBut z (he.push { cls := .type "tuple", data := .seq #[x, y] }) hg := hsg
  replace hsh : Heap.SameBut z hg hh := hsh
  have up : ∀ c o, c ≠ z → he.get? c = some o → hh.get? c = some o := fun c o c1 e => hsh.extBut _ _ c1 (hsg.extBut _ _ c1 (Heap.get?_push_of_some _ e))
  have tn : IsTupOf2 hh he.objs.size x y := hsh.extBut _ _ (Nat.ne_of_gt zl) (hsg.extBut _ _ (Nat.ne_of_gt zl) (Heap.get?_push_size _ rfl))
  have zn : hh.objs.size = he.objs.size + 1 := by rw [hsh.1, hsg.1, Heap.size_push]
  rw [esz] at zh tn zn
  refine wpAny_pure ⟨_, rfl, ?_⟩
  show Q (.ref he.objs.size) ⟨hh, g, d, tkd, os⟩
  rw [esz]
  exact hQ x y hh tkd px py zh (up _ _ S.TOz te) (D1.frame _ _ _ fa1 fun b hb o e => up b o (fun q => S.zf1 (q ▸ hb)) e) (D2.frame _ _ _ fb1 fun b hb o e => up b o (fun q => S.zf2 (q ▸ hb)) e) tn zn fun c o cz cT c1 c2 e => up c o cz (ke c o cz cT c1 c2 e)
theorem zs_end {Q : Fin → Shared → Prop} (hh : A.handled = none) (S : ZipSep2 z TI TO i1 i2 fa fb) (D1 : Draws prog w A i1 fa n Pa Sa) (D2 : Draws prog w A i2 fb n Pb Sb)
    (hz : IsZs s.heap z TI TO .none) (hTI : IsTupOf2 s.heap TI (.ref i1) (.ref i2)) (hTO : IsTupOf2 s.heap TO u1 u2) (sa : Sa n s.heap) (sb : Sb n s.heap)
    (hE : ∀ hh e, (∀ c o, c ≠ z → c ≠ TO → c ≠ i1 → c ≠ i2 → s.heap.get? c = some o → hh.get? c = some o) → (∃ o, hh.get? e = some o ∧ o.cls = .type "StopIteration") → E (.ref e) { s with heap := hh }) :
    wpAny (model prog w) A (Builtin.«zip.__next__» ⟨[.ref z], []⟩) Q E s := by
  obtain ⟨hp, g, d, tk0, os⟩ := s
  show wpAny _ _ (field (.ref z) 2 >>= _) _ _ ⟨hp, g, d, tk0, os⟩
  refine wpAny_bind (wpAny_field hz rfl (x := .bool true) rfl ?_)
  show wpAny _ _ (field (.ref z) 3 >>= _) _ _ ⟨hp, g, d, tk0, os⟩
  refine wpAny_bind (wpAny_field hz rfl (x := .ref TI) rfl (wpAny_bind (wpAny_seqItems hTI rfl ?_)))
  show wpAny _ _ (Builtin.SmallTypes.ownedTupleIsFree (.ref z) >>= _) _ _ ⟨hp, g, d, tk0, os⟩
  refine wpAny_bind ?_
  unfold Builtin.SmallTypes.ownedTupleIsFree
  refine wpAny_bind (wpAny_field hz rfl (x := .none) rfl (wpAny_pure ?_))
  simp only [if_true]
  refine wpAny_bind (wpAny_rule (wpAny_bind (wpAny_field hz rfl (x := .ref TO) rfl ?_)))
  refine wpAny_bind (wpAny_setField_rec hz (by simp) fun ha hza hsa => ?_)
  replace hza : IsZs ha z TI TO .ellipsis := hza
  replace hsa : Heap.SameBut z hp ha := hsa
  refine wpAny_bind ?_
  simp only [List.zipIdx_cons, List.zipIdx_nil, List.forIn_cons, List.forIn_nil]
  refine wpAny_bind (wpAny_bind (wpAny_onRaise ?_))
  show wpAny _ _ (Builtin.SmallTypes.nextOrEnd (.ref i1)) _ _ ⟨ha, g, d, tk0, os⟩
  refine end_done D1 (D1.over sa hsa S.zf1) fun hb kb => ?_
  replace kb : Heap.ExtBut i1 ha hb := kb
  have zb : IsZs hb z TI TO .ellipsis := kb _ _ S.zi1 hza
  refine wpAny_bind (wpAny_setField_rec (s := ⟨hb, g, d, tk0, os⟩) zb (by simp) fun hc zc hsc => ?_)
  replace hsc : Heap.SameBut z hb hc := hsc
  refine wpAny_bind ?_
  have sbc : Sb n hc := D2.over (D2.frame _ _ _ (D2.over sb hsa S.zf2) fun b hb o e => kb b o (fun q => S.sep1_2 (q ▸ hb)) e) hsc S.zf2
  show wpAny _ _ (((forIn [(Value.ref i2, 1)] PUnit.unit _ : Sem PUnit) >>= _) : Sem _) _ _ ⟨hc, g, d, tk0, os⟩
  simp only [List.forIn_cons, List.forIn_nil]
  refine wpAny_bind (wpAny_bind (wpAny_bind ?_))
  refine end_done (s := ⟨hc, g, d, tk0, os⟩) D2 sbc fun hd kd => ?_
  replace kd : Heap.ExtBut i2 hc hd := kd
  refine wpAny_pure (wpAny_pure ?_)
  unfold Builtin.SmallTypes.stopIteration
  show wpAny _ _ (newExc (.type "StopIteration") [] >>= _) _ _ ⟨hd, g, d, tk0, os⟩
  refine wpAny_bind ?_
  simp only [newExc, newTuple]
  refine wpAny_bind (wpAny_newObj_type ?_ (by size_fits))
  refine wpAny_bind (m := firstArgMember _ _) (wpAny_of_eq (a := Value.none) (by first | rfl | (simp only [firstArgMember]; rfl)) ?_)
  refine wpAny_newObj_type ?_ (by size_fits)
  simp only [raiseNew]
  refine wpAny_bind (wpAny_handled ?_)
  rw [hh]
  refine wpAny_bind (wpAny_pure (wpAny_throw ?_))
  refine hE _ _ (fun c o cz cT c1 c2 x => ?_) ⟨_, Heap.get?_push_size _ rfl, rfl⟩
  exact Heap.get?_push_of_some _ (Heap.get?_push_of_some _ (kd _ _ c2 (hsc.extBut _ _ cz (kb _ _ c1 (hsa.extBut _ _ cz x)))))
theorem next_zs_item {Q : Option Value → Shared → Prop} (S : ZipSep2 z TI TO i1 i2 fa fb) (D1 : Draws prog w A.in1 i1 fa na Pa Sa) (D2 : Draws prog w A.in1 i2 fb nb Pb Sb)
    (hz : IsZs s.heap z TI TO .none) (hTI : IsTupOf2 s.heap TI (.ref i1) (.ref i2)) (hTO : IsTupOf2 s.heap TO u1 u2) (sa : Sa i s.heap) (sb : Sb i s.heap) (la : i < na) (lb : i < nb)
    (hQ : ∀ x y hh tk, Pa i x → Pb i y → IsZs hh z TI TO (rawInt s.heap.objs.size) → IsTupOf2 hh TO x y → Sa (i + 1) hh → Sb (i + 1) hh → IsTupOf2 hh s.heap.objs.size x y → hh.objs.size = s.heap.objs.size + 1 →
      (∀ c o, c ≠ z → c ≠ TO → c ≠ i1 → c ≠ i2 → s.heap.get? c = some o → hh.get? c = some o) → Q (some (.ref s.heap.objs.size)) { s with heap := hh, toks := tk }) : wpAny (model prog w) A (pyNext (.ref z)) Q E s := by
  have ty : s.TypeIs (.ref z) "zip" := ⟨_, hz, rfl⟩
  unfold pyNext
  refine wpAny_bind (wpAny_attempt (wpAny_callSpecial?_slot (name := Str.ofString "__next__") ty F.slot_zip_next (wpAny_call_entry F.slot_zip_next ty F.entry_zip_next ?_ (F.args_zip_next_1 _))))
  exact zs_item S D1 D2 hz hTI hTO sa sb la lb fun x y hh tk p1 p2 p3 p4 p5 p6 p7 p8 p9 => wpAny_pure (hQ x y hh tk p1 p2 p3 p4 p5 p6 p7 p8 p9)
theorem next_zs_end {Q : Option Value → Shared → Prop} (hh : A.handled = none) (S : ZipSep2 z TI TO i1 i2 fa fb) (D1 : Draws prog w A.in1 i1 fa n Pa Sa) (D2 : Draws prog w A.in1 i2 fb n Pb Sb)
    (hz : IsZs s.heap z TI TO .none) (hTI : IsTupOf2 s.heap TI (.ref i1) (.ref i2)) (hTO : IsTupOf2 s.heap TO u1 u2) (sa : Sa n s.heap) (sb : Sb n s.heap)
    (hQ : ∀ hh tk, (∀ c o, c ≠ z → c ≠ TO → c ≠ i1 → c ≠ i2 → s.heap.get? c = some o → hh.get? c = some o) → Q none { s with heap := hh, toks := tk }) : wpAny (model prog w) A (pyNext (.ref z)) Q E s := by
  have ty : s.TypeIs (.ref z) "zip" := ⟨_, hz, rfl⟩
  unfold pyNext
  refine wpAny_bind (wpAny_attempt (wpAny_callSpecial?_slot (name := Str.ofString "__next__") ty F.slot_zip_next (wpAny_call_entry F.slot_zip_next ty F.entry_zip_next ?_ (F.args_zip_next_1 _))))
  refine zs_end hh S D1 D2 hz hTI hTO sa sb fun hh e k ⟨o, ho, hc⟩ => ?_
  exact wpAny_bind (wpAny_isInstance (T := "StopIteration") (b := true) ⟨o, ho, hc⟩ isSubtype_stop (wpAny_pure (hQ _ _ k)))
/-- told (or not) to be of one length -/
abbrev IsZb (b : Bool) (h : Heap) (z TI TO : Addr) (f : Value) : Prop := h.get? z = some { cls := .type "zip", dict := none, data := .fields #[f, .bool false, .bool b, .ref TI, .ref TO], slots := #[] }
theorem go_zb {elts : List Expr} {kk : Nat} {pos : Pos} {b : Bool} {T : Addr} {Q : Unit → Shared → Prop} (hz : IsZb b s.heap z TI TO (rawInt T))
    (hQ : ∀ hh, IsZb b hh z TI TO .none → Heap.SameBut z s.heap hh → Q () { s with heap := hh }) : wpAny (model prog w) A (letOwnedTupleGo (.Tuple elts kk pos) (.ref z) (.ref T)) Q E s := by
  unfold letOwnedTupleGo
  refine wpAny_bind (wpAny_load hz ?_)
  show wpAny _ _ (if (["enumerate", "zip", "dict_itemiterator", "dict_reverseitemiterator", "odict_iterator", "itertools.zip_longest", "itertools.pairwise"].contains "zip" && (#[rawInt T, .bool false, .bool b, .ref TI, .ref TO] : Array Value)[0]? == some (rawInt T)) = true then _ else _) Q E s
  rw [if_pos (by simp)]
  refine wpAny_bind (wpAny_rule ?_)
  show wpAny _ _ (setField (.ref z) 0 .none) _ _ _
  exact wpAny_setField_rec hz (by simp) fun hh zh sh => hQ hh zh sh
theorem iter_zb {b : Bool} {f : Value} {Q : Value → Shared → Prop} (hz : IsZb b s.heap z TI TO f) (h : Q (.ref z) s) : wpAny (model prog w) A (pyIter (.ref z)) Q E s := by
  have ty : s.TypeIs (.ref z) "zip" := ⟨_, hz, rfl⟩
  refine wpAny_pyIter_slot ty F.slot_zip_iter (wpAny_call_entry F.slot_zip_iter ty F.entry_zip_iter ?_ (F.args_zip_iter_1 _))
  exact wpAny_pure (a := Fin.done (.ret (.ref z))) ⟨_, rfl, "zip", _, ty, F.slot_zip_next.lookup, h⟩
end
theorem typeCall_zs (a b c : Value) : checkTypeCall "zip" ⟨[a, b], [(Str.ofString "strict", c)]⟩ = pure () := by kernel_rfl
theorem newCall_zs (a b c : Value) : checkBuiltinCall "zip.__new__" ⟨[.type "zip", a, b], [(Str.ofString "strict", c)]⟩ = pure () := by kernel_rfl
theorem init_zs (obj a b c : Value) : argsOk "object.__init__" ⟨[obj, a, b], [(Str.ofString "strict", c)]⟩ := by unfold argsOk; kernel_rfl
abbrev hpT (h : Heap) (o1 o2 : Obj) : Heap := ((h.push o1).push o2).push { cls := .type "tuple", data := .seq #[.ref h.objs.size, .ref (h.push o1).objs.size] }
abbrev hpO (h : Heap) (o1 o2 : Obj) : Heap := (hpT h o1 o2).push { cls := .type "tuple", data := .seq #[.none, .none] }
abbrev hpZ (h : Heap) (o1 o2 : Obj) : Heap := (hpO h o1 o2).push { cls := .type "zip", data := .fields #[.none, .bool false, .bool true, .ref ((h.push o1).push o2).objs.size, .ref (hpT h o1 o2).objs.size] }
theorem meets_zs {v1 v2 : Value} {o1 o2 : Obj} {H1 H2 : Heap → Prop} (B1 : Begins v1 o1 H1) (B2 : Begins v2 o2 H2) :
    Meets (Builtin.«zip.__new__» ⟨[.type "zip", v1, v2], [(Str.ofString "strict", .bool true)]⟩) (fun _ R s => (H1 s.heap ∧ H2 s.heap) ∧ R (.ok (.ret (.ref (hpO s.heap o1 o2).objs.size))) { s with heap := hpZ s.heap o1 o2 }) :=
  .of_wp fun prog w A R s h => by
    obtain ⟨hp, g, d, tk, os⟩ := s
    obtain ⟨⟨h1, h2⟩, h⟩ := h
    have hsub := sub_zip
    have e1 : (Str.ofString "strict" != ("strict" : Str)) = false := by decide +kernel
    have e2 : (Str.ofString "strict" == ("strict" : Str)) = true := by decide +kernel
    have q1 : ∀ {A' : Around} {E : Value → Shared → Prop} {Q : Value → Shared → Prop}, Q (.ref hp.objs.size) ⟨hp.push o1, g, d, tk, os⟩ → wpAny (model prog w) A' (pyIter v1) Q E ⟨hp, g, d, tk, os⟩ :=
      fun q => B1.iter prog w _ _ ⟨hp, g, d, tk, os⟩ _ h1 q
    have q2 : ∀ {A' : Around} {E : Value → Shared → Prop} {Q : Value → Shared → Prop}, Q (.ref (hp.push o1).objs.size) ⟨(hp.push o1).push o2, g, d, tk, os⟩ → wpAny (model prog w) A' (pyIter v2) Q E ⟨hp.push o1, g, d, tk, os⟩ :=
      fun q => B2.iter prog w _ _ ⟨hp.push o1, g, d, tk, os⟩ _ (B2.keeps _ _ h2 fun b o' e => Heap.get?_push_of_some _ e) q
    wp_walk using q1, q2
    exact ⟨_, rfl, h⟩
end Rx
/-! Rx, more: zip as an iterator. -/
namespace Rx
open PySem PySem.Spec L2 PyProof.Rows
section
variable {prog : Program} {w : World} {A : Around} {E : Value → Shared → Prop} {s : Shared}
theorem zs_begins {v1 v2 : Value} {o1 o2 : Obj} {H1 H2 : Heap → Prop} {Q : Value → Shared → Prop} (B1 : Begins v1 o1 H1) (B2 : Begins v2 o2 H2) (h1 : H1 s.heap) (h2 : H2 s.heap)
    (h : ∀ hh, IsZb true hh (s.heap.objs.size + 4) (s.heap.objs.size + 2) (s.heap.objs.size + 3) .none → IsTupOf2 hh (s.heap.objs.size + 2) (.ref s.heap.objs.size) (.ref (s.heap.objs.size + 1)) →
      IsTupOf2 hh (s.heap.objs.size + 3) .none .none → hh.get? s.heap.objs.size = some o1 → hh.get? (s.heap.objs.size + 1) = some o2 → hh.objs.size = s.heap.objs.size + 5 →
      (∀ c o, s.heap.get? c = some o → hh.get? c = some o) → Q (.ref (s.heap.objs.size + 4)) { s with heap := hh }) :
    wpAny (model prog w) A (call (.type "zip") [v1, v2] [(Str.ofString "strict", .bool true)]) Q E s := by
  refine callType_newKw F.called_zip (by decide) (typeCall_zs _ _ _) (newCall_zs _ _ _) (fun obj => init_zs obj _ _ _) F.entry_zip_new (meets_zs B1 B2) ⟨⟨h1, h2⟩, ?_⟩
  have z1 : (s.heap.push o1).objs.size = s.heap.objs.size + 1 := Heap.size_push ..
  have z2 : ((s.heap.push o1).push o2).objs.size = s.heap.objs.size + 2 := (Heap.size_push ..).trans (by rw [z1])
  have z3 : (hpT s.heap o1 o2).objs.size = s.heap.objs.size + 3 := (Heap.size_push ..).trans (by rw [z2])
  have z4 : (hpO s.heap o1 o2).objs.size = s.heap.objs.size + 4 := (Heap.size_push ..).trans (by rw [z3])
  have z5 : (hpZ s.heap o1 o2).objs.size = s.heap.objs.size + 5 := (Heap.size_push ..).trans (by rw [z4])
  have pu : ∀ {h : Heap} {o : Obj} {c : Addr} {x : Obj}, h.get? c = some x → (h.push o).get? c = some x := fun e => Heap.get?_push_of_some _ e
  have gZ : IsZb true (hpZ s.heap o1 o2) (hpO s.heap o1 o2).objs.size ((s.heap.push o1).push o2).objs.size (hpT s.heap o1 o2).objs.size .none := Heap.get?_push_size _ rfl
  have gO : IsTupOf2 (hpZ s.heap o1 o2) (hpT s.heap o1 o2).objs.size .none .none := pu (Heap.get?_push_size _ rfl)
  have gT : IsTupOf2 (hpZ s.heap o1 o2) ((s.heap.push o1).push o2).objs.size (.ref s.heap.objs.size) (.ref (s.heap.push o1).objs.size) := pu (pu (Heap.get?_push_size _ rfl))
  have g1 : (hpZ s.heap o1 o2).get? s.heap.objs.size = some o1 := pu (pu (pu (pu (Heap.get?_push_size _ B1.free))))
  have g2 : (hpZ s.heap o1 o2).get? (s.heap.push o1).objs.size = some o2 := pu (pu (pu (Heap.get?_push_size _ B2.free)))
  rw [z4, z3, z2] at gZ
  rw [z3] at gO
  rw [z2, z1] at gT
  rw [z1] at g2
  show _ ∧ _
  rw [z4]
  exact ⟨⟨_, gZ, rfl⟩, h _ gZ gT gO g1 g2 z5 fun c o e => pu (pu (pu (pu (pu e))))⟩
end
/-- a list (false) or a tuple (true) -/
def SqB (t : Bool) (K : PySem.W.Frag) (H : Hp) (a : Addr) (xs : List V) : Prop := bif t then SqT K H a xs else SqL K H a xs
def ItB (t : Bool) (h : Heap) (it a : Addr) (i : Nat) : Prop := bif t then h.IsTupleIter it a i else h.IsListIter it a i
def IsB (t : Bool) (h : Heap) (a : Addr) (its : Array Value) : Prop := bif t then h.IsTuple a its else h.IsList a its
theorem ItB.at_ {t : Bool} {h h' : Heap} {it a : Addr} {i : Nat} (x : ItB t h it a i) (k : ∀ o, h.get? it = some o → h'.get? it = some o) : ItB t h' it a i := by
  cases t
  · exact Heap.IsListIter.at x k
  · exact Heap.IsTupleIter.at x k
theorem ItB.obj {t : Bool} {h : Heap} {it a : Addr} {i : Nat} (x : ItB t h it a i) : ∃ o, h.get? it = some o ∧ ∀ v, o.data ≠ .cell v := by
  cases t
  all_goals
    obtain ⟨o, e, _, d⟩ := x
    exact ⟨o, e, fun v q => by rw [d] at q; cases q⟩
theorem drawsB {prog : Program} {w : World} {A : Around} (t : Bool) (hh : A.handled = none) (it a : Addr) (hne : a ≠ it) (its : Array Value) : Draws prog w A it [it, a] its.size (fun i v => its[i]? = some v) (fun i h => ItB t h it a i ∧ IsB t h a its) := by
  cases t
  · exact Draws.list hh it a hne its
  · exact Draws.tuple hh it a hne its
theorem beginsB (t : Bool) (a : Addr) (its : Array Value) : ∃ o, Begins (.ref a) o (fun h => IsB t h a its) ∧ ∀ (h : Heap) (N : Addr), h.get? N = some o → ItB t h N a 0 := by
  cases t
  · exact ⟨_, begins_list a its, fun h N e => ⟨_, e, rfl, rfl⟩⟩
  · exact ⟨_, begins_tuple a its, fun h N e => ⟨_, e, rfl, rfl⟩⟩
theorem seqB {X : Cx} {pins : List (Addr × Obj)} {σ : L2.St} {H : Hp} {s : Shared} {t : Bool} {a : Addr} {xs : List V} (I : Inv X pins σ H s) (q : SqB t X.K H a xs) : ∃ its, Vals xs its ∧ IsB t s.heap a its.toArray ∧ a < s.heap.objs.size := by
  cases t
  · obtain ⟨its, rv, p, hz⟩ := I.list (show SqL X.K H a xs from q)
    exact ⟨its, rv, p.isList, p.lt⟩
  · obtain ⟨its, rv, p, hz⟩ := I.tuple (show SqT X.K H a xs from q)
    exact ⟨its, rv, p, by obtain ⟨o, ho, _⟩ := id p; exact Heap.lt_size ho⟩
theorem injB {X : Cx} {pins : List (Addr × Obj)} {σ : L2.St} {H : Hp} {s : Shared} {t : Bool} {a : Addr} {xs ys : List V} (I : Inv X pins σ H s) (q : SqB t X.K H a xs) (r : SqB t X.K H a ys) : xs = ys := by
  cases t
  · exact I.list_inj q r
  · exact I.tuple_inj q r
/-- the items of both, in new pairs; s: told to be of one length -/
def Itz2 (K : PySem.W.Frag) (b t1 t2 : Bool) (a c : Addr) : It :=
  ⟨fun i H => ∃ (xs ys : List V) (x y : V), SqB t1 K H a xs ∧ SqB t2 K H c ys ∧ xs[i]? = some x ∧ ys[i]? = some y,
    fun i H v H' => ∃ T o x y, v = .ref T ∧ H T = none ∧ H' = upd H T (.frz o (.tup [x, y])) ∧ TupO o ∧ (∀ xs, SqB t1 K H a xs → xs[i]? = some x) ∧ ∀ ys, SqB t2 K H c ys → ys[i]? = some y,
    fun i H => ∃ xs ys : List V, SqB t1 K H a xs ∧ SqB t2 K H c ys ∧ i ≤ xs.length ∧ i ≤ ys.length ∧ (bif b then i = xs.length ∧ i = ys.length else i = xs.length ∨ i = ys.length)⟩
theorem sepB {N a c : Nat} (h1 : a < N) (h2 : c < N) : ZipSep2 (N + 4) (N + 2) (N + 3) N (N + 1) [N, a] [N + 1, c] :=
  zip_sep2 (fp1 := [a]) (fp2 := [c]) (by simpa using h1) (by simpa using h2)
theorem turn_z {P : Program} {w : World} {K : PySem.W.Frag} {elts : List Expr} {kk : Nat} {tpos : Pos} {b t1 t2 : Bool} {a c z TI TO i1 i2 : Addr} (S : ZipSep2 z TI TO i1 i2 [i1, a] [i2, c]) (n1 : a ≠ i1) (n2 : c ≠ i2) :
    Turn P w K (.Tuple elts kk tpos) (Itz2 K b t1 t2 a c) [z, TI, TO, i1, i2] z (fun i h => IsZb b h z TI TO .none ∧ IsTupOf2 h TI (.ref i1) (.ref i2) ∧ (∃ x y, IsTupOf2 h TO x y) ∧ ItB t1 h i1 a i ∧ ItB t2 h i2 c i) where
  mem := by simp
  obj := fun i h st e he => by
    obtain ⟨hz, hTI, ⟨x, y, hTO⟩, p1, p2⟩ := st
    have e' : e = z ∨ e = TI ∨ e = TO ∨ e = i1 ∨ e = i2 := by simpa using he
    rcases e' with q | q | q | q | q <;> subst q
    · exact ⟨_, hz, fun v q => nomatch q⟩
    · exact ⟨_, hTI, fun v q => nomatch q⟩
    · exact ⟨_, hTO, fun v q => nomatch q⟩
    · exact p1.obj
    · exact p2.obj
  keep := fun i h h' st k => by
    obtain ⟨hz, hTI, ⟨x, y, hTO⟩, p1, p2⟩ := st
    exact ⟨k z (by simp) _ hz, k TI (by simp) _ hTI, ⟨x, y, k TO (by simp) _ hTO⟩, p1.at_ fun o q => k i1 (by simp) o q, p2.at_ fun o q => k i2 (by simp) o q⟩
  item := by
    intro X hP hw hK hc i pins s σ H E I hf st hg
    subst hP hw hK
    obtain ⟨hz, hTI, ⟨x0, y0, hTO⟩, p1, p2⟩ := st
    obtain ⟨xs, ys, x, y, hqx, hqy, hx, hy⟩ := hg
    obtain ⟨its, rv, b1, la⟩ := seqB I hqx
    obtain ⟨its2, rv2, b2, lc⟩ := seqB I hqy
    obtain ⟨u, hu, ru⟩ := rv.get hx
    obtain ⟨u2, hu2, ru2⟩ := rv2.get hy
    have hzl : z < s.heap.objs.size := Heap.lt_size hz
    have D1 := drawsB (prog := X.prog) (w := X.w) (A := X.A.in1) t1 (by exact I.ok.hd hc) i1 a n1 its.toArray
    have D2 := drawsB (prog := X.prog) (w := X.w) (A := X.A.in1) t2 (by exact I.ok.hd hc) i2 c n2 its2.toArray
    have l1 : i < its.toArray.size := by rw [List.size_toArray]; exact (List.getElem?_eq_some_iff.mp hu).1
    have l2 : i < its2.toArray.size := by rw [List.size_toArray]; exact (List.getElem?_eq_some_iff.mp hu2).1
    have fin : ∀ v v2 hh tk, its.toArray[i]? = some v → its2.toArray[i]? = some v2 → IsZb b hh z TI TO (rawInt s.heap.objs.size) → IsTupOf2 hh TO v v2 → (ItB t1 hh i1 a (i + 1) ∧ IsB t1 hh a its.toArray) → (ItB t2 hh i2 c (i + 1) ∧ IsB t2 hh c its2.toArray) → IsTupOf2 hh s.heap.objs.size v v2 → hh.objs.size = s.heap.objs.size + 1 →
        (∀ c o, c ≠ z → c ≠ TO → c ≠ i1 → c ≠ i2 → s.heap.get? c = some o → hh.get? c = some o) → ∃ u, some (Value.ref s.heap.objs.size) = some u ∧ wpAny (model X.prog X.w) X.A (letOwnedTupleGo (.Tuple elts kk tpos) (.ref z) u) (fun _ s2 => ∃ x H', Inv X pins σ H' s2 ∧ RelV x u ∧ (Itz2 X.K b t1 t2 a c).yld i H x H' ∧ (fun i h => IsZb b h z TI TO .none ∧ IsTupOf2 h TI (.ref i1) (.ref i2) ∧ (∃ x y, IsTupOf2 h TO x y) ∧ ItB t1 h i1 a i ∧ ItB t2 h i2 c i) (i + 1) s2.heap ∧ ∀ b ∈ [z, TI, TO, i1, i2], H' b = none) E { s with heap := hh, toks := tk } := by
      intro v v2 hh tk ev ev2 zh th q1 q2 nh sz kh
      have ev : v = u := by
        have q : its.toArray[i]? = some u := by simpa using hu
        rw [q] at ev; cases ev; rfl
      have ev2 : v2 = u2 := by
        have q : its2.toArray[i]? = some u2 := by simpa using hu2
        rw [q] at ev2; cases ev2; rfl
      subst ev ev2
      refine ⟨_, rfl, go_zb (s := { s with heap := hh, toks := tk }) zh fun h2 z2 sb => ?_⟩
      have n2 : IsTupOf2 h2 s.heap.objs.size v v2 := (sb.2 _ (Nat.ne_of_gt hzl)).trans nh
      let oo : Obj := { cls := .type "tuple", data := .seq #[v, v2] }
      have new : ObjOk X.prog X.w (upd H s.heap.objs.size (.frz oo (.tup [x, y]))) h2 s.heap.objs.size (.frz oo (.tup [x, y])) :=
        ⟨n2, by show 2 ≤ sizeLine; decide, [v, v2], .cons ru (.cons ru2 .nil), ⟨_, n2, rfl, _, rfl⟩⟩
      have I1 : Inv X pins σ (upd H s.heap.objs.size (.frz oo (.tup [x, y]))) { s with heap := h2, toks := tk } :=
        I.turnedNew (ch := [z, TI, TO, i1, i2]) (fun b ob hb q => (sb.2 b (fun z => hb (by simp [z]))).trans (kh b ob (fun z => hb (by simp [z])) (fun z => hb (by simp [z])) (fun z => hb (by simp [z])) (fun z => hb (by simp [z])) q)) hf (Nat.le_refl _) new
      refine ⟨.ref s.heap.objs.size, _, I1, rfl, ⟨_, oo, x, y, rfl, I.hok.fresh (Nat.le_refl _), rfl, TupO.mk, fun l hl => by rw [injB I hl hqx]; exact hx, fun l hl => by rw [injB I hl hqy]; exact hy⟩, ⟨z2, ?_, ⟨v, v2, ?_⟩, ?_, ?_⟩, fun e he => ?_⟩
      · exact (sb.2 _ S.TIz).trans (kh _ _ S.TIz S.TITO S.TIi1 S.TIi2 hTI)
      · exact (sb.2 _ S.TOz).trans th
      · exact q1.1.at_ fun o q => (sb.2 _ S.zi1.symm).trans q
      · exact q2.1.at_ fun o q => (sb.2 _ S.zi2.symm).trans q
      · have hlt : e < s.heap.objs.size := by
          have e' : e = z ∨ e = TI ∨ e = TO ∨ e = i1 ∨ e = i2 := by simpa using he
          rcases e' with q | q | q | q | q <;> subst q
          · exact hzl
          · exact Heap.lt_size hTI
          · exact Heap.lt_size hTO
          · obtain ⟨_, q, _⟩ := p1.obj; exact Heap.lt_size q
          · obtain ⟨_, q, _⟩ := p2.obj; exact Heap.lt_size q
        rw [upd_ne (Nat.ne_of_lt hlt)]
        exact (hf e he).1
    cases b
    · exact wpAny_pyNext_zipD2_item S D1 D2 hz hTI hTO ⟨p1, b1⟩ ⟨p2, b2⟩ l1 l2 fun v v2 hh tk c1 c2 c3 c4 c5 c6 c7 c8 c9 => fin v v2 hh tk c1 c2 c3 c4 c5 c6 c7 c8 c9
    · exact next_zs_item S D1 D2 hz hTI hTO ⟨p1, b1⟩ ⟨p2, b2⟩ l1 l2 fun v v2 hh tk c1 c2 c3 c4 c5 c6 c7 c8 c9 => fin v v2 hh tk c1 c2 c3 c4 c5 c6 c7 c8 c9
  done := by
    intro X hP hw hK hc i pins s σ H E I hf st hg
    subst hP hw hK
    obtain ⟨hz, hTI, ⟨x0, y0, hTO⟩, p1, p2⟩ := st
    obtain ⟨xs, ys, hqx, hqy, le1, le2, hend⟩ := hg
    obtain ⟨its, rv, b1, la⟩ := seqB I hqx
    obtain ⟨its2, rv2, b2, lc⟩ := seqB I hqy
    have e1 : its.toArray.size = xs.length := by rw [List.size_toArray, rv.length]
    have e2 : its2.toArray.size = ys.length := by rw [List.size_toArray, rv2.length]
    have D1 := drawsB (prog := X.prog) (w := X.w) (A := X.A.in1) t1 (by exact I.ok.hd hc) i1 a n1 its.toArray
    have D2 := drawsB (prog := X.prog) (w := X.w) (A := X.A.in1) t2 (by exact I.ok.hd hc) i2 c n2 its2.toArray
    rw [e1] at D1
    rw [e2] at D2
    have fin : ∀ hh tk, (∀ c o, c ≠ z → c ≠ TO → c ≠ i1 → c ≠ i2 → s.heap.get? c = some o → hh.get? c = some o) → (none : Option Value) = none ∧ Inv X pins σ H { s with heap := hh, toks := tk } := fun hh tk k =>
      ⟨rfl, I.turnedL (ch := [z, TI, TO, i1, i2]) (fun e o hb q => k e o (fun q' => hb (by simp [q'])) (fun q' => hb (by simp [q'])) (fun q' => hb (by simp [q'])) (fun q' => hb (by simp [q'])) q) hf⟩
    cases b
    · exact wpAny_pyNext_zipD2_end S D1 D2 hz hTI hTO ⟨p1, b1⟩ ⟨p2, b2⟩ le1 le2 hend fin
    · obtain ⟨j1, j2⟩ := hend
      rw [← j1] at D1
      rw [← j2] at D2
      exact next_zs_end (by exact I.ok.hd hc) S D1 D2 hz hTI hTO ⟨p1, b1⟩ ⟨p2, b2⟩ fin
  self := fun A i s Q E st h => iter_zb st.1 h
end Rx
/-! Rx, more: for .. in zip(..), told to be of one length or not. -/
namespace Rx
open PySem PySem.Spec L2 PyProof.Rows
section
variable {M : Model} {A : Around} {E : Value → Shared → Prop} {s : Shared} {env : PySem.Env}
theorem callWith_tyKw {pos : Pos} {T : String} {e : Expr} {rest : List Expr} {kws : List Keyword} {Q : Value → Shared → Prop}
    (h : wpAny M A (spliced (backTo pos (starEach (e :: rest) env))) (fun vs s₁ => wpAny M A (evalAll ((backToKw pos (keywordEach kws env)).map (·.2)))
      (fun kvs s₂ => wpAny M A (call (.type T) vs (((backToKw pos (keywordEach kws env)).filterMap (·.1)).zip kvs)) Q E s₂) E s₁) E s)
    (he : backTo pos (starEach (e :: rest) env) = (false, eval e env) :: backTo pos (starEach rest env)) (hplain : (backTo pos (starEach (e :: rest) env)).any (·.1) = false)
    (hall : (backToKw pos (keywordEach kws env)).all (·.1.isSome) = true := by rfl) (hkw : (backToKw pos (keywordEach kws env)).any (·.1.isNone) = false := by rfl) :
    wpAny M A (callWith pos (.type T) [] (backTo pos (starEach (e :: rest) env)) (backToKw pos (keywordEach kws env))) Q E s := by
  have key : wpAny M A (evalArgs (.type T) true (backTo pos (starEach (e :: rest) env)) (backToKw pos (keywordEach kws env))) (fun a s₁ => wpAny M A (call (.type T) a.pos a.kw) Q E s₁) E s := by
    rw [he] at h ⊢
    exact evalArgs_kwB hall h
  unfold callWith
  refine wpAny_bind (wpAny_holding (wpAny_mono key (fun a s₁ q => wpAny_bind (wpAny_standAt ?_)) fun _ _ x => x))
  simp only [hplain, hkw, Bool.or_false]
  refine wpAny_bind (wpAny_pure ?_)
  exact wpAny_bind (wpAny_mono q (fun r s₂ hr => wpAny_bind (wpAny_holding (wpAny_point (wpAny_pure hr)))) fun _ _ x => x)
end
section
variable {Φ : Funs} {c : Cfg} {X : Cx} {K : PySem.W.Frag} {σ : L2.St}
def iZip (K : PySem.W.Frag) (st : Bool) (ta : TA) : TI := fun σ H R => ta σ H fun vs H1 => ∃ t1 t2 a b xs ys, vs = [.ref a, .ref b] ∧ SqB t1 K H1 a xs ∧ SqB t2 K H1 b ys ∧ R (Itz2 K st t1 t2 a b) H1
theorem zip_is {pins : List (Addr × Obj)} {σ : L2.St} {H : Hp} {s : Shared} {st t1 t2 : Bool} {a b : Addr} {xs ys : List V} {R : It → Hp → Prop} {elts : List Expr} {kk : Nat} {tpos : Pos} (I : Inv X pins σ H s) (qa : SqB t1 X.K H a xs) (qb : SqB t2 X.K H b ys) (q : R (Itz2 X.K st t1 t2 a b) H)
    (kw : List (Str × Value)) (hk : kw = bif st then [(Str.ofString "strict", .bool true)] else []) : wpAny (model X.prog X.w) X.A (call (.type "zip") [.ref a, .ref b] kw) (fun v s1 => wpAny (model X.prog X.w) X.A (pyIter v) (PIE X pins σ (.Tuple elts kk tpos) R) X.xe s1) X.xe s := by
  obtain ⟨its, rv, b1, la⟩ := seqB I qa
  obtain ⟨its2, rv2, b2, lb⟩ := seqB I qb
  obtain ⟨o1, B1, j1⟩ := beginsB t1 a its.toArray
  obtain ⟨o2, B2, j2⟩ := beginsB t2 b its2.toArray
  have S := sepB la lb
  have fin : ∀ hh, IsZb st hh (s.heap.objs.size + 4) (s.heap.objs.size + 2) (s.heap.objs.size + 3) .none → IsTupOf2 hh (s.heap.objs.size + 2) (.ref s.heap.objs.size) (.ref (s.heap.objs.size + 1)) →
      IsTupOf2 hh (s.heap.objs.size + 3) .none .none → hh.get? s.heap.objs.size = some o1 → hh.get? (s.heap.objs.size + 1) = some o2 → hh.objs.size = s.heap.objs.size + 5 →
      (∀ c o, s.heap.get? c = some o → hh.get? c = some o) → wpAny (model X.prog X.w) X.A (pyIter (.ref (s.heap.objs.size + 4))) (PIE X pins σ (.Tuple elts kk tpos) R) X.xe { s with heap := hh } := by
    intro hh hz hTI hTO g1 g2 hsz hk
    have I2 : Inv X pins σ H { s with heap := hh } := I.kept (t' := s.toks) hk
    refine iter_zb (s := { s with heap := hh }) hz ⟨s.heap.objs.size + 4, [s.heap.objs.size + 4, s.heap.objs.size + 2, s.heap.objs.size + 3, s.heap.objs.size, s.heap.objs.size + 1], _, _, H, rfl, I2, turn_z (b := st) (t1 := t1) (t2 := t2) S (Nat.ne_of_lt la) (Nat.ne_of_lt (Nat.lt_succ_of_lt lb)), ⟨hz, hTI, ⟨_, _, hTO⟩, j1 _ _ g1, j2 _ _ g2⟩, fun e he => ?_, q⟩
    have e' : e = s.heap.objs.size + 4 ∨ e = s.heap.objs.size + 2 ∨ e = s.heap.objs.size + 3 ∨ e = s.heap.objs.size ∨ e = s.heap.objs.size + 1 := by simpa using he
    have hle : s.heap.objs.size ≤ e := by
      rcases e' with z | z | z | z | z
      · rw [z]; exact Nat.le_add_right _ _
      · rw [z]; exact Nat.le_add_right _ _
      · rw [z]; exact Nat.le_add_right _ _
      · rw [z]; exact Nat.le_refl _
      · rw [z]; exact Nat.le_add_right _ _
    exact I.fpOk hle (I.hok.fresh hle)
  cases st
  · subst hk
    exact zip_begins2 B1 B2 b1 b2 fin
  · subst hk
    exact zs_begins B1 B2 b1 b2 fin
theorem pi_zip0 {e e2 : Expr} {ta : TA} {p pos tpos : Pos} {elts : List Expr} {kk : Nat} (hg : Gl X "zip") (hm : X.mg "zip" = none) (ha : PA X [e, e2] ta)
    (hs : starEach [e, e2] X.env = (false, eval e X.env) :: starEach [e2] X.env) (hpl : (backTo pos (starEach [e2] X.env)).any (·.1) = false) :
    PI X (.Tuple elts kk tpos) (.Call (.Name "zip" p) [e, e2] [] pos) (iZip X.K false ta) := by
  refine ⟨fun pins s σ H R I h => ?_⟩
  refine Call_ (ld_blt I hg hm PyProof.Rows.boot_zip (PyProof.Rows.callWith_type1 (thn (ha.run pos pins s σ H _ I h) fun us s1 ⟨vs, H1, I1, r1, q1⟩ => ?_) hs hpl))
  obtain ⟨t1, t2, a, b, xs, ys, ex, qa, qb, q⟩ := q1
  subst ex
  obtain ⟨u, u2, rfl, r, r'⟩ := vals2 r1
  cases r
  cases r'
  exact zip_is I1 qa qb q _ rfl
theorem pi_zipS {e e2 : Expr} {ta : TA} {p pos tpos p2 p3 : Pos} {elts : List Expr} {kk k2 : Nat} (hg : Gl X "zip") (hm : X.mg "zip" = none) (ha : PA X [e, e2] ta)
    (hs : backTo pos (starEach [e, e2] X.env) = (false, eval e X.env) :: backTo pos (starEach [e2] X.env)) (hpl : (backTo pos (starEach [e, e2] X.env)).any (·.1) = false) :
    PI X (.Tuple elts kk tpos) (.Call (.Name "zip" p) [e, e2] [⟨some (Str.ofString "strict"), .Constant (.bool true) k2 p2, p3⟩] pos) (iZip X.K true ta) := by
  refine ⟨fun pins s σ H R I h => ?_⟩
  refine wpAny_Call_Name_kw (ld_blt I hg hm PyProof.Rows.boot_zip (callWith_tyKw (thn (ha.run pos pins s σ H _ I h) fun us s1 ⟨vs, H1, I1, r1, q1⟩ => ?_) hs hpl))
  obtain ⟨t1, t2, a, b, xs, ys, ex, qa, qb, q⟩ := q1
  subst ex
  obtain ⟨u, u2, rfl, r, r'⟩ := vals2 r1
  cases r
  cases r'
  refine kws_cons ?_
  refine thn ((pe_bl (b := true)).run pins s1 σ H1 _ I1 (show L2.tC (.bl true) σ H1 (fun v H2 => v = .bl true ∧ H2 = H1) from ⟨rfl, rfl⟩)) fun w s2 ⟨v, H2, I2, r2, ev, e2⟩ => ?_
  subst ev e2
  cases r2
  exact kws_nil (zip_is I2 qa qb q _ rfl)
theorem zipw_at {ds es : List PyData} {i : Nat} {d : PyData} (h : (List.zipWith (fun x y => PyData.tuple [x, y]) ds es)[i]? = some d) : ∃ x y, ds[i]? = some x ∧ es[i]? = some y ∧ d = .tuple [x, y] := by
  rw [List.getElem?_zipWith] at h
  cases hx : ds[i]? with
  | none => rw [hx] at h; cases h
  | some x =>
    cases hy : es[i]? with
    | none => rw [hx, hy] at h; cases h
    | some y => rw [hx, hy] at h; cases h; exact ⟨x, y, rfl, rfl, rfl⟩
theorem SqB.mono {t : Bool} {F H : Hp} {a : Addr} {xs : List V} (s : Sub F H) (q : SqB t K F a xs) : SqB t K H a xs := by
  cases t
  · exact SqL.mono s q
  · exact SqT.mono s q
theorem wk_zip {F : Hp} {st t1 t2 : Bool} {a b : Addr} {ds es : List PyData} {vs us : List V} (ha : SqB t1 K F a vs) (hb : SqB t2 K F b us) (r : DtAll F ds vs) (r2 : DtAll F es us) (hl : st = true → ds.length = es.length) : Wk K F (Itz2 K st t1 t2 a b) (List.zipWith (fun x y => .tuple [x, y]) ds es) where
  goes := fun i H hi s => by
    rw [List.length_zipWith, r.len, r2.len] at hi
    exact ⟨vs, us, vs[i]'(by omega), us[i]'(by omega), SqB.mono s ha, SqB.mono s hb, List.getElem?_eq_getElem _, List.getElem?_eq_getElem _⟩
  stops := fun H s => by
    rw [List.length_zipWith]
    refine ⟨vs, us, SqB.mono s ha, SqB.mono s hb, by rw [← r.len]; exact Nat.min_le_left .., by rw [← r2.len]; exact Nat.min_le_right .., ?_⟩
    rw [← r.len, ← r2.len]
    cases st
    · show _ ∨ _
      omega
    · have := hl rfl
      show _ ∧ _
      omega
  yields := fun i H x H' d e s y => by
    obtain ⟨dx, dy, e1, e2, rfl⟩ := zipw_at e
    obtain ⟨v, h1, h2⟩ := r.at_ e1
    obtain ⟨v2, h3, h4⟩ := r2.at_ e2
    obtain ⟨T, oo, x1, y1, z1, z2, z3, wo, z4, z5⟩ := y
    have z4 := z4 vs (SqB.mono s ha)
    have z5 := z5 us (SqB.mono s hb)
    rw [h1] at z4; cases z4
    rw [h3] at z5; cases z5
    exact .inr ⟨T, oo, _, _, rfl, z1, z2, z3, wo, .cons h2 (.cons h4 .nil)⟩
theorem seq_is {F G H : Hp} {d : PyData} {v : V} {ds : List PyData} (r : Dt F d v) (e : seqOf d = some ds) : ∃ t a vs, v = .ref a ∧ SqB t K F a vs ∧ DtAll F ds vs := by
  cases r with
  | @lst a _ vs ha r => cases e; exact ⟨false, a, vs, rfl, SqL.of ha, r⟩
  | @tup a _ vs ha r => cases e; exact ⟨true, a, vs, rfl, ha.sq, r⟩
  | _ => cases e
theorem zip_go {st : Bool} {a b : IE} {H : Hp} {R : It → Hp → Prop} (q : tI K (evI Φ (.zip st a b)) σ H R) : iZip K st (tCons (tE K (evE Φ a)) (tCons (tE K (evE Φ b)) tNil)) σ H R := by
  obtain ⟨F, L, ms, ds, ms', RR, e, k⟩ := q
  unfold evI at e
  obtain ⟨⟨v, ms1⟩, e1, e2⟩ := bindSome e
  obtain ⟨⟨u, ms2⟩, e3, e4⟩ := bindSome e2
  obtain ⟨es, e5, e6⟩ := bindSome e4
  obtain ⟨zs, e7, e8⟩ := mapSome e6
  cases e8
  obtain ⟨d1, d2, f1, f2, rfl⟩ := frz2 e5
  unfold zipOf at e7
  obtain ⟨xs, e9, e10⟩ := bindSome e7
  obtain ⟨ys, e11, e12⟩ := bindSome e10
  split at e12
  · cases e12
  rename_i hne
  cases e12
  refine tE.go RR e1 fun x F1 H1 L1 M g => tE.go g.rel e3 fun y F2 H2 L2 M2 g2 => ?_
  obtain ⟨F3, dt, R3, E3⟩ := (g.cons g2).frz e5
  cases dt with
  | cons da dt =>
    cases dt with
    | cons db _ =>
      obtain ⟨t1, p1, vs, rfl, q1, r1⟩ := seq_is (K := K) (G := F3) (H := H2) da e9
      obtain ⟨t2, p2, us, rfl, q2, r2⟩ := seq_is (K := K) (G := F3) (H := H2) db e11
      exact ⟨t1, t2, p1, p2, vs, us, rfl, SqB.mono R3.sub q1, SqB.mono R3.sub q2, k _ _ _ _ (wk_zip q1 q2 r1 r2 fun z => Decidable.byContradiction fun n => hne ⟨z, n⟩) R3 E3⟩
theorem pi_zip0E (G : Good Φ c X) {x : Str} {a b : IE} {e e' : Expr} {p pos tpos : Pos} {elts : List Expr} {kk : Nat} (hx : x = "zip") (hg : globB c x = true) (ha : PE X e (tE X.K (evE Φ a))) (hb : PE X e' (tE X.K (evE Φ b))) (hp : plainE e = true) (hp' : plainE e' = true) :
    PI X (.Tuple elts kk tpos) (.Call (.Name x p) [e, e'] [] pos) (tI X.K (evI Φ (.zip false a b))) := by
  subst hx
  obtain ⟨g1, g2, g3⟩ := gl_of G hg
  exact (pi_zip0 g1 (G.bl _ (by decide)) (pa2 ha hb hp hp') (star_cons hp) (by rw [star_cons hp']; rfl)).of fun σ H R q => zip_go q
theorem pi_zipSE (G : Good Φ c X) {x : Str} {a b : IE} {e e' : Expr} {p pos tpos p2 p3 : Pos} {elts : List Expr} {kk k2 : Nat} (hx : x = "zip") (hg : globB c x = true) (ha : PE X e (tE X.K (evE Φ a))) (hb : PE X e' (tE X.K (evE Φ b))) (hp : plainE e = true) (hp' : plainE e' = true) :
    PI X (.Tuple elts kk tpos) (.Call (.Name x p) [e, e'] [⟨some (Str.ofString "strict"), .Constant (.bool true) k2 p2, p3⟩] pos) (tI X.K (evI Φ (.zip true a b))) := by
  subst hx
  obtain ⟨g1, g2, g3⟩ := gl_of G hg
  exact (pi_zipS g1 (G.bl _ (by decide)) (pa2 ha hb hp hp') (by rw [star_cons hp]; rfl) (by rw [star_cons hp, star_cons hp']; rfl)).of fun σ H R q => zip_go q
end
end Rx
/-! Rx, more: x[k][l], read and stored into, x a list of lists of its own. -/
namespace Rx
open PySem PySem.Spec L2 PyProof.Rows
section
variable {Φ : Funs} {c : Cfg} {X : Cx} {K : PySem.W.Frag} {σ τ : L2.St} {prot : List Nat}
theorem pg_sub2E (G : Good Φ c X) {i : Nat} {x : Str} {p p2 pos : Pos} {k l : IE} {ke le : Expr} (h : nameB c i x = true) (hk : PE X ke (tE X.K (evE Φ k))) (hs : noSlice ke = true) (hl : PE X le (tE X.K (evE Φ l))) (hs2 : noSlice le = true) :
    PG X (.Subscript (.Subscript (.Name x p) ke p2) le pos) (tG X.K Φ prot (.sub2 i k l)) := by
  have hu : X.A.units + 1 < cLine := by have := G.un; omega
  refine (pg_sub (pe_ix (IxR.or ix_list ix_tup) (pe_name G h) hk (plain_ix hs)) hl (set_any hu) (by intro v; cases le <;> first | rfl | cases hs2)).of fun v σ H Q q => ?_
  obtain ⟨F, L, ms, m, M, ms', R, r, nd, dis, ee, kk⟩ := q
  unfold evT at ee
  obtain ⟨_, e0, ee⟩ := bindSome ee
  obtain ⟨⟨q, ms1⟩, e1, ee⟩ := bindSome ee
  obtain ⟨kd, e2, ee⟩ := bindSome ee
  obtain ⟨o, e3, ee⟩ := bindSome ee
  obtain ⟨⟨j, cm⟩, e4, ee⟩ := bindSome ee
  obtain ⟨_, e5, ee⟩ := bindSome ee
  obtain ⟨⟨lv, ms2⟩, e6, ee⟩ := bindSome ee
  obtain ⟨ld, e7, ee⟩ := bindSome ee
  split at ee
  case h_2 => cases ee
  rename_i hn
  obtain ⟨c', e8, ee⟩ := mapSome ee
  subst ee
  cases cm with
  | ls ds =>
    cases m with
    | val d =>
      have e8 : ((idxOf ds.length ld).map fun j => MV.ls (ds.set j d)) = some c' := e8
      obtain ⟨t, e9, e10⟩ := mapSome e8
      subst e10
      cases r with
      | val r =>
        obtain ⟨_, ov0, _, hv0⟩ := there_ok e0 R
        refine ⟨ov0, hv0, tE.go R e1 fun kv F1 H1 L1 Mk g => ?_⟩
        obtain ⟨F2, dk, R2, E2⟩ := g.frz1 e2
        obtain ⟨ov, L3, Mo, hov, g3⟩ := Got.mov R2 e3
        rw [hv0] at hov; cases hov
        have own := g3.res.fst
        obtain ⟨a, ws, k1, k2, k3, k4, k5⟩ := kid_ok own g3.nd dk e4
        refine k1 H1 _ (fun _ _ => rfl) ?_
        refine tE.go g3.rel e6 fun y F4 H4 L4 M4 g4 => ?_
        obtain ⟨F5, dy, R5, E5⟩ := g4.frz1 e7
        obtain ⟨iy, rfl, hj⟩ := idx_of e9 dy
        obtain ⟨_, w2, w3⟩ := E5.beside own g3.dis
        have same : ∀ b ∈ Mo, H4 b = H1 b := fun b hb => by
          obtain ⟨ob, eb⟩ := own.there b hb
          rw [eb]
          exact E5.keep b ob eb (g3.dis b hb).2
        have atl : H4 a = some (.lst ws) := (same a k2).trans k3
        have rs : DtAll F5 (ds.set t d) (ws.set t v) := (k4.mono E5.fr).set ((r.mono E2.fr).mono E5.fr) t
        have own' := k5 (F' := F5) (H' := H4) E5.fr same rs
        have hl5 : a ∉ L4 := fun z => (w2 a k2).2 z
        have R6 : OwnS X.K F5 (upd H4 a (.lst (ws.set t v))) ms2 σ L4 := R5.own.keep (Sub.refl _) fun b hb => upd_ne fun z => hl5 (z ▸ hb)
        obtain ⟨L7, f1, f2, f3⟩ := R6.fill hn hv0 own'
        have hF : F5 a = none := (w2 a k2).1
        have R7 : Rel X.K F5 (upd H4 a (.lst (ws.set t v))) (ms2.set i (some (putKid o j (.ls (ds.set t d))))) σ L7 := ⟨f1, f3 R5.nd g3.nd fun b hb z => (w2 b hb).2 z, R5.sub.updR hF, fun b hb => ((f2 b).mp hb).elim (fun z => (w2 b z).1) (R5.dis b)⟩
        refine .inl ⟨a, ws, iy, t, rfl, rfl, atl, by rw [← k4.len]; exact hj, kk σ F5 _ L7 R7 ?_ (Keep.refl _ _)⟩
        rw [List.append_nil]
        have E6 : Ext F H L F5 H4 (L4 ++ Mo) := (E2.trans g3.ext).trans w3
        refine ⟨E6.fr, fun b ob eb nb => ?_, fun b ob eb nb z => ?_, E6.same⟩
        · have nl : b ≠ a := fun z => E6.off b ob eb nb (List.mem_append_right _ (by rw [z]; exact k2))
          rw [upd_ne nl]
          exact E6.keep b ob eb nb
        · exact E6.off b ob eb nb (((f2 b).mp z).elim (List.mem_append_right _) (List.mem_append_left _))
    | _ => exact nomatch (show none = some c' from e8)
  | _ => exact nomatch (show none = some _ from e5)
theorem pe_rd2E (G : Good Φ c X) {i : Nat} {x : Str} {p p2 pos : Pos} {k l : IE} {ke le : Expr} (h : nameB c i x = true) (hk : PE X ke (tE X.K (evE Φ k))) (hs : noSlice ke = true) (hl : PE X le (tE X.K (evE Φ l))) (hs2 : noSlice le = true) :
    PE X (.Subscript (.Subscript (.Name x p) ke p2) le pos) (tE X.K (evE Φ (.rd2 i k l))) := by
  refine (pe_ix (IxR.or ix_list ix_tup) (pe_ix (IxR.or ix_list ix_tup) (pe_name G h) hk (plain_ix hs)) hl (plain_ix hs2)).of fun σ H Q q => ?_
  obtain ⟨F, L, ms, m, ms', R, ee, kk⟩ := q
  unfold evE at ee
  obtain ⟨_, e0, ee⟩ := bindSome ee
  obtain ⟨⟨q, ms1⟩, e1, ee⟩ := bindSome ee
  obtain ⟨kd, e2, ee⟩ := bindSome ee
  obtain ⟨o, e3, ee⟩ := bindSome ee
  obtain ⟨⟨j, cm⟩, e4, ee⟩ := bindSome ee
  obtain ⟨_, e5, ee⟩ := bindSome ee
  obtain ⟨⟨lv, ms2⟩, e6, ee⟩ := bindSome ee
  obtain ⟨ld, e7, ee⟩ := bindSome ee
  split at ee
  case h_2 => cases ee
  rename_i hn
  obtain ⟨d, e8, ee⟩ := mapSome ee
  cases ee
  cases cm with
  | ls ds =>
    have e8 : ((idxOf ds.length ld).bind fun j => ds[j]?) = some d := e8
    obtain ⟨t, e9, e10⟩ := bindSome e8
    obtain ⟨_, ov0, _, hv0⟩ := there_ok e0 R
    refine ⟨ov0, hv0, tE.go R e1 fun kv F1 H1 L1 Mk g => ?_⟩
    obtain ⟨F2, dk, R2, E2⟩ := g.frz1 e2
    obtain ⟨ov, L3, Mo, hov, g3⟩ := Got.mov R2 e3
    rw [hv0] at hov; cases hov
    have own := g3.res.fst
    obtain ⟨a, ws, k1, k2, k3, k4, k5⟩ := kid_ok own g3.nd dk e4
    refine k1 H1 _ (fun _ _ => rfl) ?_
    refine tE.go g3.rel e6 fun y F4 H4 L4 M4 g4 => ?_
    obtain ⟨F5, dy, R5, E5⟩ := g4.frz1 e7
    obtain ⟨iy, rfl, hj⟩ := idx_of e9 dy
    obtain ⟨w1, w2, w3⟩ := E5.beside own g3.dis
    have same : ∀ b ∈ Mo, H4 b = H1 b := fun b hb => by
      obtain ⟨ob, eb⟩ := own.there b hb
      rw [eb]
      exact E5.keep b ob eb (g3.dis b hb).2
    have atl : H4 a = some (.lst ws) := (same a k2).trans k3
    obtain ⟨w, hw, dw⟩ := k4.at_ e10
    obtain ⟨L7, f1, f2, f3⟩ := R5.own.fill hn hv0 w1
    have R7 : Rel X.K F5 H4 (ms2.set i (some o)) σ L7 := ⟨f1, f3 R5.nd g3.nd fun b hb z => (w2 b hb).2 z, R5.sub, fun b hb => ((f2 b).mp hb).elim (fun z => (w2 b z).1) (R5.dis b)⟩
    have E6 : Ext F H L F5 H4 (L4 ++ Mo) := (E2.trans g3.ext).trans w3
    have E7 : Ext F H L F5 H4 L7 := E6.less fun b hb => ((f2 b).mp hb).elim (List.mem_append_right _) (List.mem_append_left _)
    refine .inl ⟨a, ws, iy, w, rfl, rfl, SqL.of atl, ?_, kk _ _ _ _ _ (Got.of R7 E7 (dw.mono E5.fr))⟩
    unfold atI
    rw [← k4.len, hj]
    exact hw
  | _ => exact nomatch (show none = some _ from e5)
end
end Rx
/-! Rx, more: min of a list. -/
namespace Rx
open PySem PySem.Spec L2 PyProof.Rows
open PySem.W (EachIs minD AllAlike)
theorem reads_all {h : Heap} : ∀ {us : List Value} {ds : List PyData}, EachIs (fun u d => ∃ as, Reads h u d as) us ds → ∃ as, ReadsAll h us ds as
  | _, _, .nil => ⟨[], .nil⟩
  | _, _, .cons ⟨_, r⟩ t => let ⟨_, q⟩ := reads_all t; ⟨_, .cons r q⟩
theorem each_at {α β : Type} {R : α → β → Prop} : ∀ {us : List α} {ds : List β} {i : Nat} {u : α}, EachIs R us ds → us[i]? = some u → ∃ d, ds[i]? = some d ∧ R u d
  | _, _, _, _, .nil, e => by simp at e
  | _, _, 0, _, .cons r _, e => by simp at e; subst e; exact ⟨_, rfl, r⟩
  | _, _, i + 1, _, .cons _ t, e => by
    obtain ⟨d, h1, h2⟩ := each_at (i := i) t (by simpa using e)
    exact ⟨d, by simpa using h1, h2⟩
theorem deep_all : ∀ {ds : List PyData}, deepOk ds = true → PyData.depthAll ds ≤ 64
  | [], _ => by simp [PyData.depthAll]
  | d :: ds, h => by
    unfold deepOk at h
    rw [List.all_cons, Bool.and_eq_true, decide_eq_true_eq] at h
    have ih := deep_all (ds := ds) h.2
    have h1 := h.1
    simp only [PyData.depthAll]
    omega
theorem not_none {ds : List PyData} (h : sortables ds = true) : ∀ d ∈ ds, d ≠ .none := fun d hd z => by
  subst z
  rcases sortable_of h with (h | h) | ⟨r, rfl, h9⟩
  · obtain ⟨_, _, e⟩ := h _ hd; cases e
  · exact (h _ hd).1 rfl
  · rcases List.mem_cons.mp hd with e | hd
    · cases e
    · obtain ⟨_, e⟩ := h9 _ hd; cases e
section
variable {Φ : Funs} {c : Cfg} {X : Cx} {K : PySem.W.Frag} {σ : L2.St}
def rMinD (K : PySem.W.Frag) : List V → Hp → VK → Prop := fun xs H Q => ∃ (a : Addr) (vs : List V) (F : Hp) (x : PyData) (ds : List PyData), xs = [V.ref a] ∧ SqL K H a vs ∧ Sub F H ∧ DtAll F (x :: ds) vs ∧ (alikes (x :: ds) && sortables (x :: ds) && deepOk (x :: ds)) = true ∧ ∀ v, Dt F (minD x ds) v → Q v H
theorem ok_min1 {K : PySem.W.Frag} : OpOk .min1 (rMinD K) := by
  intro F H ds vs d Q hs dt e k
  have e : s_min1 ds = some d := e
  unfold s_min1 at e
  split at e
  · split at e
    · cases e
      obtain ⟨v, rfl, r1⟩ := dt.oneV
      rename_i hc
      obtain ⟨a, vs, rfl, h1, q1⟩ := r1.lstOf hs
      exact ⟨a, vs, F, _, _, rfl, SqL.of h1, hs, q1, hc, fun v q => k _ _ (.old q fun z => by cases z)⟩
    · cases e
  · cases e
theorem call_minD (hc : X.calm = true) (hu : X.A.units + 70 < cLine) : CallR X (.builtin "min") (rMinD X.K) := by
  intro pins s σ H xs us Q I r h
  obtain ⟨a, vs, F, x, ds, rfl, hq, hs, dt, ok, q⟩ := h
  rw [Vals.ref1 r]
  simp only [Bool.and_eq_true] at ok
  obtain ⟨⟨k1, k2⟩, k3⟩ := ok
  have hal : PySem.W.AlikeAll (x :: ds) := ⟨fun d hd d' hd' => List.all_eq_true.mp (List.all_eq_true.mp k1 d hd) d' hd', not_none k2⟩
  have hdp := deep_all k3
  obtain ⟨its, rv, hl, hz⟩ := I.list hq
  have e := each_of dt rv
  have er : EachIs (fun v d => ∃ as, Reads s.heap v d as) its (x :: ds) := e.mono fun u d ⟨v, r, w⟩ => Dp.reads I d v u (Opd.dp hs (.fz w)) r
  obtain ⟨as, ra⟩ := reads_all er
  refine PySem.W.min_list_data (vs := its.toArray) (as := as) (I.ok.hd hc) hl.isList (by simpa using ra) hal (by omega) fun i v h' tk bs hv hr kp => ?_
  obtain ⟨d, e1, w, e2, e3⟩ := each_at e (by simpa using hv : its[i]? = some v)
  obtain ⟨as2, r2⟩ := Dp.reads I d w v (Opd.dp hs (.fz e3)) e2
  have ed : d = minD x ds := ((PySem.Reads.unique (PyProof.Rows.Reads.keeps kp r2)) _ _ hr).1
  subst ed
  exact ⟨w, H, I.kept (t' := tk) kp, e2, q w e3⟩
theorem pe_min1E (G : Good Φ c X) {a : IE} {x : Str} {e : Expr} {p pos : Pos} (h : x = "min") (hx : globB c x = true) (ha : PE X e (tO X.K Φ a)) (hp : plainE e = true) : PE X (.Call (.Name x p) [e] [] pos) (tE X.K (evE Φ (.op .min1 [a]))) := by
  subst h
  obtain ⟨g1, g2, g3⟩ := gl_of G hx
  have hu : X.A.units + 70 < cLine := by have := G.un; omega
  refine (pe_callB (call_minD G.calm hu) g1 (G.bl _ (by decide)) (by decide +kernel) (pa1 ha hp) g3 g2 (star_cons hp) rfl).of fun σ H Q q => ?_
  exact op_go ok_min1 q
end
end Rx
/-! Rx, more: {} and x.get(k, d). -/
namespace Rx
open PySem PySem.Spec L2 PyProof.Rows
section
variable {Φ : Funs} {c : Cfg} {X : Cx} {K : PySem.W.Frag} {σ : L2.St}
theorem pe_dnew {pos : Pos} : PE X (.Dict [] [] pos) (tE X.K (evE Φ (.odct [] []))) := by
  refine pe_dnewK.of fun σ H Q q => ?_
  have z := odct_go (K := X.K) (ks := []) (es := []) rfl q
  intro p hp
  obtain ⟨h1, kvs, h2, _, h3⟩ := z p hp
  cases kvs with
  | nil =>
    rw [upd_upd] at h3
    exact h3
  | cons _ _ => cases h2
theorem findK_off : ∀ {ks : List Key} {vs : List V} {q : Key}, findK ks q = none → valV (ks.zip vs) q = none
  | [], _, _, _ => rfl
  | x :: xs, [], _, _ => rfl
  | x :: xs, v :: vs, q, e => by
    unfold findK at e
    rw [List.zip_cons_cons]
    split at e
    · cases e
    · rename_i hq
      rw [valV_neg fun z => hq (decide_eq_true z)]
      refine findK_off ?_
      cases h : findK xs q with
      | none => rfl
      | some j => rw [h] at e; cases e
theorem get_ok {F H : Hp} {o : MV} {ov : V} {La : List Addr} {kd : PyData} {r : Option PyData} {kv : V} (w : Own K F H o ov La) (rk : Dt F kd kv) (e : getOf o kd = some r) :
    ∃ a vo, ov = .ref a ∧ DGet H a kv vo ∧ ∀ dd (z : V), Dt F dd z → Dt F (r.getD dd) (vo.getD z) := by
  cases w with
  | @dct a ks cs vs Lk ha hl rs =>
    have e : ((keyOf kd).bind fun q => match findK ks q with
      | none => some none
      | some j => (cs[j]?).bind fun c => match c with | .val d => some (some d) | _ => none) = some r := e
    obtain ⟨q, e1, e2⟩ := bindSome e
    cases kV_of e1 rk
    cases hf : findK ks q with
    | none =>
      rw [hf] at e2
      cases e2
      refine ⟨a, none, rfl, ?_, fun dd z h => h⟩
      rw [← findK_off (vs := vs) hf]
      exact DGet.k ha
    | some j =>
      rw [hf] at e2
      obtain ⟨cv, e5, e6⟩ := bindSome e2
      split at e6
      · cases e6
        obtain ⟨v, Lj, h1, h2, _⟩ := rs.at_ e5
        cases h2 with
        | val h2 =>
          have z := findK_val hl hf h1
          exact ⟨a, some v, rfl, by rw [← z]; exact DGet.k ha, fun dd z h => h2⟩
      · cases e6
  | _ => exact nomatch (show none = some r from e)
theorem dcAt_ok {ms : MEnv} {i : Nat} {u : Unit} (h : dcAt ms i = some u) : ∃ ks cs, ms[i]? = some (some (.dct ks cs)) := by
  unfold dcAt at h
  split at h
  · rename_i ks cs e; exact ⟨ks, cs, joinSome e⟩
  · cases h
theorem star2 {e f : Expr} {env : PySem.Env} (h : plainE e = true) (h' : plainE f = true) : starEach [e, f] env = [(false, eval e env), (false, eval f env)] := by
  rw [star_cons h, star_cons h']; rfl
theorem pe_dgetE (G : Good Φ c X) {i : Nat} {x : Str} {k d : IE} {ke de : Expr} {p ap cp : Pos} (h : nameB c i x = true) (hk : PE X ke (tE X.K (evE Φ k))) (hd : PE X de (tE X.K (evE Φ d))) (pk : plainE ke = true) (pd : plainE de = true) (hl : (ap.endLine == cp.line) = true) :
    PE X (.Call (.Attribute (.Name x p) "get" ap) [ke, de] [] cp) (tE X.K (evE Φ (.dget i k d))) := by
  have hu : X.A.units + 1 < cLine := by have := G.un; omega
  have m : M2 X (.Name x p) "get" ap ke de cp := ⟨rfl, by rw [star2 pk pd]; rfl, hl, by rw [star2 pk pd]; rfl⟩
  refine (pe_dget2 hu (pe_name G h) hk hd m).of fun σ H Q q => ?_
  obtain ⟨F, L, ms, mm, ms', R, ee, kk⟩ := q
  unfold evE at ee
  obtain ⟨_, e0, ee⟩ := bindSome ee
  obtain ⟨⟨qv, ms1⟩, e1, ee⟩ := bindSome ee
  obtain ⟨kd, e2, ee⟩ := bindSome ee
  obtain ⟨⟨uv, ms2⟩, e3, ee⟩ := bindSome ee
  obtain ⟨dd, e4, ee⟩ := bindSome ee
  obtain ⟨o, e5, ee⟩ := bindSome ee
  obtain ⟨r, e6, ee⟩ := mapSome ee
  cases ee
  obtain ⟨ks, cs, ed⟩ := dcAt_ok e0
  obtain ⟨ov, La, Lb, hv, ow, _⟩ := R.own.cut ed
  cases ow with
  | @dct a ks cs vs Lk ha hl rs =>
    refine ⟨.ref a, hv, a, rfl, .inl ⟨_, .inl ha⟩, tE.go R e1 fun y F1 H1 L1 M g => ?_⟩
    obtain ⟨F2, dk, R2, E2⟩ := g.frz1 e2
    refine tE.go R2 e3 fun z F3 H3 L3 M3 g3 => ?_
    obtain ⟨F4, dz, R4, E4⟩ := g3.frz1 e4
    obtain ⟨v0, La2, Lb2, h1, h2, _⟩ := R4.own.cut (joinSome e5)
    rw [hv] at h1; cases h1
    obtain ⟨a2, vo, q1, q2, q3⟩ := get_ok h2 (dk.mono E4.fr) e6
    cases q1
    exact ⟨vo, q2, kk _ _ _ _ _ (Got.of R4 (E2.trans E4) (q3 dd z dz))⟩
end
end Rx
/-! Rx, more: x[k] + e and x[k][::-1], x a list of lists of its own. -/
namespace Rx
open PySem PySem.Spec L2 PyProof.Rows
section
variable {Φ : Funs} {c : Cfg} {X : Cx} {K : PySem.W.Frag} {σ τ : L2.St} {prot : List Nat}
theorem pe_kcatE (G : Good Φ c X) {i : Nat} {x : Str} {p p2 pos : Pos} {k l : IE} {ke le : Expr} (h : nameB c i x = true) (hk : PE X ke (tE X.K (evE Φ k))) (hs : noSlice ke = true) (hl : PE X le (tE X.K (evE Φ l))) :
    PE X (.BinOp (.Subscript (.Name x p) ke p2) .Add le pos) (tE X.K (evE Φ (.kcat i k l))) := by
  refine (pe_op (OpR.or op_add (OpR.or op_cat op_catK)) (pe_ix (IxR.or ix_list ix_tup) (pe_name G h) hk (plain_ix hs)) hl).of fun σ H Q q => ?_
  obtain ⟨F, L, ms, m, ms', R, ee, kk⟩ := q
  unfold evE at ee
  obtain ⟨_, e0, ee⟩ := bindSome ee
  obtain ⟨⟨q, ms1⟩, e1, ee⟩ := bindSome ee
  obtain ⟨kd, e2, ee⟩ := bindSome ee
  obtain ⟨o, e3, ee⟩ := bindSome ee
  obtain ⟨⟨j, cm⟩, e4, ee⟩ := bindSome ee
  obtain ⟨ds, e5, ee⟩ := bindSome ee
  obtain ⟨⟨lv, ms2⟩, e6, ee⟩ := bindSome ee
  obtain ⟨ld, e7, ee⟩ := bindSome ee
  split at ee
  case h_2 => cases ee
  rename_i hn
  obtain ⟨d, e8, ee⟩ := mapSome ee
  cases ee
  cases cm with
  | ls ds' =>
    cases e5
    obtain ⟨_, ov0, _, hv0⟩ := there_ok e0 R
    refine ⟨ov0, hv0, tE.go R e1 fun kv F1 H1 L1 Mk g => ?_⟩
    obtain ⟨F2, dk, R2, E2⟩ := g.frz1 e2
    obtain ⟨ov, L3, Mo, hov, g3⟩ := Got.mov R2 e3
    rw [hv0] at hov; cases hov
    have own := g3.res.fst
    obtain ⟨a, ws, k1, k2, k3, k4, k5⟩ := kid_ok own g3.nd dk e4
    refine k1 H1 _ (fun _ _ => rfl) ?_
    refine tE.go g3.rel e6 fun y F4 H4 L4 M4 g4 => ?_
    obtain ⟨F5, dy, R5, E5⟩ := g4.frz1 e7
    obtain ⟨w1, w2, w3⟩ := E5.beside own g3.dis
    have same : ∀ b ∈ Mo, H4 b = H1 b := fun b hb => by
      obtain ⟨ob, eb⟩ := own.there b hb
      rw [eb]
      exact E5.keep b ob eb (g3.dis b hb).2
    have atl : H4 a = some (.lst ws) := (same a k2).trans k3
    obtain ⟨L7, f1, f2, f3⟩ := R5.own.fill hn hv0 w1
    have R7 : Rel X.K F5 H4 (ms2.set i (some o)) σ L7 := ⟨f1, f3 R5.nd g3.nd fun b hb z => (w2 b hb).2 z, R5.sub, fun b hb => ((f2 b).mp hb).elim (fun z => (w2 b z).1) (R5.dis b)⟩
    have E6 : Ext F H L F5 H4 (L4 ++ Mo) := (E2.trans g3.ext).trans w3
    have E7 : Ext F H L F5 H4 L7 := E6.less fun b hb => ((f2 b).mp hb).elim (List.mem_append_right _) (List.mem_append_left _)
    refine ok_add F5 H4 [.list ds, ld] [.ref a, y] d Q R7.sub (.cons (.ls atl (k4.mono E5.fr)) (.cons (.fz dy) .nil)) e8 fun v H' md => ?_
    obtain ⟨F8, M8, g8⟩ := Got.made (o := .add) R7 E7 md
    exact kk _ _ _ _ _ g8
  | _ => exact nomatch (show none = some _ from e5)
theorem pe_krevE (G : Good Φ c X) {i : Nat} {x : Str} {p p2 p3 p4 p5 pos : Pos} {kk0 : Nat} {k : IE} {ke : Expr} (h : nameB c i x = true) (hk : PE X ke (tE X.K (evE Φ k))) (hs : noSlice ke = true) :
    PE X (.Subscript (.Subscript (.Name x p) ke p2) (.Slice none none (some (.UnaryOp .USub (.Constant (.int 1) kk0 p3) p4)) p5) pos) (tE X.K (evE Φ (.krev i k))) := by
  refine (pe_revB (pe_ix (IxR.or ix_list ix_tup) (pe_name G h) hk (plain_ix hs))).of fun σ H Q q => ?_
  obtain ⟨F, L, ms, m, ms', R, ee, kk⟩ := q
  unfold evE at ee
  obtain ⟨_, e0, ee⟩ := bindSome ee
  obtain ⟨⟨q, ms1⟩, e1, ee⟩ := bindSome ee
  obtain ⟨kd, e2, ee⟩ := bindSome ee
  obtain ⟨o, e3, ee⟩ := bindSome ee
  obtain ⟨⟨j, cm⟩, e4, ee⟩ := bindSome ee
  obtain ⟨ds, e5, ee⟩ := mapSome ee
  cases ee
  cases cm with
  | ls ds' =>
    cases e5
    obtain ⟨_, ov0, _, hv0⟩ := there_ok e0 R
    refine ⟨ov0, hv0, tE.go R e1 fun kv F1 H1 L1 Mk g => ?_⟩
    obtain ⟨F2, dk, R2, E2⟩ := g.frz1 e2
    obtain ⟨ov, L3, Mo, hov, g3⟩ := Got.mov R2 e3
    rw [hv0] at hov; cases hov
    have own := g3.res.fst
    obtain ⟨a, ws, k1, k2, k3, k4, k5⟩ := kid_ok own g3.nd dk e4
    refine k1 H1 _ (fun _ _ => rfl) ?_
    refine ok_rev F2 H1 [.list ds] [.ref a] (.list ds.reverse) Q R2.sub (.cons (.ls k3 k4) .nil) rfl fun v H' md => ?_
    obtain ⟨F8, M8, g8⟩ := Got.made (o := .rev) R2 E2 md
    exact kk _ _ _ _ _ g8
  | _ => exact nomatch (show none = some _ from e5)
end
end Rx
/-! Rx, more: tuple(range(a, b, c)). -/
namespace Rx
open PySem PySem.Spec L2 PyProof.Rows
theorem size3 {i j k : Int} (hk : 0 < k) : Builtin.Range.rangeSize i j k = ((((j - i + k - 1) / k).toNat : Nat) : Int) := by
  unfold Builtin.Range.rangeSize
  rw [if_pos hk]
  have e : j - i + k - 1 = (j - i - 1) + k * 1 := by omega
  have d : (j - i + k - 1) / k = (j - i - 1) / k + 1 := by rw [e, Int.add_mul_ediv_left _ _ (by omega)]
  rw [d]
  split
  · have : 0 ≤ (j - i - 1) / k := Int.ediv_nonneg (by omega) (by omega)
    omega
  · have : (j - i - 1) / k < 0 := Int.ediv_neg_of_neg_of_pos (by omega) hk
    omega
def r3V (i j k : Int) : List V := (List.range ((j - i + k - 1) / k).toNat).map fun (m : Nat) => V.int (i + (m : Int) * k)
def R3Ok (i j k : Int) : Prop := -1000000 ≤ i ∧ i ≤ 1000000 ∧ -1000000 ≤ j ∧ j ≤ 1000000 ∧ 0 < k ∧ k ≤ 1000000
theorem size3_le {i j k : Int} (h : R3Ok i j k) : ((j - i + k - 1) / k).toNat ≤ 3000000 := by
  obtain ⟨h1, h2, h3, h4, h5, h6⟩ := h
  have : (j - i + k - 1) / k ≤ 3000000 := by
    by_cases q : 0 ≤ j - i + k - 1
    · exact Int.le_trans (Int.ediv_le_self _ q) (by omega)
    · have : (j - i + k - 1) / k < 0 := Int.ediv_neg_of_neg_of_pos (by omega) h5
      omega
  omega
theorem small3 {i j k : Int} (h : R3Ok i j k) : Builtin.Range.small i j k = true := by
  have hl := size3_le h
  obtain ⟨h1, h2, h3, h4, h5, h6⟩ := h
  unfold Builtin.Range.small
  rw [size3 h5]
  simp only [Builtin.Range.rangeFitsLong, Bool.and_eq_true, Bool.or_eq_true, decide_eq_true_eq, beq_iff_eq]
  have p : (2 : Int) ^ 63 = 9223372036854775808 := by decide
  rw [p, if_pos h5]
  refine ⟨⟨⟨⟨⟨?_, ?_⟩, ?_, ?_⟩, ?_, ?_⟩, ?_, ?_⟩, .inr ?_⟩ <;> first | omega | (rw [decide_eq_true (by omega), decide_eq_true (by omega)]; rfl)
section
variable {Φ : Funs} {c : Cfg} {X : Cx} {K : PySem.W.Frag} {σ : L2.St}
def tR3 (ta tb tc : TE) : TE := fun σ H Q => ta σ H fun x H1 => tb σ H1 fun y H2 => tc σ H2 fun z H3 => ∃ i j k, x = .int i ∧ y = .int j ∧ z = .int k ∧ R3Ok i j k ∧ ∀ p o, H3 p = none → TupO o → Q (.ref p) (upd H3 p (.frz o (.tup (r3V i j k))))
theorem pe_tupR3 {a b d : Expr} {ta tb td : TE} {p p2 pos pos2 : Pos} (hc : X.calm = true) (hg : Gl X "tuple") (hm : X.mg "tuple" = none) (hg2 : Gl X "range") (hm2 : X.mg "range" = none) (ha : PE X a ta) (hb : PE X b tb) (hd : PE X d td) (na : plainE a = true) (nb : plainE b = true) (nd : plainE d = true) :
    PE X (.Call (.Name "tuple" p) [.Call (.Name "range" p2) [a, b, d] [] pos2] [] pos) (tR3 ta tb td) := by
  refine ⟨fun pins s σ H Q I h => ?_⟩
  refine Call_ (ld_blt I hg hm boot_tuple (PyProof.Rows.callWith_type1 (args_cons (thn (Q := fun x s' => ∃ r i j k t u v H', x = Value.ref r ∧ IsRange s'.heap r i j k t u v ∧ Inv X pins σ H' s' ∧ R3Ok i j k ∧ ∀ p o, H' p = none → TupO o → Q (.ref p) (upd H' p (.frz o (.tup (r3V i j k))))) ?_ fun x s1 ⟨r, i, j, k, t, u, v, H1, ex, hr, I1, ok, q⟩ => args_nil ?_) rfl) rfl))
  · refine Call_ (ld_blt I hg2 hm2 boot_range (PyProof.Rows.callWith_type1 (args_cons (thn (ha.run pins s σ H _ I h) fun v s1 ⟨x, H1, I1, r1, q1⟩ => args_cons (thn (hb.run pins s1 σ H1 _ I1 q1) fun u s2 ⟨y, H2, I2, r2, q2⟩ => one_arg hd I2 q2 (fun u3 s3 z H3 I3 r3 q => ?_) (star_cons nd)) (star_cons nb)) (star_cons na)) (star_cons na) (star_any (by simp [nb, nd]))))
    obtain ⟨i, j, k, rfl, rfl, rfl, ok, q⟩ := q
    obtain ⟨t, rfl⟩ := r1
    obtain ⟨t', rfl⟩ := r2
    obtain ⟨t'', rfl⟩ := r3
    refine call_range_3 (by have := ok.2.2.2.2.1; omega) ⟨_, i, j, k, _, _, _, H3, rfl, IsRange.new _ _ _ _ _ _ _, I3.kept fun b u e => Heap.get?_push_of_some _ e, ok, q⟩ (.inl (PyProof.noPylong_small ?_))
    have h5 := ok.2.2.2.2.1
    have h6 := ok.2.2.2.2.2
    omega
  · subst ex
    have hl := size3_le ok
    refine call_tuple_range (n := ((j - i + k - 1) / k).toNat) (I1.ok.hd hc) hr (small3 ok) (size3 ok.2.2.2.2.1) (by rw [show (2 : Nat) ^ 24 = 16777216 by decide]; omega) fun h' tk acc hk hi => ?_
    have I2 : Inv X pins σ H1 { s1 with heap := h', toks := tk } := I1.kept hk
    have e : acc.toList.length = ((j - i + k - 1) / k).toNat := by rw [Array.length_toList]; exact hi.1
    have rv : Vals (r3V i j k) acc.toList := by
      unfold r3V
      rw [← e]
      refine vals_of_get acc.toList _ fun m u hj => ?_
      obtain ⟨t, rfl⟩ := hi.2 m u (by rw [← hj, Array.getElem?_toList])
      exact ⟨t, rfl⟩
    have lv : (r3V i j k).length = ((j - i + k - 1) / k).toNat := by unfold r3V; rw [List.length_map, List.length_range]
    refine ⟨.ref h'.objs.size, _, I2.laid (t' := tk) (o := .frz { cls := .type "tuple", data := .seq acc } (.tup (r3V i j k))) (fun c o e => Heap.get?_push_of_some _ e) (Nat.le_refl _) ⟨Heap.get?_push_size _ rfl, by rw [lv, sizeLine_eq]; omega, acc.toList, rv, ?_⟩, rfl, q _ _ (I2.hok.fresh (Nat.le_refl _)) ⟨rfl, rfl⟩⟩
    rw [Array.toArray_toList]; exact IsTup.new _ _
theorem r3_dt {F : Hp} (i j k : Int) : DtAll F ((List.range ((j - i + k - 1) / k).toNat).map fun (m : Nat) => PyData.int (i + (m : Int) * k)) (r3V i j k) := by
  unfold r3V
  have key : ∀ (f : Nat → Int) (l : List Nat), DtAll F (l.map fun k => PyData.int (f k)) (l.map fun k => V.int (f k)) := fun f l => by
    induction l with
    | nil => exact .nil
    | cons k l ih => exact .cons (.int _) ih
  exact key (fun m => i + (m : Int) * k) _
def R3of (r : V → V → V → Hp → VK → Prop) : List V → Hp → VK → Prop := fun vs H Q => match vs with | [x, y, z] => r x y z H Q | _ => False
theorem ok_tr3 : OpOk .trange3 (R3of fun x y z H1 Q => ∃ i j k, x = .int i ∧ y = .int j ∧ z = .int k ∧ R3Ok i j k ∧ ∀ p o, H1 p = none → TupO o → Q (.ref p) (upd H1 p (.frz o (.tup (r3V i j k))))) := by
  intro F H ds vs d Q hs dt e k
  have e : s_trange3 ds = some d := e
  unfold s_trange3 at e
  split at e
  · split at e
    · rename_i i j kk _ hj
      cases e
      cases dt with
      | cons r1 t =>
        obtain ⟨v, u, rfl, r2, r3⟩ := t.two
        cases r1.intOf; cases r2.intOf; cases r3.intOf
        obtain ⟨h1, h2, h3, h4, h5, h6⟩ := hj
        have h1 : -1000000 ≤ i := h1
        have h2 : i ≤ 1000000 := h2
        have h3 : -1000000 ≤ j := h3
        have h4 : j ≤ 1000000 := h4
        have h6 : kk ≤ 1000000 := h6
        exact ⟨i, j, kk, rfl, rfl, rfl, ⟨h1, h2, h3, h4, h5, h6⟩, fun p o hp wo => k _ _ (.tup hp wo (r3_dt i j kk))⟩
    · cases e
  · cases e
theorem pe_tr3E (G : Good Φ c X) {a b d : IE} {e e' e2 : Expr} {y z : Str} {p1 p2 p3 p4 : Pos} (hy : y = "tuple") (hz : z = "range") (gy : globB c y = true) (gz : globB c z = true) (ha : PE X e (tO X.K Φ a)) (hb : PE X e' (tO X.K Φ b)) (hd : PE X e2 (tO X.K Φ d)) (hp : plainE e = true) (hp' : plainE e' = true) (hp2 : plainE e2 = true) :
    PE X (.Call (.Name y p1) [.Call (.Name z p2) [e, e', e2] [] p3] [] p4) (tE X.K (evE Φ (.op .trange3 [a, b, d]))) := by
  subst hy hz
  obtain ⟨g1, _, _⟩ := gl_of G gy
  obtain ⟨g2, _, _⟩ := gl_of G gz
  exact (pe_tupR3 G.calm g1 (G.bl _ (by decide)) g2 (G.bl _ (by decide)) ha hb hd hp hp' hp2).of fun σ H Q q => tO_mono (op_go ok_tr3 q) fun _ _ q => tO_mono q fun _ _ q => tO_mono q fun _ _ q => q
end
end Rx
/-! Rx, more: len(dict(pairs)). -/
namespace Rx
open PySem PySem.Spec L2 PyProof.Rows
theorem stored_keys {K : Type} [DecidableEq K] (acc : List (K × Value)) (k : K) (v : Value) : (PySem.stored acc k v).map (·.1) = if k ∈ acc.map (·.1) then acc.map (·.1) else acc.map (·.1) ++ [k] := by
  unfold PySem.stored
  have ha : (acc.any fun kv => decide (kv.1 = k)) = true ↔ k ∈ acc.map (·.1) := by
    rw [List.any_eq_true, List.mem_map]
    exact ⟨fun ⟨x, h1, h2⟩ => ⟨x, h1, of_decide_eq_true h2⟩, fun ⟨x, h1, h2⟩ => ⟨x, h1, decide_eq_true h2⟩⟩
  by_cases h : k ∈ acc.map (·.1)
  · rw [if_pos (ha.mpr h), if_pos h, List.map_map]
    refine List.map_congr_left fun x _ => ?_
    show (if x.1 = k then (x.1, v) else x).1 = x.1
    split <;> rfl
  · rw [if_neg (fun z => h (ha.mp z)), if_neg h, List.map_append]; rfl
theorem merged_num {K : Type} [DecidableEq K] : ∀ (more acc : List (K × Value)), (PySem.merged acc more).length = dnum (acc.map (·.1)) (more.map (·.1))
  | [], acc => by show acc.length = (acc.map (·.1)).length; rw [List.length_map]
  | p :: r, acc => by
    show (PySem.merged (PySem.stored acc p.1 p.2) r).length = dnum (if p.1 ∈ acc.map (·.1) then acc.map (·.1) else acc.map (·.1) ++ [p.1]) (r.map (·.1))
    rw [merged_num r, stored_keys]
theorem dnum_le {α : Type} [DecidableEq α] : ∀ (ks acc : List α), dnum acc ks ≤ acc.length + ks.length
  | [], acc => Nat.le_refl _
  | k :: ks, acc => by
    have := dnum_le ks (if k ∈ acc then acc else acc ++ [k])
    show dnum (if k ∈ acc then acc else acc ++ [k]) ks ≤ _
    refine Nat.le_trans this ?_
    split <;> simp <;> omega
def refAt (its : List Value) (j : Nat) : Addr := match its[j]? with
  | some (.ref p) => p
  | _ => 0
theorem dt_two {F : Hp} {a b : PyData} {vs : List V} (h : DtAll F [a, b] vs) : ∃ x y, vs = [x, y] ∧ Dt F a x ∧ Dt F b y := by
  cases h with
  | cons r t => cases t with
    | cons r2 t2 => cases t2; exact ⟨_, _, rfl, r, r2⟩
section
variable {Φ : Funs} {c : Cfg} {X : Cx} {σ : L2.St}
/-- the keys of pairs, as they stand in the heap -/
def KeysV {α : Type} (kk : α → V) (F : Hp) (ks : List α) (vs : List V) : Prop := ks.length = vs.length ∧ ∀ (j : Nat) (k : α), ks[j]? = some k → ∃ p u, vs[j]? = some (V.ref p) ∧ TupK F p [kk k, u]
theorem KeysV.cons {α : Type} {kk : α → V} {F : Hp} {ks : List α} {vs : List V} {k : α} {p : Addr} {u : V} (h : KeysV kk F ks vs) (t : TupK F p [kk k, u]) : KeysV kk F (k :: ks) (V.ref p :: vs) :=
  ⟨by rw [List.length_cons, List.length_cons, h.1], fun j q e => by
    cases j with
    | zero => simp at e; subst e; exact ⟨p, u, rfl, t⟩
    | succ j => simpa using h.2 j q (by simpa using e)⟩
theorem pairsI_v {F : Hp} : ∀ {ds : List PyData} {vs : List V} {ks : List Int}, pairsI ds = some ks → DtAll F ds vs → KeysV V.int F ks vs
  | [], _, ks, e, .nil => by cases e; exact ⟨rfl, fun j k e => by simp at e⟩
  | _ :: _, _, ks, e, .cons r t => by
    unfold pairsI at e
    split at e
    · rename_i e0; cases e0
    · rename_i k w r' e0
      cases e0
      obtain ⟨ks', e1, rfl⟩ := mapSome e
      cases r with
      | tup h q =>
        obtain ⟨x, y, rfl, r1, _⟩ := dt_two q
        cases r1
        exact (pairsI_v e1 t).cons h
    · cases e
theorem pairsB_v {F : Hp} : ∀ {ds : List PyData} {vs : List V} {ks : List Bool}, pairsB ds = some ks → DtAll F ds vs → KeysV V.bl F ks vs
  | [], _, ks, e, .nil => by cases e; exact ⟨rfl, fun j k e => by simp at e⟩
  | _ :: _, _, ks, e, .cons r t => by
    unfold pairsB at e
    split at e
    · rename_i e0; cases e0
    · rename_i k w r' e0
      cases e0
      obtain ⟨ks', e1, rfl⟩ := mapSome e
      cases r with
      | tup h q =>
        obtain ⟨x, y, rfl, r1, _⟩ := dt_two q
        cases r1
        exact (pairsB_v e1 t).cons h
    · cases e
theorem src_of {pins : List (Addr × Obj)} {H F : Hp} {s : Shared} {α : Type} [DecidableEq α] {kk : α → V} {knd : PySem.KeyKind X.prog X.w α} (I : Inv X pins σ H s) (hs : Sub F H) (hk : ∀ k u, RelV (kk k) u → knd.is k u = true) :
    ∀ {vs : List V} {its : List Value} {ks : List α}, Vals vs its → KeysV kk F ks vs → ∃ (ps : List (Value × Value)) (kvs : List (α × Value)), ps.length = ks.length ∧ kvs.map (·.1) = ks ∧
      ∀ (j : Nat) (key v : Value), ps[j]? = some (key, v) → (∃ p, its[j]? = some (Value.ref p) ∧ PySem.PairAt s.heap p key v) ∧ ∃ k, kvs[j]? = some (k, v) ∧ knd.is k key = true
  | _, _, [], .nil, h => ⟨[], [], rfl, rfl, fun j key v e => by simp at e⟩
  | _, _, _ :: _, .nil, h => by cases h.1
  | _, _, [], .cons r t, h => by cases h.1
  | _, _, k :: ks, .cons r t, h => by
    have h' : KeysV kk F ks _ := ⟨Nat.succ.inj h.1, fun j q e => by simpa using h.2 (j + 1) q (by simpa using e)⟩
    obtain ⟨ps, kvs, g1, g2, g3⟩ := src_of I hs hk t h'
    obtain ⟨p, u, e1, e2⟩ := h.2 0 k rfl
    have e1 := Option.some.inj e1
    subst e1
    cases r
    obtain ⟨its2, rv, ht, _⟩ := I.tuple (e2.mono hs).sq
    obtain ⟨x, y, ei, rx, ry⟩ := vals2 rv
    subst ei
    refine ⟨(x, y) :: ps, (k, y) :: kvs, by rw [List.length_cons, List.length_cons, g1], by rw [List.map_cons, g2], fun j key v e => ?_⟩
    cases j with
    | zero => simp at e; obtain ⟨rfl, rfl⟩ := e; exact ⟨⟨p, rfl, .inl (by obtain ⟨o, ho, hc, hd⟩ := ht; exact ⟨o, ho, hc, hd⟩)⟩, k, rfl, hk _ _ rx⟩
    | succ j => simpa using g3 j key v (by simpa using e)
/-- len(dict(xs)), xs a list of pairs -/
def rLend (K : PySem.W.Frag) : List V → Hp → VK → Prop := fun xs H1 Q => ∃ (a : Addr) (vs : List V) (F : Hp), xs = [V.ref a] ∧ SqL K H1 a vs ∧ Sub F H1 ∧
  ((∃ ks : List Int, KeysV V.int F ks vs ∧ Q (.int (dnum [] ks : Nat)) H1) ∨ (∃ ks : List Bool, KeysV V.bl F ks vs ∧ Q (.int (dnum [] ks : Nat)) H1))
def tLendE (K : PySem.W.Frag) (ta : TE) : TE := fun σ H Q => ta σ H fun x H1 => rLend K [x] H1 Q
theorem ok_lend {K : PySem.W.Frag} : OpOk .lend (rLend K) := by
  intro F H ds vs d Q hs dt e k
  have e : s_lend ds = some d := e
  unfold s_lend at e
  split at e
  · rename_i xs
    obtain ⟨v, rfl, r1⟩ := dt.oneV
    obtain ⟨a, vs, rfl, h1, q1⟩ := r1.lstOf hs
    split at e
    · rename_i ks e1
      cases e
      exact ⟨a, vs, F, rfl, SqL.of h1, hs, .inl ⟨ks, pairsI_v e1 q1, k _ _ (.old (.int _) fun z => by cases z)⟩⟩
    · obtain ⟨ks, e1, rfl⟩ := mapSome e
      exact ⟨a, vs, F, rfl, SqL.of h1, hs, .inr ⟨ks, pairsB_v e1 q1, k _ _ (.old (.int _) fun z => by cases z)⟩⟩
  · cases e
theorem pe_lenDct {a : Expr} {ta : TE} {p p2 q pos : Pos} (hc : X.calm = true) (hg : Gl X "len") (hm : X.mg "len" = none) (hg2 : Gl X "dict") (hm2 : X.mg "dict" = none) (ha : PE X a ta) (hp : plainE a = true) :
    PE X (.Call (.Name "len" p) [.Call (.Name "dict" p2) [a] [] q] [] pos) (tLendE X.K ta) := by
  have na : starEach [a] X.env = (false, eval a X.env) :: starEach [] X.env := star_cons hp
  refine ⟨fun pins s σ H Q I h => ?_⟩
  refine Call_ (ld_blt I hg hm boot_len ?_)
  refine PyProof.Rows.callWith_builtin1 (PyProof.Rows.args_cons ?_ rfl) rfl rfl
  refine Call_ (ld_blt I hg2 hm2 (u := .type "dict") (by decide +kernel) ?_)
  refine PyProof.Rows.callWith_type1 (PyProof.Rows.args_cons (thn (ha.run pins s σ H _ I h) fun v s1 ⟨x, H1, I1, r1, q1⟩ => PyProof.Rows.args_nil ?_) na) na rfl
  obtain ⟨l, vs, F, ex, hq, hs, q1⟩ := q1
  cases ex
  cases r1
  obtain ⟨its, rv, pl, hz⟩ := I1.list hq
  have main : ∀ {α : Type} [DecidableEq α] (kk : α → V) (knd : PySem.KeyKind X.prog X.w α) (hk : ∀ k u, RelV (kk k) u → knd.is k u = true) (ks : List α), KeysV kk F ks vs → Q (.int (dnum [] ks : Nat)) H1 →
      wpAny (model X.prog X.w) X.A (call (.type "dict") [.ref l]) (fun v s₂ => wpAny (model X.prog X.w) X.A (spliced (backTo pos (starEach [] X.env))) (fun vs s₂ => wpAny (model X.prog X.w) X.A (call (.builtin "len") (v :: vs)) (EP X pins σ Q) X.xe s₂) X.xe s₂) X.xe s1 := fun kk knd hk ks kv fin => by
    obtain ⟨ps, kvs, g1, g2, g3⟩ := src_of I1 hs hk rv kv
    have el : kvs.length = ks.length := by rw [← g2, List.length_map]
    have hl : vs.length = its.length := rv.length
    have hn : ks.length ≤ sizeLine := by rw [kv.1]; exact hz
    refine PySem.call_dict_pairs (knd := knd) (kvs := kvs) (PySem.PairArg.list l its.toArray (refAt its) ps) (I1.ok.hd hc) ⟨pl, ?_, fun j k v e => ?_⟩ ⟨by rw [el, g1], fun j key v e => (g3 j key v e).2⟩ (by rw [g1]; exact hn) fun h' tk hd' hk' => ?_
    · rw [List.size_toArray, g1, ← hl, kv.1]
    · obtain ⟨⟨b, e1, e2⟩, _⟩ := g3 j k v e
      have e3 : refAt its j = b := by unfold refAt; rw [e1]
      rw [e3]
      exact ⟨by simpa using e1, e2⟩
    · refine PyProof.Rows.args_nil ?_
      have I2 : Inv X pins σ H1 { s1 with heap := h', toks := tk } := I1.kept fun b o e => hk' b o (by simp) e
      have hm : (s1.heap.objs.size == sysModules) = false := beq_eq_false_iff_ne.mpr (Nat.ne_of_gt I1.big)
      have hnum : (PySem.merged [] kvs).length = dnum [] ks := by rw [merged_num, g2]; rfl
      have hle := dnum_le ks ([] : List _)
      refine call_len_dict hm hd' (by rw [hnum]; rw [List.length_nil, Nat.zero_add] at hle; rw [sizeLine_eq] at hn; omega) ?_
      rw [hnum]
      exact ⟨.int (dnum [] ks : Nat), H1, I2.tok _, ⟨_, rfl⟩, fin⟩
  rcases q1 with ⟨ks, kv, fin⟩ | ⟨ks, kv, fin⟩
  · exact main V.int (PySem.intKind X.prog X.w) (fun k u r => by obtain ⟨t, rfl⟩ := r; simp [PySem.intKind, Value.isInt]) ks kv fin
  · exact main V.bl (PpSet.boolK X.prog X.w) (fun k u r => by cases r; exact PpSet.boolK_is _ _ _) ks kv fin
theorem pe_lendE (G : Good Φ c X) {a : IE} {x y : Str} {e : Expr} {p p2 pos pos2 : Pos} (h : x = "len") (h2 : y = "dict") (hx : globB c x = true) (hy : globB c y = true) (ha : PE X e (tO X.K Φ a)) (hp : plainE e = true) : PE X (.Call (.Name x p) [.Call (.Name y p2) [e] [] pos2] [] pos) (tE X.K (evE Φ (.op .lend [a]))) := by
  subst h h2
  obtain ⟨g1, _, _⟩ := gl_of G hx
  obtain ⟨g2, _, _⟩ := gl_of G hy
  exact (pe_lenDct G.calm g1 (G.bl _ (by decide)) g2 (G.bl _ (by decide)) ha hp).of fun σ H Q q => op_go ok_lend q
end
end Rx
/-! Rx, more: k in d, k not in d. -/
namespace Rx
open PySem PySem.Spec L2 PyProof.Rows
section
variable {Φ : Funs} {c : Cfg} {X : Cx} {K : PySem.W.Frag} {σ : L2.St}
theorem has_ok {F H : Hp} {o : MV} {ov : V} {La : List Addr} {kd : PyData} {b : Bool} {kv : V} (w : Own K F H o ov La) (rk : Dt F kd kv) (e : hasOf o kd = some b) :
    ∃ a vo, ov = .ref a ∧ DGet H a kv vo ∧ vo.isSome = b := by
  cases w with
  | @dct a ks cs vs Lk ha hl rs =>
    have e : ((keyOf kd).map fun q => (findK ks q).isSome) = some b := e
    obtain ⟨q, e1, e2⟩ := mapSome e
    subst e2
    cases kV_of e1 rk
    cases hf : findK ks q with
    | none =>
      refine ⟨a, none, rfl, ?_, rfl⟩
      rw [← findK_off (vs := vs) hf]
      exact DGet.k ha
    | some j =>
      obtain ⟨h1, _⟩ := findK_lt hf
      have hv : vs[j]? = some (vs[j]'(by rw [← hl]; exact h1)) := List.getElem?_eq_getElem _
      have z := findK_val hl hf hv
      exact ⟨a, some _, rfl, by rw [← z]; exact DGet.k ha, rfl⟩
  | _ => exact nomatch (show none = some b from e)
theorem inD_go {a : IE} {i : Nat} {neg : Bool} {H : Hp} {Q : VK} (q : tE K (evE Φ (.inD neg a i)) σ H Q) : (if neg = true then tDNotIn (tE K (evE Φ a)) (tVar i) else tDIn (tE K (evE Φ a)) (tVar i)) σ H Q := by
  obtain ⟨F, L, ms, m, ms', R, e, k⟩ := q
  unfold evE at e
  obtain ⟨⟨v, ms1⟩, e1, e⟩ := bindSome e
  obtain ⟨kd, e2, e⟩ := bindSome e
  obtain ⟨o, e3, e⟩ := bindSome e
  obtain ⟨b, e4, e⟩ := mapSome e
  cases e
  cases neg with
  | true =>
    refine tE.go R e1 fun y F1 H1 L1 M g => ?_
    obtain ⟨F2, dk, R2, E2⟩ := g.frz1 e2
    obtain ⟨v0, La, Lb, h1, h2, _⟩ := R2.own.cut (joinSome e3)
    obtain ⟨p, vo, rfl, q2, q3⟩ := has_ok h2 dk e4
    exact ⟨_, h1, p, vo, rfl, q2, by rw [q3]; cases b <;> exact k _ _ _ _ _ (Got.of R2 E2 (.bl _))⟩
  | false =>
    refine tE.go R e1 fun y F1 H1 L1 M g => ?_
    obtain ⟨F2, dk, R2, E2⟩ := g.frz1 e2
    obtain ⟨v0, La, Lb, h1, h2, _⟩ := R2.own.cut (joinSome e3)
    obtain ⟨p, vo, rfl, q2, q3⟩ := has_ok h2 dk e4
    exact ⟨_, h1, p, vo, rfl, q2, by rw [q3]; cases b <;> exact k _ _ _ _ _ (Got.of R2 E2 (.bl _))⟩
theorem pe_inDE (G : Good Φ c X) {neg : Bool} {a : IE} {i : Nat} {e : Expr} {x : Str} {p pos : Pos} (he : PE X e (tE X.K (evE Φ a))) (h : nameB c i x = true) : PE X (.Compare e [if neg = true then .NotIn else .In] [.Name x p] pos) (tE X.K (evE Φ (.inD neg a i))) := by
  have hu : X.A.units + 1 < cLine := by have := G.un; omega
  cases neg with
  | true => exact (pe_cmp (pc_dnotin hu he (pe_name G h)) rfl).of fun _ _ _ q => inD_go q
  | false => exact (pe_cmp (pc_din hu he (pe_name G h)) rfl).of fun _ _ _ q => inD_go q
theorem pt_inDE (G : Good Φ c X) {neg : Bool} {a : IE} {i : Nat} {e : Expr} {x : Str} {p pos : Pos} (he : PE X e (tE X.K (evE Φ a))) (h : nameB c i x = true) : PT X (.Compare e [if neg = true then .NotIn else .In] [.Name x p] pos) (tT X.K (evE Φ (.inD neg a i))) := by
  have hu : X.A.units + 1 < cLine := by have := G.un; omega
  cases neg with
  | true => exact (pt_cmp (pc_dnotin hu he (pe_name G h)) rfl).of fun _ _ _ q => inD_go (tT_val q)
  | false => exact (pt_cmp (pc_din hu he (pe_name G h)) rfl).of fun _ _ _ q => inD_go (tT_val q)
end
end Rx
/-! Rx, more: x.update(dict(pairs)). -/
namespace Rx
open PySem PySem.Spec L2 PyProof.Rows
/-- a table of frozen values -/
inductive KD (F : Hp) : List (Key × PyData) → List (Key × V) → Prop
  | nil : KD F [] []
  | cons {k : Key} {d : PyData} {v : V} {kvs : List (Key × PyData)} {kws : List (Key × V)} : Dt F d v → KD F kvs kws → KD F ((k, d) :: kvs) ((k, v) :: kws)
namespace KD
variable {F : Hp}
theorem any : ∀ {kvs : List (Key × PyData)} {kws : List (Key × V)} (k : Key), KD F kvs kws → (kvs.any fun kv => decide (kv.1 = k)) = (kws.any fun kv => decide (kv.1 = k))
  | _, _, _, .nil => rfl
  | _, _, k, .cons r t => by rw [List.any_cons, List.any_cons, any k t]
theorem repl {d : PyData} {v : V} (r : Dt F d v) : ∀ {kvs : List (Key × PyData)} {kws : List (Key × V)} (k : Key), KD F kvs kws →
    KD F (kvs.map fun kv => if kv.1 = k then (kv.1, d) else kv) (kws.map fun kv => if kv.1 = k then (kv.1, v) else kv)
  | _, _, _, .nil => .nil
  | _, _, k, .cons (k := q) r' t => by
    rw [List.map_cons, List.map_cons]
    by_cases h : q = k
    · rw [if_pos h, if_pos h]; exact .cons r (repl r k t)
    · rw [if_neg h, if_neg h]; exact .cons r' (repl r k t)
theorem app : ∀ {kvs : List (Key × PyData)} {kws : List (Key × V)} {kvs' : List (Key × PyData)} {kws' : List (Key × V)}, KD F kvs kws → KD F kvs' kws' → KD F (kvs ++ kvs') (kws ++ kws')
  | _, _, _, _, .nil, s => s
  | _, _, _, _, .cons r t, s => .cons r (t.app s)
theorem put {kvs : List (Key × PyData)} {kws : List (Key × V)} {k : Key} {d : PyData} {v : V} (h : KD F kvs kws) (r : Dt F d v) : KD F (putA kvs k d) (putK kws k v) := by
  unfold putA putK
  rw [h.any k]
  split
  · exact h.repl r k
  · exact h.app (.cons r .nil)
theorem merge : ∀ {more : List (Key × PyData)} {mores : List (Key × V)} {kvs : List (Key × PyData)} {kws : List (Key × V)}, KD F more mores → KD F kvs kws → KD F (mergeA kvs more) (mergeK kws mores)
  | _, _, _, _, .nil, s => s
  | _, _, _, _, .cons r t, s => by
    unfold mergeA mergeK
    rw [List.foldl_cons, List.foldl_cons]
    exact merge t (s.put r)
theorem len : ∀ {kvs : List (Key × PyData)} {kws : List (Key × V)}, KD F kvs kws → kvs.length = kws.length
  | _, _, .nil => rfl
  | _, _, .cons _ t => by rw [List.length_cons, List.length_cons, t.len]
theorem fsts : ∀ {kvs : List (Key × PyData)} {kws : List (Key × V)}, KD F kvs kws → kws = (kvs.map (·.1)).zip (kws.map (·.2))
  | _, _, .nil => rfl
  | _, _, .cons r t => by rw [List.map_cons, List.map_cons, List.zip_cons_cons, ← t.fsts]
theorem snds {K : PySem.W.Frag} {H : Hp} : ∀ {kvs : List (Key × PyData)} {kws : List (Key × V)}, KD F kvs kws → OwnAll K F H (kvs.map fun kv => MV.val kv.2) (kws.map (·.2)) []
  | _, _, .nil => .nil
  | _, _, .cons r t => OwnAll.cons (L1 := []) (L2 := []) (.val r) t.snds
theorem zip : ∀ {ks : List Key} {ds : List PyData} {vs : List V}, DtAll F ds vs → KD F (ks.zip ds) (ks.zip vs)
  | [], _, _, _ => .nil
  | _ :: _, _, _, .nil => .nil
  | _ :: _, _, _, .cons r t => .cons r (zip t)
end KD
theorem valsOf_dt {K : PySem.W.Frag} {F H : Hp} : ∀ {cs : List MV} {ds : List PyData} {vs : List V} {L : List Addr}, valsOf cs = some ds → OwnAll K F H cs vs L → DtAll F ds vs ∧ L = []
  | [], _, _, _, e, .nil => by cases e; exact ⟨.nil, rfl⟩
  | c :: cs, _, _, _, e, .cons r t => by
    unfold valsOf at e
    split at e
    · rename_i e0; cases e0
    · rename_i d r' e0
      cases e0
      obtain ⟨ds, e1, rfl⟩ := mapSome e
      obtain ⟨h1, h2⟩ := valsOf_dt e1 t
      cases r with
      | val r => subst h2; exact ⟨.cons r h1, rfl⟩
    · cases e
theorem pairsK_len : ∀ {ds : List PyData} {ps : List (Key × PyData)}, pairsK ds = some ps → ds.length = ps.length
  | [], _, e => by cases e; rfl
  | d :: ds, _, e => by
    unfold pairsK at e
    split at e
    · rename_i e0; cases e0
    · rename_i k v r e0
      cases e0
      obtain ⟨q, _, e2⟩ := bindSome e
      obtain ⟨ps, e3, rfl⟩ := mapSome e2
      rw [List.length_cons, List.length_cons, pairsK_len e3]
    · cases e
theorem length_mergeA : ∀ (more kvs : List (Key × PyData)), (mergeA kvs more).length ≤ kvs.length + more.length
  | [], kvs => Nat.le_refl _
  | p :: r, kvs => by
    have h1 := length_mergeA r (putA kvs p.1 p.2)
    have h2 : (putA kvs p.1 p.2).length ≤ kvs.length + 1 := by
      unfold putA
      split
      · rw [List.length_map]; omega
      · rw [List.length_append]; simp
    show (mergeA (putA kvs p.1 p.2) r).length ≤ _
    rw [List.length_cons]; omega
section
variable {Φ : Funs} {c : Cfg} {X : Cx} {σ : L2.St} {prot : List Nat}
/-- the pairs as they stand in the heap -/
theorem pairsK_v {F H : Hp} {K : PySem.W.Frag} (hs : Sub F H) : ∀ {ds : List PyData} {vs : List V} {ps : List (Key × PyData)}, pairsK ds = some ps → DtAll F ds vs →
    ∃ (as : List Addr) (kvs : List (Key × V)), vs = as.map V.ref ∧ Paired (fun p kv => SqT K H p [kV kv.1, kv.2]) as kvs ∧ KD F ps kvs
  | [], _, ps, e, .nil => by cases e; exact ⟨[], [], rfl, .nil, .nil⟩
  | _ :: _, _, ps, e, .cons r t => by
    unfold pairsK at e
    split at e
    · rename_i e0; cases e0
    · rename_i k w r' e0
      cases e0
      obtain ⟨q, e2, e3⟩ := bindSome e
      obtain ⟨ps', e4, rfl⟩ := mapSome e3
      cases r with
      | @tup p _ us h z =>
        obtain ⟨x, y, rfl, r1, r2⟩ := dt_two z
        cases kV_of e2 r1
        obtain ⟨as, kvs, g1, g2, g3⟩ := pairsK_v hs e4 t
        exact ⟨p :: as, (q, y) :: kvs, by rw [g1]; rfl, .cons (h.mono hs).sq g2, .cons r2 g3⟩
    · cases e
def rUpd : V → List V → Hp → VK → Prop := fun x xs H Q => ∃ (a b : Addr) (kvs more : List (Key × V)), x = .ref a ∧ xs = [V.ref b] ∧ a ≠ b ∧ H a = some (.dK kvs) ∧ H b = some (.dK more) ∧ kvs.length + more.length ≤ sizeLine ∧ Q .non (upd H a (.dK (mergeK kvs more)))
theorem mt_updD : MtR X "dict.update" rUpd := by
  intro pins s σ H x xs v us Q I rx rv h
  obtain ⟨a, b, kvs, more, rfl, rfl, hne, ha, hb, hz, q⟩ := h
  cases rx
  obtain ⟨u, rfl, ru⟩ := vals1 rv
  cases ru
  obtain ⟨z1, hd1, vs1, rel1, dd1⟩ := dk_of I.hok ha
  obtain ⟨z2, hd2, vs2, rel2, dd2⟩ := dk_of I.hok hb
  refine call_meetsIn PySem.F.slot_dict_update dd1.typeIs PySem.F.entry_dict_update (PySem.F.args_dict_update_2 _ _) (PySem.meets_dict_update (mixKind X.prog X.w) a b hne hd2)
    ⟨vs1, vs2, dd1, dd2, by rw [← rel1.length, ← rel2.length]; exact hz, fun h' hm _ hs => ?_⟩
  have he : ∃ q, h'.get? a = some q := let ⟨q, _, _, hq, _⟩ := hm; ⟨q, hq⟩
  exact ⟨.non, _, d_write I (by rw [ha]; exact True.intro) hs he (dk_new (Nat.le_trans (length_mergeK more kvs) hz) hd1 (rel2.merge rel1) hm), rfl, q⟩
theorem ps_dupdE (G : Good Φ c X) {i : Nat} {x y : Str} {a : IE} {e : Expr} {p p2 apos cpos cpos2 pos : Pos} (hy : y = "dict") (gy : globB c y = true) (h : nameB c i x = true) (he : PE X e (tE X.K (evE Φ a))) (hp : plainE e = true) (hl : (apos.endLine == cpos.line) = true) :
    PS X (.Expr (.Call (.Attribute (.Name x p) "update" apos) [.Call (.Name y p2) [e] [] cpos2] [] cpos) pos) (tSt X.K prot (evS Φ (.dupd i a))) := by
  subst hy
  obtain ⟨g1, g2, g3⟩ := gl_of G gy
  have hd : PE X (.Call (.Name "dict" p2) [e] [] cpos2) _ := pe_callTy (call_dictP G.calm) g1 (G.bl _ (by decide)) (by decide +kernel) (pa1 he hp) g3 g2 (star_cons hp) rfl
  refine (ps_expr (pe_bm PySem.F.plainAttrs_dict PySem.F.slot_dict_update PySem.F.type_dict_update mt_updD (pe_name G h) (pa1 hd rfl) rfl (few1 rfl) hl (star_cons rfl) rfl) rfl).of fun D σ H q => ?_
  obtain ⟨F, L, ms, o, R, ee, k⟩ := q
  unfold evS at ee
  obtain ⟨_, e0, ee⟩ := bindSome ee
  obtain ⟨⟨v, ms1⟩, e1, ee⟩ := bindSome ee
  obtain ⟨d, e2, ee⟩ := bindSome ee
  obtain ⟨ds, e3, ee⟩ := bindSome ee
  obtain ⟨_, e4, ee⟩ := bindSome ee
  obtain ⟨ms2, e5, ee⟩ := mapSome ee
  subst ee
  unfold Rx.chg at e5
  obtain ⟨m, e6, e7⟩ := bindSome e5
  obtain ⟨m', e8, e9⟩ := mapSome e7
  subst e9
  obtain ⟨ks0, cs0, ed⟩ := dcAt_ok e0
  obtain ⟨ov, La, Lb, hv, ow, _⟩ := R.own.cut ed
  cases ow with
  | @dct a0 _ _ vs0 Lk0 ha0 hl0 rs0 =>
    refine ⟨_, hv, .inr (.inr (.inl ⟨rfl, .inl ⟨_, ha0⟩⟩)), tE.go R e1 fun y F1 H1 L1 M g => ?_⟩
    obtain ⟨F2, dt, R2, E2⟩ := g.frz1 e2
    cases d with
    | list xs =>
      cases e3
      cases dt with
      | @lst al _ vs hal hdt =>
        cases m with
        | dct ks cs =>
          have e8 : ((valsOf cs).bind fun vs => (pairsK ds).bind fun ps => if ks.length + ps.length ≤ lim then
            some (MV.dct ((mergeA (ks.zip vs) (mergeA [] ps)).map (·.1)) ((mergeA (ks.zip vs) (mergeA [] ps)).map fun kv => .val kv.2)) else none) = some m' := e8
          obtain ⟨ws, f1, f2⟩ := bindSome e8
          obtain ⟨ps, f3, f4⟩ := bindSome f2
          split at f4
          · rename_i hlim
            cases f4
            obtain ⟨as, kvs, w1, w2, w3⟩ := pairsK_v (K := X.K) R2.sub f3 hdt
            subst w1
            refine ⟨al, as, kvs, rfl, SqL.of (R2.sub _ _ hal), w2, fun p hpn => ?_⟩
            have R3 := R2.newO (o := .dK (mergeK [] kvs)) hpn
            have E3 : Ext F2 H1 L1 F2 (upd H1 p (.dK (mergeK [] kvs))) L1 := ⟨Sub.refl F2, fun x u q _ => by rw [upd_ne (ne_of_none q hpn)]; exact q, fun _ _ _ n => n, fun _ _ _ _ => rfl⟩
            obtain ⟨v3, L3, h1, h2, h3, h4, h5⟩ := R3.chg (M := []) (joinSome e6) List.nodup_nil (fun _ z => by cases z)
            rw [hv] at h1; cases h1
            cases h2 with
            | @dct _ _ _ vs1 Lk1 ha1 hl1 rs1 =>
              obtain ⟨t1, t2⟩ := valsOf_dt f1 rs1
              subst t2
              have hne : a0 ≠ p := fun z => by
                obtain ⟨v4, L5, L6, y1, y2, _⟩ := R2.own.cut (joinSome e6)
                rw [hv] at y1; cases y1
                cases y2 with
                | dct y3 _ _ => rw [z, hpn] at y3; cases y3
              have kd := KD.merge (w3.merge .nil) (KD.zip (ks := ks) t1)
              have z0 : (mergeK [] kvs).length ≤ ps.length := by rw [w3.len]; exact Nat.le_trans (length_mergeK kvs []) (by simp)
              have z1 : (ks.zip vs1).length = ks.length := by rw [List.length_zip, hl1, Nat.min_self]
              refine ⟨a0, p, ks.zip vs1, mergeK [] kvs, rfl, rfl, hne, ha1, upd_same, ?_, ?_⟩
              · rw [z1]; exact lim_le (Nat.le_trans (Nat.add_le_add_left z0 _) hlim)
              · obtain ⟨L', w4, w5⟩ := h5 (o' := .dct ((mergeA (ks.zip ws) (mergeA [] ps)).map (·.1)) ((mergeA (ks.zip ws) (mergeA [] ps)).map fun kv => .val kv.2)) (La' := [a0]) (by
                  refine .dct (by rw [← kd.fsts]; exact upd_same) ?_ kd.snds
                  rw [List.length_map, List.length_map, kd.len]) h3 (fun b hb => .inl hb) (upd_off (List.mem_singleton.mpr rfl))
                rw [List.append_nil] at w5
                exact k _ _ _ _ w4 ((E2.trans E3).trans w5) (Keep.refl _ _)
          · cases f4
        | _ => exact nomatch (show none = some m' from e8)
    | _ => cases e4
end
end Rx
/-! Rx, more: tables whose keys are tuples. -/
namespace Rx
open PySem PySem.Spec L2 PyProof.Rows
/-! ### keys -/
mutual
theorem nk_data : ∀ {d : PyData} {k : NestedKey}, nkOf d = some k → k.data = d ∧ noText k = true
  | .int i, k, e => by unfold nkOf at e; cases e; exact ⟨by rw [NestedKey.data], by rw [noText]⟩
  | .none, k, e => by unfold nkOf at e; cases e; exact ⟨by rw [NestedKey.data], by rw [noText]⟩
  | .tuple ds, k, e => by
    unfold nkOf at e
    obtain ⟨ks, e1, rfl⟩ := mapSome e
    obtain ⟨h1, h2⟩ := nks_data e1
    exact ⟨by rw [NestedKey.data, h1], by rw [noText]; exact h2⟩
  | .bool _, k, e => by unfold nkOf at e; cases e
  | .str _, k, e => by unfold nkOf at e; cases e
  | .list _, k, e => by unfold nkOf at e; cases e
  | .dict _, k, e => by unfold nkOf at e; cases e
theorem nks_data : ∀ {ds : List PyData} {ks : List NestedKey}, nksOf ds = some ks → NestedKey.datas ks = ds ∧ noTexts ks = true
  | [], ks, e => by unfold nksOf at e; cases e; exact ⟨by rw [NestedKey.datas], by rw [noTexts]⟩
  | d :: ds, ks, e => by
    unfold nksOf at e
    obtain ⟨k, e1, e2⟩ := bindSome e
    obtain ⟨ks', e3, rfl⟩ := mapSome e2
    obtain ⟨h1, h2⟩ := nk_data e1
    obtain ⟨h3, h4⟩ := nks_data e3
    exact ⟨by rw [NestedKey.datas, h1, h3], by rw [noTexts, h2, h4]; rfl⟩
end
theorem keyN_at {F : Hp} {d : PyData} {k : NestedKey} {v : V} (e : keyN d = some k) (r : Dt F d v) : ∃ b, v = .ref b ∧ KeyAt F k b := by
  unfold keyN at e
  split at e
  · obtain ⟨ks, e1, e2⟩ := bindSome e
    split at e2
    · rename_i hd
      cases e2
      obtain ⟨h1, h2⟩ := nks_data e1
      cases r with
      | tup h q => exact ⟨_, rfl, by rw [NestedKey.data, h1]; exact .tup h q, hd, by rw [noText]; exact h2⟩
    · cases e2
  · cases e
mutual
theorem hash_any (w w' : World) : ∀ {k : NestedKey}, noText k = true → k.hash w = k.hash w'
  | .none, _ => by rw [NestedKey.hash, NestedKey.hash]
  | .num _, _ => by rw [NestedKey.hash, NestedKey.hash]
  | .text _, h => by rw [noText] at h; cases h
  | .tup ks, h => by rw [noText] at h; rw [NestedKey.hash, NestedKey.hash, hashes_any w w' h]
theorem hashes_any (w w' : World) : ∀ {ks : List NestedKey}, noTexts ks = true → NestedKey.hashes w ks = NestedKey.hashes w' ks
  | [], _ => by rw [NestedKey.hashes, NestedKey.hashes]
  | k :: ks, h => by
    rw [noTexts, Bool.and_eq_true] at h
    rw [NestedKey.hashes, NestedKey.hashes, hash_any w w' h.1, hashes_any w w' h.2]
end
theorem entries_any (p p' : Program) (w w' : World) {xs : List (NestedKey × Addr × Value)} (h : ∀ x ∈ xs, noText x.1 = true) : xs.map (entryOfKey (nestedKind p w)) = xs.map (entryOfKey (nestedKind p' w')) := by
  refine List.map_congr_left fun x hx => ?_
  show (⟨x.1.hash w, .ref x.2.1, x.2.2⟩ : DictEntry) = ⟨x.1.hash w', .ref x.2.1, x.2.2⟩
  rw [hash_any w w' (h x hx)]
section
variable {pins : List (Addr × Obj)} {X : Cx} {σ : L2.St} {F H : Hp} {s : Shared}
mutual
theorem key_is (I : Inv X pins σ H s) (hs : Sub F H) : ∀ {k : NestedKey} {v : V} {u : Value}, noText k = true → Dt F k.data v → RelV v u → NestedIs s.heap k u
  | .none, v, u, _, d, r => by
    rw [NestedKey.data] at d
    cases d
    cases r
    exact .none
  | .num i, v, u, _, d, r => by
    rw [NestedKey.data] at d
    cases d
    obtain ⟨t, rfl⟩ := r
    exact .int i t
  | .text _, v, u, h, _, _ => by rw [noText] at h; cases h
  | .tup ks, v, u, h, d, r => by
    rw [noText] at h
    rw [NestedKey.data] at d
    cases d with
    | @tup a _ vs h1 q =>
      cases r
      obtain ⟨its, rv, ⟨o, ho, hc, n, hd⟩, _⟩ := I.tuple (h1.mono hs).sq
      exact .tup ho hc hd (by rw [List.toList_toArray]; exact keys_are I hs h q rv)
theorem keys_are (I : Inv X pins σ H s) (hs : Sub F H) : ∀ {ks : List NestedKey} {vs : List V} {us : List Value}, noTexts ks = true → DtAll F (NestedKey.datas ks) vs → Vals vs us → NestedAll s.heap ks us
  | [], vs, us, _, d, r => by
    rw [NestedKey.datas] at d
    cases d
    cases r
    exact .nil
  | k :: ks, vs, us, h, d, r => by
    rw [noTexts, Bool.and_eq_true] at h
    rw [NestedKey.datas] at d
    cases d with
    | cons d1 d2 =>
      cases r with
      | cons r1 r2 => exact .cons (key_is I hs h.1 d1 r1) (keys_are I hs h.2 d2 r2)
end
theorem KeyAt.is (I : Inv X pins σ H s) (hs : Sub F H) {k : NestedKey} {b : Addr} (x : KeyAt F k b) : (nestedKind X.prog X.w).is s.heap k b := ⟨key_is I hs x.2.2 x.1 rfl, x.2.1⟩
/-! ### what stands in the heap -/
theorem raw_ok {P : Program} {w : World} {h : Heap} {a : Addr} {xs : List (NestedKey × Addr × Value)} (hd : (a == sysModules) = false) (hx : ∀ x ∈ xs, noText x.1 = true) (m : h.DictOfH (nestedKind P w) a xs) {H : Hp} : ObjOk P w H h a (rawD a xs) := by
  obtain ⟨o, es, ep, ho, hc, hdat, he, _, _⟩ := m
  exact ⟨⟨hd, o, es, ep, ho, hc, hdat, fun p w' => by rw [he, entries_any P p w w' hx]⟩, ⟨o, ho⟩, fun h1 h2 x k => by
    obtain ⟨y0, o', es', ep', y1, y2, y3, y4⟩ := x
    exact ⟨y0, o', es', ep', k _ y1, y2, y3, y4⟩⟩
theorem Tks.keys : ∀ {kvs : List (NestedKey × PyData)} {xs : List (NestedKey × Addr × Value)}, Tks F kvs xs → xs.map (·.1) = kvs.map Prod.fst
  | _, _, .nil => rfl
  | _, _, .cons _ _ _ t => by rw [List.map_cons, List.map_cons, t.keys]
theorem Tks.len {kvs : List (NestedKey × PyData)} {xs : List (NestedKey × Addr × Value)} (t : Tks F kvs xs) : xs.length = kvs.length := by
  have := congrArg List.length t.keys
  rwa [List.length_map, List.length_map] at this
theorem Tks.all : ∀ {kvs : List (NestedKey × PyData)} {xs : List (NestedKey × Addr × Value)}, Tks F kvs xs → ∀ x ∈ xs, KeyAt F x.1 x.2.1
  | _, _, .nil, x, h => by cases h
  | _, _, .cons a _ _ t, x, h => by
    rcases List.mem_cons.mp h with rfl | h
    · exact a
    · exact t.all x h
theorem dtt_heap (I : Inv X pins σ H s) (hs : Sub F H) {a : Addr} {kvs : List (NestedKey × PyData)} {xs : List (NestedKey × Addr × Value)} (ha : H a = some (rawD a xs)) (t : Tks F kvs xs) (n : (kvs.map Prod.fst).Nodup) :
    s.heap.DictOfH (nestedKind X.prog X.w) a xs ∧ (a == sysModules) = false := by
  obtain ⟨⟨h0, o, es, ep, ho, hc, hd, he⟩, _, _⟩ := (show ObjOk X.prog X.w H s.heap a (rawD a xs) from I.hok a _ ha)
  exact ⟨⟨o, es, ep, ho, hc, hd, he X.prog X.w, fun x hx => (t.all x hx).is I hs, by rw [t.keys]; exact n⟩, h0⟩
/-! ### reading and storing -/
theorem beq_iff (a b : NestedKey) : NestedKey.beq a b = true ↔ a = b := ⟨NestedKey.eq_of_beq a b, fun h => by rw [h]; exact NestedKey.beq_self b⟩
theorem Tks.get : ∀ {kvs : List (NestedKey × PyData)} {xs : List (NestedKey × Addr × Value)} (k : NestedKey), Tks F kvs xs → (∀ d, getN kvs k = some d → ∃ p v, atKey xs k = some p ∧ RelV v p.2 ∧ Dt F d v) ∧ (getN kvs k = none → atKey xs k = none)
  | _, _, k, .nil => ⟨fun d e => (by cases e), fun _ => rfl⟩
  | _, _, k, .cons (k := q) (d := d0) (b := b) (v := v) (u := u) (r := r0) (r' := r') a x y t => by
    by_cases h : q = k
    · subst h
      have e : getN ((q, d0) :: r0) q = some d0 := by unfold getN; rw [if_pos (NestedKey.beq_self q)]
      have e2 : atKey ((q, b, u) :: r') q = some (b, u) := by simp [atKey]
      exact ⟨fun d z => by rw [e] at z; cases z; exact ⟨_, v, e2, y, x⟩, fun z => by rw [e] at z; cases z⟩
    · have hb : ¬ NestedKey.beq q k = true := fun z => h (NestedKey.eq_of_beq _ _ z)
      have e : getN ((q, d0) :: r0) k = getN r0 k := by rw [getN, if_neg hb]
      have e2 : atKey ((q, b, u) :: r') k = atKey r' k := by simp [atKey, List.find?_cons, h]
      rw [e, e2]
      exact t.get k
theorem hasN_get (k : NestedKey) : ∀ kvs : List (NestedKey × PyData), hasN kvs k = (getN kvs k).isSome
  | [] => rfl
  | kv :: r => by
    unfold hasN getN
    rw [List.any_cons]
    by_cases h : NestedKey.beq kv.1 k = true
    · rw [h, if_pos rfl]; rfl
    · rw [if_neg h, Bool.not_eq_true] at *
      rw [h, Bool.false_or]
      exact hasN_get k r
theorem Tks.has {kvs : List (NestedKey × PyData)} {xs : List (NestedKey × Addr × Value)} (k : NestedKey) (t : Tks F kvs xs) : (atKey xs k).isSome = hasN kvs k := by
  rw [hasN_get]
  obtain ⟨h1, h2⟩ := t.get k
  cases e : getN kvs k with
  | none => rw [h2 e]; rfl
  | some d =>
    obtain ⟨p, v, e1, _⟩ := h1 d e
    rw [e1]
    rfl
theorem Tks.repl {k : NestedKey} {d : PyData} {v : V} {u : Value} (r : Dt F d v) (ru : RelV v u) : ∀ {kvs : List (NestedKey × PyData)} {xs : List (NestedKey × Addr × Value)}, Tks F kvs xs →
    Tks F (kvs.map fun kv => if NestedKey.beq kv.1 k = true then (kv.1, d) else kv) (xs.map (putAt k u))
  | _, _, .nil => .nil
  | _, _, .cons (k := q) (d := d0) (b := b) (u := u0) a x y t => by
    rw [List.map_cons, List.map_cons]
    by_cases h : q = k
    · have e : putAt k u (q, b, u0) = (q, b, u) := by unfold putAt; rw [if_pos h]
      rw [if_pos ((beq_iff q k).mpr h), e]
      exact .cons a r ru (Tks.repl r ru t)
    · have e : putAt k u (q, b, u0) = (q, b, u0) := by unfold putAt; rw [if_neg h]
      rw [if_neg (fun z => h ((beq_iff q k).mp z)), e]
      exact .cons a x y (Tks.repl r ru t)
theorem Tks.app : ∀ {kvs kvs' : List (NestedKey × PyData)} {xs xs' : List (NestedKey × Addr × Value)}, Tks F kvs xs → Tks F kvs' xs' → Tks F (kvs ++ kvs') (xs ++ xs')
  | _, _, _, _, .nil, s => s
  | _, _, _, _, .cons a x y t, s => .cons a x y (t.app s)
theorem Tks.put {kvs : List (NestedKey × PyData)} {xs : List (NestedKey × Addr × Value)} {k : NestedKey} {b : Addr} {d : PyData} {v : V} {u : Value} (t : Tks F kvs xs) (kb : KeyAt F k b) (r : Dt F d v) (ru : RelV v u) : Tks F (putN kvs k d) (storedH xs k b u) := by
  unfold putN storedH
  rw [t.has k]
  split
  · exact t.repl r ru
  · exact t.app (.cons kb r ru .nil)
theorem put_keys (kvs : List (NestedKey × PyData)) (k : NestedKey) (d : PyData) (n : (kvs.map Prod.fst).Nodup) : ((putN kvs k d).map Prod.fst).Nodup ∧ (putN kvs k d).length ≤ kvs.length + 1 := by
  unfold putN
  split
  · refine ⟨?_, by rw [List.length_map]; omega⟩
    have e : (kvs.map fun kv => if NestedKey.beq kv.1 k = true then (kv.1, d) else kv).map Prod.fst = kvs.map Prod.fst := by
      rw [List.map_map]
      refine List.map_congr_left fun x _ => ?_
      show (if NestedKey.beq x.1 k = true then (x.1, d) else x).1 = x.1
      split <;> rfl
    rw [e]
    exact n
  · rename_i h
    refine ⟨?_, by rw [List.length_append]; simp⟩
    rw [List.map_append]
    refine List.nodup_append.mpr ⟨n, by simp, fun a ha b hb z => h ?_⟩
    have hb : b = k := by simpa using hb
    obtain ⟨x, hx, rfl⟩ := List.mem_map.mp ha
    exact List.any_eq_true.mpr ⟨x, hx, (beq_iff _ _).mpr (z.trans hb)⟩
theorem Tks.merge : ∀ {more : List (NestedKey × PyData)} {mores : List (NestedKey × Addr × Value)} {kvs : List (NestedKey × PyData)} {xs : List (NestedKey × Addr × Value)}, Tks F more mores → Tks F kvs xs → Tks F (mergeN kvs more) (storedAllH xs mores)
  | _, _, _, _, .nil, s => s
  | _, _, _, _, .cons a x y t, s => by
    unfold mergeN storedAllH
    rw [List.foldl_cons, List.foldl_cons]
    exact t.merge (s.put a x y)
theorem merge_keys : ∀ (more kvs : List (NestedKey × PyData)), (kvs.map Prod.fst).Nodup → ((mergeN kvs more).map Prod.fst).Nodup ∧ (mergeN kvs more).length ≤ kvs.length + more.length
  | [], kvs, n => ⟨n, Nat.le_refl _⟩
  | p :: r, kvs, n => by
    obtain ⟨h1, h2⟩ := put_keys kvs p.1 p.2 n
    obtain ⟨h3, h4⟩ := merge_keys r (putN kvs p.1 p.2) h1
    refine ⟨h3, ?_⟩
    show (mergeN (putN kvs p.1 p.2) r).length ≤ _
    rw [List.length_cons]
    omega
theorem dttOf_some {o : MV} {kvs : List (NestedKey × PyData)} (e : dttOf o = some kvs) : o = .dtt kvs := by
  unfold dttOf at e
  split at e
  · cases e; rfl
  · cases e
theorem dtAt_ok {ms : MEnv} {i : Nat} {u : Unit} (h : dtAt ms i = some u) : ∃ kvs, ms[i]? = some (some (.dtt kvs)) := by
  unfold dtAt at h
  split at h
  · rename_i kvs e; exact ⟨kvs, joinSome e⟩
  · cases h
end
end Rx
/-! Rx, more: tables whose keys are tuples: what is done with them. -/
namespace Rx
open PySem PySem.Spec L2 PyProof.Rows
open PySem.W (EachIs dataLe AllAlike)
/-- a table at a -/
def DtH (F H : Hp) (a : Addr) (kvs : List (NestedKey × PyData)) : Prop := Sub F H ∧ ∃ xs, H a = some (rawD a xs) ∧ Tks F kvs xs ∧ (kvs.map Prod.fst).Nodup ∧ kvs.length ≤ lim
/-- a table at a, or one that is locked there -/
def DtR (F H : Hp) (a : Addr) (kvs : List (NestedKey × PyData)) : Prop := Sub F H ∧ ∃ xs, (H a = some (rawD a xs) ∨ ∃ o, H a = some (.frz o (rawD a xs))) ∧ Tks F kvs xs ∧ (kvs.map Prod.fst).Nodup ∧ kvs.length ≤ lim
theorem lim_line {n : Nat} (h : n ≤ lim) : n ≤ sizeLine := by rw [sizeLine_eq]; have : lim = 1000000 := rfl; omega
section
variable {pins : List (Addr × Obj)} {X : Cx} {σ : L2.St} {F H : Hp} {s : Shared} {a b : Addr} {kvs : List (NestedKey × PyData)} {nk : NestedKey}
theorem DtR.heap (h : DtR F H a kvs) (I : Inv X pins σ H s) : ∃ xs, Tks F kvs xs ∧ s.heap.DictOfH (nestedKind X.prog X.w) a xs ∧ (a == sysModules) = false ∧ kvs.length ≤ sizeLine := by
  obtain ⟨hs, xs, ha, t, n, l⟩ := h
  have z : (a == sysModules) = false ∧ ∃ o es ep, s.heap.get? a = some o ∧ o.ExactDict ∧ o.data = .dict es ep ∧ ∀ (p : Program) (w : World), es.toList = xs.map (entryOfKey (nestedKind p w)) := by
    rcases ha with ha | ⟨o, ha⟩
    · exact (show ObjOk X.prog X.w H s.heap a (rawD a xs) from I.hok a _ ha).1
    · exact (show ObjOk X.prog X.w H s.heap a (.frz o (rawD a xs)) from I.hok a _ ha).2.1
  obtain ⟨h0, o, es, ep, ho, hc, hd, he⟩ := z
  exact ⟨xs, t, ⟨o, es, ep, ho, hc, hd, he X.prog X.w, fun x hx => (t.all x hx).is I hs, by rw [t.keys]; exact n⟩, h0, lim_line l⟩
theorem rtOf_own {K : PySem.W.Frag} {o : MV} {kvs : List (NestedKey × PyData)} {v : V} {L : List Addr} (e : rtOf o = some kvs) (hs : Sub F H) (w : Own K F H o v L) : ∃ a, v = .ref a ∧ DtR F H a kvs := by
  unfold rtOf at e
  split at e
  · cases e
    cases w with
    | @dtt a _ xs ha t n => exact ⟨a, rfl, hs, xs, .inl ha, t, n⟩
  · cases e
    cases w with
    | @fdt a o _ xs ha t n => exact ⟨a, rfl, hs, xs, .inr ⟨o, hs _ _ ha⟩, t, n⟩
  · cases e
theorem rtAt_ok {ms : MEnv} {i : Nat} {u : Unit} (h : rtAt ms i = some u) : ∃ m kvs, ms[i]? = some (some m) ∧ rtOf m = some kvs := by
  unfold rtAt at h
  obtain ⟨m, h1, h2⟩ := bindSome h
  obtain ⟨kvs, h3, _⟩ := mapSome h2
  exact ⟨m, kvs, joinSome h1, h3⟩
theorem DtH.heap (h : DtH F H a kvs) (I : Inv X pins σ H s) : ∃ xs, Tks F kvs xs ∧ s.heap.DictOfH (nestedKind X.prog X.w) a xs ∧ (a == sysModules) = false ∧ kvs.length ≤ sizeLine := by
  obtain ⟨hs, xs, ha, t, n, l⟩ := h
  obtain ⟨m, hd⟩ := dtt_heap I hs ha t n
  exact ⟨xs, t, m, hd, lim_line l⟩
end
section
variable {Φ : Funs} {c : Cfg} {X : Cx} {K : PySem.W.Frag} {σ : L2.St} {prot : List Nat}
theorem room_in1 (hu : X.A.units + 70 < cLine) : (nestedKind X.prog X.w).room X.A.in1 := by
  show X.A.units + 1 + 8 < cLine
  omega
/-- {} -/
theorem pe_tmkE {pos : Pos} : PE X (.Dict [] [] pos) (tE X.K (evE Φ .tmk)) := ⟨fun pins s σ H Q I q => by
  obtain ⟨F, L, ms, m, ms', R, e, k⟩ := q
  unfold evE at e
  cases e
  have hp := I.hok.fresh (Nat.le_refl s.heap.objs.size)
  have hm : (s.heap.objs.size == sysModules) = false := beq_eq_false_iff_ne.mpr (Nat.ne_of_gt I.big)
  refine wpAny_Dict_empty ⟨.ref s.heap.objs.size, _, I.laid (a := s.heap.objs.size) (o := rawD s.heap.objs.size []) (t' := s.toks) (fun _ _ q => Heap.get?_push_of_some _ q) (Nat.le_refl _) (raw_ok (P := X.prog) (w := X.w) hm (fun x hx => by cases hx) (Heap.DictOfH.new s.heap)), rfl, ?_⟩
  have R0 := R.newO (o := rawD s.heap.objs.size []) hp
  have off := R.fresh hp
  refine k (.ref s.heap.objs.size) F _ L [s.heap.objs.size] ⟨R0, .one (.dtt upd_same .nil ⟨.nil, Nat.zero_le _⟩), (by simp), fun a ha => ?_, ?_⟩
  · rw [List.mem_singleton.mp ha]
    exact ⟨R.sub.off hp, off⟩
  · exact (Ext.newO hp).mem (fun x hx => hx) (fun x o e n z => by
      rcases List.mem_append.mp z with z | z
      · exact n z
      · rw [List.mem_singleton.mp z, hp] at e; cases e)⟩
/-- x[k] -/
theorem pe_trdE (G : Good Φ c X) {i : Nat} {x : Str} {p pos : Pos} {k : IE} {ke : Expr} (h : nameB c i x = true) (hk : PE X ke (tE X.K (evE Φ k))) (hs : noSlice ke = true) : PE X (.Subscript (.Name x p) ke pos) (tE X.K (evE Φ (.trd i k))) := by
  have hu : X.A.units + 70 < cLine := by have := G.un; omega
  have pe : PE X (.Subscript (.Name x p) ke pos) (fun σ H Q => tVar i σ H fun x H1 => tE X.K (evE Φ k) σ H1 fun y H2 => ∃ F a kvs b nk d, x = V.ref a ∧ y = V.ref b ∧ DtR F H2 a kvs ∧ KeyAt F nk b ∧ getN kvs nk = some d ∧ ∀ v, Dt F d v → Q v H2) := by
    refine ⟨fun pins s σ H Q I h0 => ?_⟩
    refine subD_of PySem.F.slot_dict_getitem.lookup (noSl hs) (thn ((pe_name G h).run pins s σ H _ I h0) fun u s1 ⟨x, H1, I1, rx, q1⟩ => thn (hk.run pins s1 σ H1 _ I1 q1) fun iv s2 ⟨y, H2, I2, ry, F, a, kvs, b, nk, d, ex, ey, dh, kb, g, q2⟩ => ?_)
    subst ex ey
    obtain rfl : u = Value.ref a := rx
    obtain rfl : iv = Value.ref b := ry
    obtain ⟨xs, t, m, hd, _⟩ := dh.heap I2
    obtain ⟨pv, v, e1, rv, dv⟩ := (t.get nk).1 d g
    exact ⟨m.typeIs, wpAny_getItem_heap (room_in1 hu) (kb.is I2 dh.1) m e1 ⟨v, H2, I2.tok _, rv, q2 v dv⟩⟩
  refine pe.of fun σ H Q q => ?_
  obtain ⟨F, L, ms, mm, ms', R, e, kk⟩ := q
  unfold evE at e
  obtain ⟨_, e0, e⟩ := bindSome e
  obtain ⟨⟨q, ms1⟩, e1, e⟩ := bindSome e
  obtain ⟨kd, e2, e⟩ := bindSome e
  obtain ⟨nk, e3, e⟩ := bindSome e
  obtain ⟨o, e4, e⟩ := bindSome e
  obtain ⟨kvs, e5, e⟩ := bindSome e
  obtain ⟨d, e6, e⟩ := mapSome e
  cases e
  obtain ⟨m0, kvs0, ed, er⟩ := rtAt_ok e0
  obtain ⟨ov, La, Lb, hv, ow, _⟩ := R.own.cut ed
  obtain ⟨a, rfl, _⟩ := rtOf_own er R.sub ow
  refine ⟨.ref a, hv, tE.go R e1 fun y F1 H1 L1 M g => ?_⟩
  obtain ⟨F2, dk, R2, E2⟩ := g.frz1 e2
  obtain ⟨b, rfl, kb⟩ := keyN_at e3 dk
  obtain ⟨v0, La2, Lb2, h1, h2, _⟩ := R2.own.cut (joinSome e4)
  rw [hv] at h1; cases h1
  obtain ⟨a', ea, dr⟩ := rtOf_own e5 R2.sub h2
  cases ea
  exact ⟨F2, a, kvs, b, nk, d, rfl, rfl, dr, kb, e6, fun v dv => kk _ _ _ _ _ (Got.of R2 E2 dv)⟩
/-- k in x, k not in x -/
def rTin (neg : Bool) : R2 := fun y x H Q => ∃ F a kvs b nk, x = V.ref a ∧ y = V.ref b ∧ DtH F H a kvs ∧ KeyAt F nk b ∧ Q (.bl (xor neg (hasN kvs nk))) H
theorem op_tin (hu : X.A.units + 70 < cLine) : ∀ neg : Bool, OpR X (compareOp (if neg = true then .NotIn else .In)) (rTin neg)
  | true => fun pins s σ H y x u v Q I ry rx h => by
    obtain ⟨F, a, kvs, b, nk, rfl, rfl, dh, kb, q⟩ := h
    cases rx
    cases ry
    obtain ⟨xs, t, m, hd, _⟩ := dh.heap I
    refine wpAny_notIn_heap (room_in1 hu) (kb.is I dh.1) hd m ⟨.bl (!hasN kvs nk), H, I.tok _, by rw [t.has nk]; rfl, ?_⟩
    rw [Bool.true_xor] at q
    exact q
  | false => fun pins s σ H y x u v Q I ry rx h => by
    obtain ⟨F, a, kvs, b, nk, rfl, rfl, dh, kb, q⟩ := h
    cases rx
    cases ry
    obtain ⟨xs, t, m, hd, _⟩ := dh.heap I
    refine wpAny_in_heap (room_in1 hu) (kb.is I dh.1) hd m ⟨.bl (hasN kvs nk), H, I.tok _, by rw [t.has nk]; rfl, ?_⟩
    rw [Bool.false_xor] at q
    exact q
theorem tin_go {neg : Bool} {a : IE} {i : Nat} {H : Hp} {Q : VK} (q : tE K (evE Φ (.tin neg a i)) σ H Q) : tOp (rTin neg) (tE K (evE Φ a)) (tVar i) σ H Q := by
  obtain ⟨F, L, ms, m, ms', R, e, k⟩ := q
  unfold evE at e
  obtain ⟨⟨v, ms1⟩, e1, e⟩ := bindSome e
  obtain ⟨kd, e2, e⟩ := bindSome e
  obtain ⟨nk, e3, e⟩ := bindSome e
  obtain ⟨o, e4, e⟩ := bindSome e
  obtain ⟨kvs, e5, e⟩ := mapSome e
  cases e
  cases dttOf_some e5
  refine tE.go R e1 fun y F1 H1 L1 M g => ?_
  obtain ⟨F2, dk, R2, E2⟩ := g.frz1 e2
  obtain ⟨b, rfl, kb⟩ := keyN_at e3 dk
  obtain ⟨v0, La2, Lb2, h1, h2, _⟩ := R2.own.cut (joinSome e4)
  cases h2 with
  | @dtt a _ xs ha t n => exact ⟨_, h1, F2, a, kvs, b, nk, rfl, rfl, ⟨R2.sub, xs, ha, t, n⟩, kb, k _ _ _ _ _ (Got.of R2 E2 (.bl _))⟩
theorem pe_tinE (G : Good Φ c X) {neg : Bool} {a : IE} {i : Nat} {e : Expr} {x : Str} {p pos : Pos} (he : PE X e (tE X.K (evE Φ a))) (h : nameB c i x = true) : PE X (.Compare e [if neg = true then .NotIn else .In] [.Name x p] pos) (tE X.K (evE Φ (.tin neg a i))) :=
  (pe_cmpR (op_tin (by have := G.un; omega) neg) he (pe_name G h) (by cases neg <;> rfl)).of fun _ _ _ q => tin_go q
theorem pt_tinE (G : Good Φ c X) {neg : Bool} {a : IE} {i : Nat} {e : Expr} {x : Str} {p pos : Pos} (he : PE X e (tE X.K (evE Φ a))) (h : nameB c i x = true) : PT X (.Compare e [if neg = true then .NotIn else .In] [.Name x p] pos) (tT X.K (evE Φ (.tin neg a i))) :=
  (pt_cmpR (op_tin (by have := G.un; omega) neg) he (pe_name G h) (by cases neg <;> rfl)).of fun _ _ _ q => tin_go (tT_val q)
/-- x.get(k) -/
theorem pe_tgetE (G : Good Φ c X) {i : Nat} {x : Str} {k : IE} {ke : Expr} {p ap cp : Pos} (h : nameB c i x = true) (hk : PE X ke (tE X.K (evE Φ k))) (pk : plainE ke = true) (hl : (ap.endLine == cp.line) = true) :
    PE X (.Call (.Attribute (.Name x p) "get" ap) [ke] [] cp) (tE X.K (evE Φ (.tget i k))) := by
  have hu : X.A.units + 70 < cLine := by have := G.un; omega
  have m : M1 X (.Name x p) "get" ap ke cp := ⟨rfl, by rw [star_cons pk]; rfl, hl, by rw [star_cons pk]; rfl⟩
  have pe : PE X (.Call (.Attribute (.Name x p) "get" ap) [ke] [] cp) (fun σ H Q => tVar i σ H fun x H1 => ∃ a, x = V.ref a ∧ (∃ F kvs, DtH F H1 a kvs) ∧ tE X.K (evE Φ k) σ H1 fun y H2 => ∃ F kvs b nk, y = V.ref b ∧ DtH F H2 a kvs ∧ KeyAt F nk b ∧ ∀ v, Dt F ((getN kvs nk).getD .none) v → Q v H2) := by
    refine ⟨fun pins s σ H Q I h0 => ?_⟩
    refine wpAny_Call_method m.base m.few m.line PySem.F.plainAttrs_dict PySem.F.slot_dict_get PySem.F.type_dict_get (thn ((pe_name G h).run pins s σ H _ I h0) fun u s1 ⟨x, H1, I1, rx, a, ex, ⟨F0, kvs0, d0⟩, q1⟩ => ?_)
    subst ex
    obtain rfl : u = Value.ref a := rx
    obtain ⟨xs0, _, m0, _, _⟩ := d0.heap I1
    refine ⟨m0.typeIs, fun b q => ?_, ?_⟩
    · cases q
      obtain ⟨ob, _, _, h1, h2, _⟩ := m0
      exact ⟨ob, h1, h2.2.1⟩
    rw [m.trees]
    refine Calls.callWith_builtin rfl (Calls.evalArgs_plain (Calls.spliced_cons (thn (hk.run pins s1 σ H1 _ I1 q1) fun iv s2 ⟨y, H2, I2, ry, F, kvs, b, nk, ey, dh, kb, q2⟩ => Calls.spliced_nil ?_)))
    subst ey
    obtain rfl : iv = Value.ref b := ry
    obtain ⟨xs, t, m1, hd, _⟩ := dh.heap I2
    refine call_meetsIn PySem.F.slot_dict_get m1.typeIs PySem.F.entry_dict_get (PySem.F.args_dict_get_2 _ _) (meetsH_dict_get (nestedKind X.prog X.w) a b hd) ⟨room_in1 hu, nk, xs, kb.is I2 dh.1, m1, ?_⟩
    obtain ⟨g1, g2⟩ := t.get nk
    cases e : getN kvs nk with
    | none =>
      rw [e] at q2
      rw [g2 e]
      exact ⟨.non, H2, I2.tok _, rfl, q2 _ .non⟩
    | some d =>
      rw [e] at q2
      obtain ⟨pv, v, e1, rv, dv⟩ := g1 d e
      rw [e1]
      exact ⟨v, H2, I2.tok _, rv, q2 v dv⟩
  refine pe.of fun σ H Q q => ?_
  obtain ⟨F, L, ms, mm, ms', R, e, kk⟩ := q
  unfold evE at e
  obtain ⟨_, e0, e⟩ := bindSome e
  obtain ⟨⟨q, ms1⟩, e1, e⟩ := bindSome e
  obtain ⟨kd, e2, e⟩ := bindSome e
  obtain ⟨nk, e3, e⟩ := bindSome e
  obtain ⟨o, e4, e⟩ := bindSome e
  obtain ⟨kvs, e5, e⟩ := mapSome e
  cases e
  obtain ⟨kvs0, ed⟩ := dtAt_ok e0
  obtain ⟨ov, La, Lb, hv, ow, _⟩ := R.own.cut ed
  cases dttOf_some e5
  cases ow with
  | @dtt a _ xs0 ha0 t0 n0 =>
    refine ⟨.ref a, hv, a, rfl, ⟨F, kvs0, R.sub, xs0, ha0, t0, n0⟩, tE.go R e1 fun y F1 H1 L1 M g => ?_⟩
    obtain ⟨F2, dk, R2, E2⟩ := g.frz1 e2
    obtain ⟨b, rfl, kb⟩ := keyN_at e3 dk
    obtain ⟨v0, La2, Lb2, h1, h2, _⟩ := R2.own.cut (joinSome e4)
    rw [hv] at h1; cases h1
    cases h2 with
    | @dtt _ _ xs ha t n => exact ⟨F2, kvs, b, nk, rfl, ⟨R2.sub, xs, ha, t, n⟩, kb, fun v dv => kk _ _ _ _ _ (Got.of R2 E2 dv)⟩
/-- len(x) -/
theorem call_lenN : CallR X (.builtin "len") (fun xs H Q => ∃ F a kvs, xs = [V.ref a] ∧ DtH F H a kvs ∧ Q (.int (kvs.length : Nat)) H) := by
  intro pins s σ H xs us Q I r h
  obtain ⟨F, a, kvs, rfl, dh, q⟩ := h
  obtain ⟨u, rfl, ru⟩ := vals1 r
  cases ru
  obtain ⟨ys, t, m, hd, hl⟩ := dh.heap I
  refine call_len_dictH hd m (by rw [t.len]; rw [sizeLine_eq] at hl; omega) ?_
  rw [t.len]
  exact ⟨.int (kvs.length : Nat), H, I.tok _, ⟨_, rfl⟩, q⟩
theorem pe_tlenE (G : Good Φ c X) {i : Nat} {x y : Str} {p p2 pos : Pos} (hy : y = "len") (gy : globB c y = true) (h : nameB c i x = true) : PE X (.Call (.Name y p) [.Name x p2] [] pos) (tE X.K (evE Φ (.tlen i))) := by
  subst hy
  obtain ⟨g1, g2, g3⟩ := gl_of G gy
  refine (pe_callB call_lenN g1 (G.bl _ (by decide)) boot_len (pa1 (pe_name G h) rfl) g3 g2 (star_cons rfl) rfl).of fun σ H Q q => ?_
  obtain ⟨F, L, ms, m, ms', R, e, k⟩ := q
  unfold evE at e
  obtain ⟨o, e1, e⟩ := bindSome e
  obtain ⟨kvs, e2, e⟩ := mapSome e
  cases e
  cases dttOf_some e2
  obtain ⟨v0, La2, Lb2, h1, h2, _⟩ := R.own.cut (joinSome e1)
  cases h2 with
  | @dtt a _ xs ha t n => exact ⟨_, h1, F, a, kvs, rfl, ⟨R.sub, xs, ha, t, n⟩, k _ _ _ _ _ (Got.of R (Ext.refl _ _ _) (.int _))⟩
end
end Rx
/-! Rx, more: tables whose keys are tuples: made of pairs, sorted, stored into. -/
namespace Rx
open PySem PySem.Spec L2 PyProof.Rows
open PySem.W (EachIs dataLe AllAlike KdlSrc)
section
variable {Φ : Funs} {c : Cfg} {X : Cx} {K : PySem.W.Frag} {σ : L2.St} {prot : List Nat}
theorem src_ofN {pins : List (Addr × Obj)} {H F : Hp} {s : Shared} (I : Inv X pins σ H s) (hs : Sub F H) : ∀ {ds : List PyData} {vs : List V} {its : List Value} {ps : List (NestedKey × PyData)}, DtAll F ds vs → Vals vs its → pairsN ds = some ps →
    ∃ pps : List (NestedKey × Addr × Value), Tks F ps pps ∧ ps.length = its.length ∧ ∀ (j : Nat) (x : NestedKey × Addr × Value), pps[j]? = some x → ∃ p, its[j]? = some (Value.ref p) ∧ PySem.PairAt s.heap p (.ref x.2.1) x.2.2
  | [], _, _, ps, .nil, .nil, e => by
    unfold pairsN at e
    cases e
    exact ⟨[], .nil, rfl, fun j x e => by simp at e⟩
  | d :: ds, _, _, ps, .cons r t, .cons rv tv, e => by
    unfold pairsN at e
    split at e
    · rename_i e0; cases e0
    · rename_i kd w r' e0
      cases e0
      obtain ⟨q, e1, e2⟩ := bindSome e
      obtain ⟨ps', e3, rfl⟩ := mapSome e2
      cases r with
      | @tup p _ us h z =>
        obtain ⟨x, y, rfl, r1, r2⟩ := dt_two z
        obtain ⟨b, rfl, kb⟩ := keyN_at e1 r1
        cases rv
        obtain ⟨its2, rv2, ht, _⟩ := I.tuple (h.mono hs).sq
        obtain ⟨u1, u2, ei, ru1, ru2⟩ := vals2 rv2
        subst ei
        cases ru1
        obtain ⟨pps, g1, g2, g3⟩ := src_ofN I hs t tv e3
        refine ⟨(q, b, u2) :: pps, .cons kb r2 ru2 g1, by rw [List.length_cons, List.length_cons, g2], fun j x e => ?_⟩
        cases j with
        | zero =>
          have e := Option.some.inj e
          subst e
          exact ⟨p, rfl, .inl (by obtain ⟨o, ho, hc, hd⟩ := ht; exact ⟨o, ho, hc, hd⟩)⟩
        | succ j => simpa using g3 j x (by simpa using e)
    · cases e
def rNewN (K : PySem.W.Frag) : List V → Hp → VK → Prop := fun xs H Q => ∃ F al vs ds ps, xs = [V.ref al] ∧ SqL K H al vs ∧ Sub F H ∧ DtAll F ds vs ∧ pairsN ds = some ps ∧ ∀ p ys, H p = none → Tks F (mergeN [] ps) ys → Q (.ref p) (upd H p (rawD p ys))
theorem call_newN (hc : X.calm = true) (hu : X.A.units + 70 < cLine) : CallR X (.type "dict") (rNewN X.K) := by
  intro pins s σ H xs us Q I r h
  obtain ⟨F, al, vs, ds, ps, rfl, hq, hs, dt, ep, q⟩ := h
  obtain ⟨u, rfl, ru⟩ := vals1 r
  cases ru
  obtain ⟨its, rv, pl, hz⟩ := I.list hq
  obtain ⟨pps, t, hl, hp⟩ := src_ofN I hs dt rv ep
  have hlen : pps.length = its.length := t.len.trans hl
  have hn : pps.length ≤ sizeLine := by rw [hlen, ← rv.length]; exact hz
  let vps : List (Value × Value) := pps.map fun x => (.ref x.2.1, x.2.2)
  have hv : ∀ (j : Nat) (k v : Value), vps[j]? = some (k, v) → ∃ x, pps[j]? = some x ∧ k = .ref x.2.1 ∧ v = x.2.2 := fun j k v e => by
    have e : (pps.map fun x => ((Value.ref x.2.1, x.2.2) : Value × Value))[j]? = some (k, v) := e
    rw [List.getElem?_map] at e
    obtain ⟨x, e1, e2⟩ := mapSome e
    cases e2
    exact ⟨x, e1, rfl, rfl⟩
  have lv : vps.length = pps.length := List.length_map _
  refine PySem.call_dict_pairsH (knd := nestedKind X.prog X.w) (ps := pps) (PySem.PairArg.list al its.toArray (refAt its) vps) (I.ok.hd hc) (show X.A.units + 1 + 1 + 8 < cLine by omega) ⟨pl, ?_, fun j k v e => ?_⟩ ⟨lv.symm, fun i key v e => ?_⟩ (fun h' hk x hx => ?_) (by rw [lv]; exact hn) fun h' tk hd' hk' => ?_
  · rw [List.size_toArray, lv, hlen]
  · obtain ⟨x, e1, rfl, rfl⟩ := hv j k v e
    obtain ⟨b, e2, e3⟩ := hp j x e1
    have e4 : refAt its j = b := by unfold refAt; rw [e2]
    rw [e4]
    exact ⟨by simpa using e2, e3⟩
  · obtain ⟨x, e1, rfl, rfl⟩ := hv i key v e
    exact ⟨x.1, x.2.1, e1, rfl⟩
  · refine PySem.nestedKind_stays.stays (fun b o vs n e _ => hk b o (Nat.ne_of_lt (Heap.lt_size e)) (by simp) e) ((t.all x hx).is I hs)
  · have tm : Tks F (mergeN [] ps) (storedAllH [] pps) := t.merge .nil
    have hm : (s.heap.objs.size == sysModules) = false := beq_eq_false_iff_ne.mpr (Nat.ne_of_gt I.big)
    exact ⟨.ref s.heap.objs.size, _, I.laid (t' := tk) (o := rawD s.heap.objs.size (storedAllH [] pps)) (fun b o e => hk' b o (by simp) e) (Nat.le_refl _) (raw_ok hm (fun x hx => (tm.all x hx).2.2) hd'), rfl, q _ _ (I.hok.fresh (Nat.le_refl _)) tm⟩
theorem pe_tnewE (G : Good Φ c X) {a : IE} {y : Str} {e : Expr} {p pos : Pos} (hy : y = "dict") (gy : globB c y = true) (he : PE X e (tE X.K (evE Φ a))) (hp : plainE e = true) : PE X (.Call (.Name y p) [e] [] pos) (tE X.K (evE Φ (.tnew a))) := by
  subst hy
  have hu : X.A.units + 70 < cLine := by have := G.un; omega
  obtain ⟨g1, g2, g3⟩ := gl_of G gy
  refine (pe_callTy (call_newN G.calm hu) g1 (G.bl _ (by decide)) (by decide +kernel) (pa1 he hp) g3 g2 (star_cons hp) rfl).of fun σ H Q q => ?_
  obtain ⟨F, L, ms, m, ms', R, e, k⟩ := q
  unfold evE at e
  obtain ⟨⟨v, ms1⟩, e1, e⟩ := bindSome e
  obtain ⟨d, e2, e⟩ := bindSome e
  obtain ⟨m2, e3, e⟩ := mapSome e
  cases e
  refine tE.go R e1 fun x F1 H1 L1 M g => ?_
  obtain ⟨F2, dt, R2, E2⟩ := g.frz1 e2
  unfold newN at e3
  split at e3
  · rename_i ds
    obtain ⟨ps, e4, e5⟩ := bindSome e3
    split at e5
    · rename_i hlim
      cases e5
      cases dt with
      | @lst al _ vs hal hdt =>
        refine ⟨F2, al, vs, ds, ps, rfl, SqL.of (R2.sub _ _ hal), R2.sub, hdt, e4, fun p ys hp t => ?_⟩
        have R3 := R2.newO (o := rawD p ys) hp
        have off := R2.fresh hp
        obtain ⟨n1, n2⟩ := merge_keys ps [] .nil
        refine k (.ref p) F2 _ L1 [p] ⟨R3, .one (.dtt upd_same t ⟨n1, by rw [List.length_nil, Nat.zero_add] at n2; exact Nat.le_trans n2 hlim⟩), by simp, fun a ha => ?_, ?_⟩
        · rw [List.mem_singleton.mp ha]
          exact ⟨R2.sub.off hp, off⟩
        · have En : Ext F2 H1 L1 F2 (upd H1 p (rawD p ys)) (L1 ++ [p]) := (Ext.newO hp).mem (fun x hx => hx) (fun x o e n z => by
            rcases List.mem_append.mp z with z | z
            · exact n z
            · rw [List.mem_singleton.mp z, hp] at e; cases e)
          exact E2.trans En
    · cases e5
  · cases e3
/-! ### sorted -/
theorem sort_dict {prog : Program} {w : World} {A : Around} {E : Value → Shared → Prop} {s : Shared} {a : Addr} {n : Nat} {P : Nat → Value → Prop} {OK : Heap → Prop} {ds : List PyData} {R : Value → PyData → Prop} {Q : Value → Shared → Prop}
    (src : KdlSrc prog w "dict" a a n P OK) (hh : A.handled = none) (ok : OK s.heap) (hn : n ≤ sizeLine) (he : ∀ vs : List Value, vs.length = n → (∀ (j : Nat) (v : Value), vs[j]? = some v → P j v) → EachIs R vs ds ∧ EachIs (fun v d => ∃ as, Reads s.heap v d as) vs ds)
    (hal : AllAlike ds) (hk : PySem.W.Sortable ds ∨ ∃ r, ds = .tuple [] :: r ∧ ∀ d ∈ r, ∃ xs, d = .tuple xs) (hu : ∀ d, d ∈ ds → A.units + 2 + d.depth < cLine)
    (h : ∀ (h1 h' : Heap) (tk : Nat) (out : Array Value), (∀ b ob, s.heap.get? b = some ob → h1.get? b = some ob) → (∀ b ob, h1.get? b = some ob → h'.get? b = some ob) → (∃ e, h'.get? h1.objs.size = some (seqObj "list" out e)) → EachIs R out.toList (ds.mergeSort (dataLe false id)) → Q (.ref h1.objs.size) { s with heap := h', toks := tk }) :
    wpAny (model prog w) A (call (.builtin "sorted") [.ref a]) Q E s := by
  refine Calls.call_function_entry kind_sorted plain_sorted entry_sorted (args_sorted1 _) ?_
  unfold Builtin.«sorted»
  refine wpAny_bind (m := checkCount "sorted" 1 1 _) (wpAny_pure ?_)
  refine wpAny_bind (PySem.W.kdu_collect (A := A.in1) src hh ok hn fun h1 tk acc k1 hacc => ?_)
  have hl : acc.toList.length = n := by rw [Array.length_toList]; exact hacc.1
  obtain ⟨e, er⟩ := he acc.toList hl fun j v e => hacc.2 j v (by rw [← Array.getElem?_toList]; exact e)
  refine wpAny_bind (wpAny_newList ?_ (by rw [hl]; exact hn))
  have at2 : (h1.push (seqObj "list" acc.toList.toArray 0)).get? h1.objs.size = some (seqObj "list" acc.toList.toArray 0) := Heap.get?_push_size _ rfl
  have k2 : ∀ b ob, s.heap.get? b = some ob → (PySem.W.sortingHeap (h1.push (seqObj "list" acc.toList.toArray 0)) h1.objs.size acc.toList).get? b = some ob := fun b ob q => PySem.W.sortingHeap_old (Nat.ne_of_lt (Heap.lt_size (k1 b ob q))) (Heap.get?_push_of_some _ (k1 b ob q))
  have er' : EachIs (fun v d => ∃ as, Reads (PySem.W.sortingHeap (h1.push (seqObj "list" acc.toList.toArray 0)) h1.objs.size acc.toList) v d as) acc.toList ds := er.mono fun _ _ ⟨as, r⟩ => ⟨as, PyProof.Rows.Reads.keeps k2 r⟩
  have S : PySem.W.SortsAt prog w A.in1.in1 { s with heap := PySem.W.sortingHeap (h1.push (seqObj "list" acc.toList.toArray 0)) h1.objs.size acc.toList, toks := tk } (PySem.W.dataKind (PySem.W.sortingHeap (h1.push (seqObj "list" acc.toList.toArray 0)) h1.objs.size acc.toList) ds) acc.toList := by
    rcases hk with hk | ⟨r, rfl, hk⟩
    · exact PySem.W.SortsAt.data (s := { s with heap := PySem.W.sortingHeap (h1.push (seqObj "list" acc.toList.toArray 0)) h1.objs.size acc.toList, toks := tk }) er' hal hk hu
    · exact sorts_empty (s := { s with heap := PySem.W.sortingHeap (h1.push (seqObj "list" acc.toList.toArray 0)) h1.objs.size acc.toList, toks := tk }) er' hal hk hu
  refine wpAny_bind (wpAny_holding (wpAny_call_entry slot_list_sort ⟨_, at2, rfl⟩ entry_list_sort (PySem.W.list_sort_vals (s := { s with heap := h1.push (seqObj "list" acc.toList.toArray 0), toks := tk }) at2 S (by rw [hl]; exact hn) ⟨_, rfl, ?_⟩) (args_list_sort _)))
  refine wpAny_pure ⟨_, rfl, h _ _ tk (PySem.W.sortVals (PySem.W.dataKind (PySem.W.sortingHeap (h1.push (seqObj "list" acc.toList.toArray 0)) h1.objs.size acc.toList) ds) false acc.toList acc.toList).toArray k1 (fun b ob q => ?_) ?_ ?_⟩
  · rw [PyProof.Rows.sortedHeap_old (Nat.ne_of_lt (Heap.lt_size q)) (Heap.lt_size (Heap.get?_push_of_some _ q))]
    exact Heap.get?_push_of_some _ q
  · exact PyProof.Rows.sortedHeap_at at2
  · have z := PySem.W.sortVals_data (enc := id) (h' := PySem.W.sortingHeap (h1.push (seqObj "list" acc.toList.toArray 0)) h1.objs.size acc.toList) false e er' (by rw [List.map_id]; exact hal)
    rw [List.map_id] at z
    exact z
theorem each_keys {F : Hp} : ∀ {kvs : List (NestedKey × PyData)} {xs : List (NestedKey × Addr × Value)}, Tks F kvs xs → EachIs (fun u d => ∃ v, RelV v u ∧ Dt F d v) (xs.map fun x => Value.ref x.2.1) (kvs.map fun kv => kv.1.data)
  | _, _, .nil => .nil
  | _, _, .cons (b := b) a _ _ t => .cons ⟨V.ref b, (show RelV (V.ref b) (Value.ref b) from rfl), a.1⟩ (each_keys t)
def rSortN : List V → Hp → VK → Prop := fun xs H Q => ∃ F a kvs ds, xs = [V.ref a] ∧ DtH F H a kvs ∧ sortN kvs = some ds ∧ ∀ p ws, H p = none → DtAll F ds ws → Q (.ref p) (upd H p (.lst ws))
theorem call_sortN (hc : X.calm = true) (hu : X.A.units + 70 < cLine) : CallR X (.builtin "sorted") rSortN := by
  intro pins s σ H xs us Q I r h
  obtain ⟨F, a, kvs, ds, rfl, dh, es, q⟩ := h
  obtain ⟨u, rfl, ru⟩ := vals1 r
  cases ru
  obtain ⟨ys, t, m, hd, hl⟩ := dh.heap I
  unfold sortN at es
  split at es
  · rename_i ok
    cases es
    simp only [Bool.and_eq_true] at ok
    obtain ⟨⟨k1, k2⟩, k3⟩ := ok
    have hal : AllAlike (kvs.map fun kv => kv.1.data) := fun d hd d' hd' => List.all_eq_true.mp (List.all_eq_true.mp k1 d hd) d' hd'
    have hdp : ∀ d, d ∈ kvs.map (fun kv => kv.1.data) → X.A.units + 2 + d.depth < cLine := fun d hd => by
      have := of_decide_eq_true (List.all_eq_true.mp k3 d hd)
      omega
    obtain ⟨o, es, ep, ho, hcl, hdat, he, _, _⟩ := m
    have hsz : es.size = ys.length := by rw [← Array.length_toList, he, List.length_map]
    have hz : ys.length ≤ sizeLine := by rw [t.len]; exact hl
    refine sort_dict (n := es.size) (OK := fun h => h.DictRaw a es ep) (R := fun u d => ∃ v, RelV v u ∧ Dt F d v) (PySem.KdlSrc.rawDict hd) (I.ok.hd hc) ⟨o, ho, hcl, hdat⟩ (by rw [hsz]; exact hz) (fun vs lv hv => ?_) hal (sortable_of k2) hdp fun h1 h' tk out z1 z2 z3 z4 => ?_
    · have ev : vs = ys.map fun x => Value.ref x.2.1 := by
        refine List.ext_getElem? fun j => ?_
        rw [List.getElem?_map]
        by_cases hj : j < vs.length
        · obtain ⟨hi, e2⟩ := hv j vs[j] (List.getElem?_eq_getElem hj)
          rw [List.getElem?_eq_getElem hj, e2]
          have e3 : es.toList[j]? = (ys.map (entryOfKey (nestedKind X.prog X.w)))[j]? := by rw [he]
          rw [Array.getElem?_toList, Array.getElem?_eq_getElem hi, List.getElem?_map] at e3
          have hj2 : j < ys.length := by rw [← hsz]; exact hi
          rw [List.getElem?_eq_getElem hj2] at e3 ⊢
          have e4 := Option.some.inj e3
          rw [e4]
          rfl
        · rw [List.getElem?_eq_none (by omega), List.getElem?_eq_none (by omega)]
          rfl
      rw [ev]
      have e := each_keys t
      exact ⟨e, e.mono fun u d ⟨v, r, w⟩ => Dp.reads I d v u (Opd.dp dh.1 (.fz w)) r⟩
    · obtain ⟨ep2, z3⟩ := z3
      obtain ⟨ws, w1, w2⟩ := of_each z4
      have I1 : Inv X pins σ H { s with heap := h1, toks := tk } := I.kept (t' := tk) z1
      have hl : ws.length ≤ sizeLine := by
        have e1 := w1.len
        have e3 : ((kvs.map fun kv => kv.1.data).mergeSort (dataLe false id)).length = (kvs.map fun kv => kv.1.data).length := List.length_mergeSort _
        rw [List.length_map] at e3
        omega
      exact ⟨.ref _, upd H h1.objs.size (.lst ws), I1.laid (t' := tk) z2 (Nat.le_refl _) ⟨hl, out.toList, ep2, w2, z3⟩, rfl, q _ ws (I1.hok.fresh (Nat.le_refl _)) (by rw [sortD_eq]; exact w1)⟩
  · cases es
theorem pe_tsortE (G : Good Φ c X) {i : Nat} {x y : Str} {p p2 pos : Pos} (hy : y = "sorted") (gy : globB c y = true) (h : nameB c i x = true) : PE X (.Call (.Name y p) [.Name x p2] [] pos) (tE X.K (evE Φ (.tsort i))) := by
  subst hy
  have hu : X.A.units + 70 < cLine := by have := G.un; omega
  obtain ⟨g1, g2, g3⟩ := gl_of G gy
  refine (pe_callB (call_sortN G.calm hu) g1 (G.bl _ (by decide)) (by decide +kernel) (pa1 (pe_name G h) rfl) g3 g2 (star_cons rfl) rfl).of fun σ H Q q => ?_
  obtain ⟨F, L, ms, m, ms', R, e, k⟩ := q
  unfold evE at e
  obtain ⟨o, e1, e⟩ := bindSome e
  obtain ⟨kvs, e2, e⟩ := bindSome e
  obtain ⟨ds, e3, e⟩ := mapSome e
  cases e
  cases dttOf_some e2
  obtain ⟨v0, La2, Lb2, h1, h2, _⟩ := R.own.cut (joinSome e1)
  cases h2 with
  | @dtt a _ xs ha t n =>
    refine ⟨_, h1, F, a, kvs, ds, rfl, ⟨R.sub, xs, ha, t, n⟩, e3, fun p ws hp dw => ?_⟩
    have R3 := R.newO (o := .lst ws) hp
    have off := R.fresh hp
    refine k (.ref p) F _ L [p] ⟨R3, .one (.ls upd_same dw), by simp, fun a ha => ?_, ?_⟩
    · rw [List.mem_singleton.mp ha]
      exact ⟨R.sub.off hp, off⟩
    · exact (Ext.newO hp).mem (fun x hx => hx) (fun x o e n z => by
        rcases List.mem_append.mp z with z | z
        · exact n z
        · rw [List.mem_singleton.mp z, hp] at e; cases e)
/-! ### x[k] = e -/
theorem ps_tputE (G : Good Φ c X) {i : Nat} {x : Str} {k a : IE} {ke v : Expr} {p p2 pos : Pos} (h : nameB c i x = true) (hk : PE X ke (tE X.K (evE Φ k))) (ha : PE X v (tE X.K (evE Φ a))) (hv : noComp v = true) :
    PS X (.Assign [.Subscript (.Name x p) ke p2] v pos) (tSt X.K prot (evS Φ (.tput i k a))) := by
  have hu : X.A.units + 70 < cLine := by have := G.un; omega
  have ps : PS X (.Assign [.Subscript (.Name x p) ke p2] v pos) (fun D σ H => tE X.K (evE Φ a) σ H fun w H1 => tVar i σ H1 fun x H2 => tE X.K (evE Φ k) σ H2 fun y H3 => ∃ F a kvs b nk d, x = V.ref a ∧ y = V.ref b ∧ DtH F H3 a kvs ∧ KeyAt F nk b ∧ Dt F d w ∧ ∀ ys, Tks F (putN kvs nk d) ys → D.nx σ (upd H3 a (rawD a ys))) := by
    refine ⟨fun pins s σ H D I h0 => ?_⟩
    refine wpAny_Assign_Subscript (thn (ha.run pins s σ H _ I h0) fun r s1 ⟨w, H1, I1, rw1, q1⟩ => thn ((pe_name G h).run pins s1 σ H1 _ I1 q1) fun u s2 ⟨x, H2, I2, rx, q2⟩ => thn (hk.run pins s2 σ H2 _ I2 q2) fun iv s3 ⟨y, H3, I3, ry, F, a, kvs, b, nk, d, ex, ey, dh, kb, dw, q3⟩ => ?_) (sw_no hv)
    subst ex ey
    obtain rfl : u = Value.ref a := rx
    obtain rfl : iv = Value.ref b := ry
    obtain ⟨xs, t, m, hd, hl⟩ := dh.heap I3
    have hmut : Mut (H3 a) := by
      obtain ⟨_, xs', e, _⟩ := dh
      rw [e]
      exact True.intro
    refine wpAny_setItem_heap (hsz := by rw [t.len]; exact hl) (room_in1 hu) (kb.is I3 dh.1) m fun h' m' hs' => ?_
    have tp := t.put kb dw rw1
    have he : ∃ q, h'.get? a = some q := let ⟨q, _, _, hq, _⟩ := m'; ⟨q, hq⟩
    exact ⟨σ, _, d_write I3 hmut hs' he (raw_ok hd (fun x hx => (tp.all x hx).2.2) m'), q3 _ tp⟩
  refine ps.of fun D σ H q => ?_
  obtain ⟨F, L, ms, o, R, ee, kk⟩ := q
  unfold evS at ee
  obtain ⟨⟨w, ms1⟩, e1, ee⟩ := bindSome ee
  obtain ⟨d, e2, ee⟩ := bindSome ee
  obtain ⟨_, e0, ee⟩ := bindSome ee
  obtain ⟨⟨q, ms2⟩, e3, ee⟩ := bindSome ee
  obtain ⟨kd, e4, ee⟩ := bindSome ee
  obtain ⟨nk, e5, ee⟩ := bindSome ee
  obtain ⟨ms3, e6, ee⟩ := mapSome ee
  subst ee
  unfold Rx.chg at e6
  obtain ⟨m, e7, e8⟩ := bindSome e6
  obtain ⟨m', e9, e10⟩ := mapSome e8
  subst e10
  refine tE.go R e1 fun y F1 H1 L1 M g => ?_
  obtain ⟨F2, dt, R2, E2⟩ := g.frz1 e2
  obtain ⟨kvs0, ed⟩ := dtAt_ok e0
  obtain ⟨ov, La, Lb, hv0, ow, _⟩ := R2.own.cut ed
  refine ⟨ov, hv0, tE.go R2 e3 fun z F3 H3 L3 M3 g3 => ?_⟩
  obtain ⟨F4, dk, R4, E4⟩ := g3.frz1 e4
  obtain ⟨b, rfl, kb⟩ := keyN_at e5 dk
  obtain ⟨v3, L5, h1, h2, h3, h4, h5⟩ := R4.chg (M := []) (joinSome e7) List.nodup_nil (fun _ z => by cases z)
  rw [hv0] at h1; cases h1
  cases m with
  | dtt kvs =>
    cases h2 with
    | @dtt a _ xs ha2 t n =>
      have e9 : (if kvs.length < lim then some (MV.dtt (putN kvs nk d)) else none) = some m' := e9
      split at e9
      · rename_i hlt
        cases e9
        refine ⟨F4, a, kvs, b, nk, d, rfl, rfl, ⟨R4.sub, xs, ha2, t, n⟩, kb, dt.mono E4.fr, fun ys ty => ?_⟩
        obtain ⟨n1, n2⟩ := put_keys kvs nk d n.1
        obtain ⟨L', w4, w5⟩ := h5 (o' := .dtt (putN kvs nk d)) (La' := [a]) (.dtt upd_same ty ⟨n1, Nat.le_trans n2 hlt⟩) h3 (fun b hb => .inl hb) (upd_off (List.mem_singleton.mpr rfl))
        rw [List.append_nil] at w5
        exact kk _ _ _ _ w4 ((E2.trans E4).trans w5) (Keep.refl _ _)
      · cases e9
  | _ => exact nomatch (show none = some m' from e9)
end
end Rx
/-! Rx, more: e in x[k], x a list of lists of its own; f(..).index(e). -/
namespace Rx
open PySem PySem.Spec L2 PyProof.Rows
section
variable {Φ : Funs} {c : Cfg} {X : Cx} {K : PySem.W.Frag} {σ τ : L2.St} {prot : List Nat}
theorem kin_go {neg : Bool} {r : R2} (ok : OpOk (if neg = true then .nin else .inn) (R2of r)) {a k : IE} {i : Nat} {H : Hp} {Q : VK} (q : tE K (evE Φ (.kin neg a i k)) σ H Q) : tOp r (tE K (evE Φ a)) (fun σ H Q => tVar i σ H fun x H1 => tE K (evE Φ k) σ H1 fun y H2 => rIxA K x y H2 Q) σ H Q := by
  obtain ⟨F, L, ms, m, ms', R, ee, kk⟩ := q
  unfold evE at ee
  obtain ⟨⟨v, ms1⟩, e1, ee⟩ := bindSome ee
  obtain ⟨ad, e2, ee⟩ := bindSome ee
  obtain ⟨_, e0, ee⟩ := bindSome ee
  obtain ⟨⟨q, ms2⟩, e3, ee⟩ := bindSome ee
  obtain ⟨kd, e4, ee⟩ := bindSome ee
  obtain ⟨o, e5, ee⟩ := bindSome ee
  obtain ⟨⟨j, cm⟩, e6, ee⟩ := bindSome ee
  obtain ⟨ds, e7, ee⟩ := bindSome ee
  obtain ⟨d, e8, ee⟩ := mapSome ee
  cases ee
  cases cm with
  | ls ds' =>
    cases e7
    refine tE.go R e1 fun x F1 H1 L1 M1 g1 => ?_
    obtain ⟨F2, dx, R2, E2⟩ := g1.frz1 e2
    obtain ⟨_, ov0, _, hv0⟩ := there_ok e0 R2
    refine ⟨ov0, hv0, tE.go R2 e3 fun kv F3 H3 L3 Mk g => ?_⟩
    obtain ⟨F4, dk, R4, E4⟩ := g.frz1 e4
    obtain ⟨ov, L5, Mo, hov, g5⟩ := Got.mov R4 e5
    rw [hv0] at hov; cases hov
    have own := g5.res.fst
    obtain ⟨a, ws, k1, k2, k3, k4, k5⟩ := kid_ok own g5.nd dk e6
    refine k1 H3 _ (fun _ _ => rfl) ?_
    refine ok F4 H3 [ad, .list ds] [x, .ref a] d Q R4.sub (.cons (.fz (dx.mono E4.fr)) (.cons (.ls k3 k4) .nil)) e8 fun v H' md => ?_
    obtain ⟨F8, M8, g8⟩ := Got.made (o := if neg = true then .nin else .inn) R4 (E2.trans E4) md
    have em : madeBy (if neg = true then .nin else .inn) d = .val d := by cases neg <;> (unfold madeBy; rfl)
    rw [em] at g8
    exact kk _ _ _ _ _ g8
  | _ => exact nomatch (show none = some _ from e7)
theorem cmp_in (neg : Bool) : cmpO (if neg = true then .nin else .inn) = some (if neg = true then .NotIn else .In) := by cases neg <;> rfl
theorem pe_kinE (G : Good Φ c X) {neg : Bool} {a k : IE} {i : Nat} {e ke : Expr} {x : Str} {p p2 pos : Pos} (he : PE X e (tE X.K (evE Φ a))) (h : nameB c i x = true) (hk : PE X ke (tE X.K (evE Φ k))) (hs : noSlice ke = true) :
    PE X (.Compare e [if neg = true then .NotIn else .In] [.Subscript (.Name x p) ke p2] pos) (tE X.K (evE Φ (.kin neg a i k))) := by
  obtain ⟨r, q1, q2⟩ := cmp_rule G (cmp_in neg)
  exact (pe_cmpR q1 he (pe_ix (IxR.or ix_list ix_tup) (pe_name G h) hk (plain_ix hs)) (by cases neg <;> rfl)).of fun σ H Q q => kin_go q2 q
theorem pt_kinE (G : Good Φ c X) {neg : Bool} {a k : IE} {i : Nat} {e ke : Expr} {x : Str} {p p2 pos : Pos} (he : PE X e (tE X.K (evE Φ a))) (h : nameB c i x = true) (hk : PE X ke (tE X.K (evE Φ k))) (hs : noSlice ke = true) :
    PT X (.Compare e [if neg = true then .NotIn else .In] [.Subscript (.Name x p) ke p2] pos) (tT X.K (evE Φ (.kin neg a i k))) := by
  obtain ⟨r, q1, q2⟩ := cmp_rule G (cmp_in neg)
  exact (pt_cmpR q1 he (pe_ix (IxR.or ix_list ix_tup) (pe_name G h) hk (plain_ix hs)) (by cases neg <;> rfl)).of fun σ H Q q => kin_go q2 (tT_val q)
theorem own_lst {F H : Hp} {m : MV} {v : V} {M : List Addr} {ds : List PyData} (hs : Sub F H) (r : Own K F H m v M) (e : m.frz = some (.list ds)) : ∃ p u, v = .ref p ∧ H p = some (.lst u) := by
  cases r with
  | val r =>
    unfold MV.frz at e
    cases e
    cases r with
    | @lst p _ u h1 _ => exact ⟨p, u, rfl, hs _ _ h1⟩
  | @ls p _ u h1 _ => exact ⟨p, u, rfl, h1⟩
  | @lst p _ u _ h1 _ => exact ⟨p, u, rfl, h1⟩
  | @tup a ms vs L _ _ =>
    unfold MV.frz at e
    obtain ⟨d, _, e2⟩ := mapSome e
    cases e2
  | dct _ _ _ => unfold MV.frz at e; cases e
  | scr _ => unfold MV.frz at e; cases e
  | rng _ => unfold MV.frz at e; cases e
  | dtt _ _ _ => unfold MV.frz at e; cases e
  | fdt _ _ _ => unfold MV.frz at e; cases e
theorem lindex_go {a b : IE} (na : isPk a = false) (nb : isPk b = false) {H : Hp} {Q : VK} (q : tE K (evE Φ (.op .lindex [a, b])) σ H Q) : tBM K "list" (rIndexD K) (tE K (evE Φ a)) (tCons (tE K (evE Φ b)) tNil) σ H Q := by
  obtain ⟨F, L, ms, m0, ms', R, e, k⟩ := q
  unfold evE at e
  obtain ⟨⟨vs, ms2⟩, e1, e2⟩ := bindSome e
  obtain ⟨ds, e3, e4⟩ := bindSome e2
  obtain ⟨d, e5, e6⟩ := mapSome e4
  cases e6
  unfold evEs at e1
  obtain ⟨⟨m, ms1⟩, f1, f2⟩ := bindSome e1
  obtain ⟨⟨vs', ms3⟩, f3, f4⟩ := mapSome f2
  cases f4
  unfold evEs at f3
  obtain ⟨⟨m', ms4⟩, g1, g2⟩ := bindSome f3
  obtain ⟨⟨vs2, ms5⟩, g3, g4⟩ := mapSome g2
  cases g4
  unfold evEs at g3
  cases g3
  obtain ⟨d1, r1, h1, h2, h3⟩ := seen_inv na e3
  obtain ⟨d2, r2, h4, h5, h6⟩ := seen_inv nb h2
  unfold seen at h5
  cases h5
  subst h6 h3
  have e5 : s_lindex [d1, d2] = some d := e5
  unfold s_lindex at e5
  split at e5
  · rename_i xs y heq
    cases heq
    split at e5
    · rename_i hsh
      rw [Bool.and_eq_true] at hsh
      obtain ⟨j, j1, j2⟩ := mapSome e5
      subst j2
      have z := List.findIdx?_eq_some_iff_getElem.mp j1
      obtain ⟨hj, z1, z2⟩ := z
      refine tE.go R f1 fun vx F1 H1 L1 M1 g => ⟨?_, tE.go g.rel g1 fun vy F2 H2 L2 M2 gg => ?_⟩
      · obtain ⟨p, u, rfl, hp⟩ := own_lst g.rel.sub g.res.fst h1
        exact .inl ⟨rfl, u, SqL.of hp⟩
      have ga := g.cons gg
      have fz : frzAll [m, m'] = some [.list xs, d2] := by
        unfold frzAll; rw [h1]
        unfold frzAll; rw [h4]
        unfold frzAll; rfl
      obtain ⟨F3, dt, R3, E3⟩ := ga.frz fz
      cases dt with
      | cons tx t =>
        cases t with
        | cons ty t =>
          cases t
          have dx := Dt.dp (K := K) R3.sub tx
          have dy := Dt.dp (K := K) R3.sub ty
          cases tx with
          | @lst pa _ us q1 q2 =>
            refine ⟨pa, vy, d2, xs, j, xs[j], rfl, rfl, dx, dy, hsh.2, hsh.1, List.getElem?_eq_getElem hj, z1, fun i z' hi hz => ?_, k _ _ _ _ _ (Got.of R3 E3 (.int _))⟩
            obtain ⟨hi2, rfl⟩ := List.getElem?_eq_some_iff.mp hz
            have := z2 i hi
            simpa using this
    · cases e5
  · cases e5
theorem pe_lindexE (G : Good Φ c X) {a b : IE} {o e : Expr} {apos cpos : Pos} (na : isPk a = false) (nb : isPk b = false) (ho : PE X o (tE X.K (evE Φ a))) (he : PE X e (tE X.K (evE Φ b))) (hp : plainE e = true) (hl : (apos.endLine == cpos.line) = true)
    (hbase : attributeBase o "index" X.env (eval o X.env) = eval o X.env) : PE X (.Call (.Attribute o "index" apos) [e] [] cpos) (tE X.K (evE Φ (.op .lindex [a, b]))) := by
  have hu : X.A.units + 65 < cLine := by have := G.un; omega
  exact (pe_bm PySem.F.plainAttrs_list PySem.F.slot_list_index PySem.F.type_list_index (mt_indexD hu) ho (pa1 he hp) hbase (few1 hp) hl (star_cons hp) rfl).of fun _ _ _ q => lindex_go na nb q
end
end Rx
/-! Rx, more: a table frozen where it stands; its keys walked. -/
namespace Rx
open PySem PySem.Spec L2 PyProof.Rows
section
variable {Φ : Funs} {c : Cfg} {X : Cx} {K : PySem.W.Frag} {σ : L2.St}
def tLockN (t : TE) : TE := fun σ H Q => t σ H fun v H1 => ∃ a xs, v = V.ref a ∧ H1 a = some (rawD a xs) ∧ ∀ od, Q v (upd H1 a (.frz od (rawD a xs)))
theorem pe_lockN {e : Expr} {t : TE} (h : PE X e t) : PE X e (tLockN t) :=
  ⟨fun pins s σ H Q I h0 => thn (h.run pins s σ H _ I h0) fun u s1 ⟨v, H1, I1, rv, a, xs, ev, ha, q⟩ => by
    obtain ⟨od, I2⟩ := I1.lock ha True.intro
    exact ⟨v, _, I2, rv, q od⟩⟩
theorem tfz_go {i : Nat} {H : Hp} {Q : VK} (q : tE K (evE Φ (.tfz i)) σ H Q) : tLockN (tVar i) σ H Q := by
  obtain ⟨F, L, ms, m, ms', R, e, k⟩ := q
  unfold evE at e
  obtain ⟨m0, e1, e2⟩ := bindSome e
  obtain ⟨kvs, e3, e4⟩ := mapSome e2
  cases e4
  cases dttOf_some e3
  obtain ⟨v, L1, L2, h1, h2, h3, h4, h5⟩ := R.own.cut (joinSome e1)
  obtain ⟨n1, n2, n3⟩ := h5 R.nd
  cases h2 with
  | @dtt a _ xs ha t n =>
    refine ⟨_, h1, a, xs, rfl, ha, fun od => ?_⟩
    have haL : a ∈ L := (h4 a).mpr (.inl (List.mem_singleton.mpr rfl))
    have hF : F a = none := R.dis a haL
    have s1 : Sub F (upd F a (.frz od (rawD a xs))) := Sub.new hF
    have s2 : Sub (upd F a (.frz od (rawD a xs))) (upd H a (.frz od (rawD a xs))) := fun x u q => by
      by_cases e : x = a
      · subst e; rw [upd_same] at q; rw [upd_same]; exact q
      · rw [upd_ne e] at q; rw [upd_ne e]; exact R.sub x u q
    have hl : i < ms.length := (List.getElem?_eq_some_iff.mp (joinSome e1)).1
    have ne : ∀ b ∈ L2, b ≠ a := fun b hb z => n3 a (List.mem_singleton.mpr rfl) (z ▸ hb)
    obtain ⟨L3, f1, f2, f3⟩ := (h3.keep (G := upd F a (.frz od (rawD a xs))) s1 (H' := upd H a (.frz od (rawD a xs))) fun b hb => upd_ne (ne b hb)).fill (m := .fdt kvs) (List.getElem?_set_self hl) h1 (.fdt upd_same (t.mono s1) n)
    rw [List.set_set] at f1
    have hx : ∀ b, b ∈ L3 ↔ b ∈ L2 := fun b => (f2 b).trans ⟨fun z => z.elim (fun z => by cases z) id, .inr⟩
    have R2 : Rel K (upd F a (.frz od (rawD a xs))) (upd H a (.frz od (rawD a xs))) (ms.set i (some (.fdt kvs))) σ L3 := ⟨f1, f3 n2 List.nodup_nil (fun _ z => by cases z), s2, fun b hb => by
      rw [upd_ne (ne b ((hx b).mp hb))]
      exact R.dis b ((h4 b).mpr (.inr ((hx b).mp hb)))⟩
    have E2 : Ext F H L (upd F a (.frz od (rawD a xs))) (upd H a (.frz od (rawD a xs))) L3 :=
      ⟨s1, fun x o z n => by rw [upd_ne (fun w => n (by rw [w]; exact haL))]; exact z, fun b o _ n z => n ((h4 b).mpr (.inr ((hx b).mp z))), fun x o z n => upd_ne (fun w => n (by rw [w]; exact haL))⟩
    exact k _ _ _ _ _ ⟨R2, .one (.fdt upd_same (t.mono s1) n), List.nodup_nil, (fun _ h => by cases h), by rw [List.append_nil]; exact E2⟩
theorem pe_tfzE (G : Good Φ c X) {i : Nat} {x : Str} {p : Pos} (h : nameB c i x = true) : PE X (.Name x p) (tE X.K (evE Φ (.tfz i))) := (pe_lockN (pe_name G h)).of fun _ _ _ q => tfz_go q
/-! ### its keys -/
/-- the keys of the locked table at a -/
def Itq (a : Addr) (o : Obj) (xs : List (NestedKey × Addr × Value)) : It :=
  ⟨fun i H => H a = some (.frz o (rawD a xs)) ∧ i < xs.length, fun i H x H' => H' = H ∧ ∃ y, xs[i]? = some y ∧ x = .ref y.2.1, fun i H => H a = some (.frz o (rawD a xs)) ∧ xs.length ≤ i⟩
theorem frzN {pins : List (Addr × Obj)} {X : Cx} {σ : L2.St} {H : Hp} {s : Shared} {a : Addr} {o : Obj} {xs : List (NestedKey × Addr × Value)} (I : Inv X pins σ H s) (h : H a = some (.frz o (rawD a xs))) :
    (a == sysModules) = false ∧ s.heap.get? a = some o ∧ o.ExactDict ∧ ∃ es ep, o.data = .dict es ep ∧ es.toList = xs.map (entryOfKey (nestedKind X.prog X.w)) := by
  obtain ⟨hd, ⟨z, o', es, ep, ho, hx, hdt, he⟩, _⟩ := (show ObjOk X.prog X.w H s.heap a (.frz o (rawD a xs)) from I.hok a _ h)
  rw [hd] at ho
  cases ho
  exact ⟨z, hd, hx, es, ep, hdt, he X.prog X.w⟩
theorem turn_keysN {P : Program} {w : World} {tg : Expr} {a : Addr} {o : Obj} {es : Array DictEntry} {ep : Nat} {xs : List (NestedKey × Addr × Value)} (it : Addr) (hod : o.data = .dict es ep) : Turn P w K tg (Itq a o xs) [it] it (fun i h => h.IsKeyIter it a i xs.length ep) where
  mem := by simp
  obj := fun i h st b hb => by
    have e : b = it := by simpa using hb
    subst e
    obtain ⟨oi, e, c, dd⟩ := st
    exact ⟨oi, e, fun v z => by rw [dd] at z; cases z⟩
  keep := fun i h h' st k => st.at fun oi e => k it (by simp) oi e
  item := by
    intro X hP hw hK hc i pins s σ H E I hf st hg
    subst hP hw hK
    obtain ⟨hd, hi⟩ := hg
    obtain ⟨f0, f1, f2, f3, f4, f5⟩ := hf it (by simp)
    obtain ⟨hs, hgd, hx, es', ep', hdt, he⟩ := frzN I hd
    obtain ⟨rfl, rfl⟩ := dict_ep hod hdt
    have hsz : es'.size = xs.length := size_of_entries he
    have en : es'[i]? = some (entryOfKey (nestedKind X.prog X.w) xs[i]) := by
      have e3 : es'.toList[i]? = (xs.map (entryOfKey (nestedKind X.prog X.w)))[i]? := by rw [he]
      rw [Array.getElem?_toList, List.getElem?_map, List.getElem?_eq_getElem hi] at e3
      exact e3
    refine next_key_item st hgd hdt hsz en fun h' st' sb => ?_
    have I1 : Inv X pins σ H { s with heap := h' } := I.turned (t' := s.toks) (fun b ob hb e => (sb.2 b hb).trans e) f0 f1 f3 f4 f5
    obtain ⟨oi, e, c, dd⟩ := id st'
    exact ⟨_, rfl, go_of (s := { s with heap := h' }) e c dd (by decide) ⟨.ref xs[i].2.1, H, I1, rfl, ⟨rfl, xs[i], List.getElem?_eq_getElem hi, rfl⟩, st', fun b hb => (hf b hb).1⟩⟩
  done := by
    intro X hP hw hK hc i pins s σ H E I hf st hg
    subst hP hw hK
    obtain ⟨hd, hi⟩ := hg
    obtain ⟨f0, f1, f2, f3, f4, f5⟩ := hf it (by simp)
    obtain ⟨hs, hgd, hx, es', ep', hdt, he⟩ := frzN I hd
    obtain ⟨rfl, rfl⟩ := dict_ep hod hdt
    exact next_key_end (I.ok.hd hc) st hgd hdt (size_of_entries he) hi fun h' eb => ⟨rfl, I.turned (t' := s.toks) (fun b ob hb e => eb b ob hb e) f0 f1 f3 f4 f5⟩
  self := fun A i s Q E st h => by
    refine wpAny_pyIter_slot st.typeIs F.slot_dict_keyiterator_iter (wpAny_call_entry F.slot_dict_keyiterator_iter st.typeIs F.entry_dict_keyiterator_iter ?_ (F.args_dict_keyiterator_iter_1 _))
    show wpAny _ _ (ret (.ref it)) _ _ s
    exact wpAny_pure ⟨_, rfl, "dict_keyiterator", _, st.typeIs, F.slot_dict_keyiterator_next.lookup, h⟩
theorem Tks.at_ {F : Hp} : ∀ {kvs : List (NestedKey × PyData)} {xs : List (NestedKey × Addr × Value)} {i : Nat} {y : NestedKey × Addr × Value}, Tks F kvs xs → xs[i]? = some y → ∃ kv, kvs[i]? = some kv ∧ kv.1 = y.1 ∧ KeyAt F y.1 y.2.1
  | _, _, _, _, .nil, e => by simp at e
  | _, _, 0, _, .cons a _ _ _, e => by simp at e; subst e; exact ⟨_, rfl, rfl, a⟩
  | _, _, i + 1, y, .cons _ _ _ t, e => by
    obtain ⟨kv, h1, h2, h3⟩ := Tks.at_ (i := i) (y := y) t (by simpa using e)
    exact ⟨kv, by simpa using h1, h2, h3⟩
theorem wk_keysN {F : Hp} {a : Addr} {o : Obj} {kvs : List (NestedKey × PyData)} {xs : List (NestedKey × Addr × Value)} (h : F a = some (.frz o (rawD a xs))) (t : Tks F kvs xs) : Wk K F (Itq a o xs) (kvs.map fun kv => kv.1.data) where
  goes := fun i H hi s => ⟨s _ _ h, by rw [List.length_map, ← t.len] at hi; exact hi⟩
  stops := fun H s => ⟨s _ _ h, by rw [List.length_map, ← t.len]; exact Nat.le_refl _⟩
  yields := fun i H x H' d e s y => by
    obtain ⟨y1, y, y2, y3⟩ := y
    obtain ⟨kv, h1, h2, h3⟩ := t.at_ y2
    rw [List.getElem?_map, h1] at e
    cases e
    subst y3
    refine .inl ⟨y1, ?_⟩
    show Dt F kv.1.data (.ref y.2.1)
    rw [h2]
    exact h3.1
/-- the table is locked -/
def iKeysN (td : TE) : TI := fun σ H R => td σ H fun x H1 => ∃ a o xs, x = V.ref a ∧ H1 a = some (.frz o (rawD a xs)) ∧ R (Itq a o xs) H1
theorem pi_keysN {tg e : Expr} {td : TE} (he : PE X e td) : PI X tg e (iKeysN td) := by
  refine ⟨fun pins s σ H R I h => ?_⟩
  refine thn (he.run pins s σ H _ I h) fun u s1 ⟨x, H1, I1, rx, a, o, xs, ex, ha, q⟩ => ?_
  subst ex
  obtain rfl : u = Value.ref a := rx
  obtain ⟨hs, hgd, hx, es, ep, hdt, he⟩ := frzN I1 ha
  have hsz : es.size = xs.length := size_of_entries he
  refine iter_keys hs hgd hx hdt (pi_one (tk := s1.toks) I1 _ (turn_keysN _ hdt) ⟨_, Heap.get?_push_size _ rfl, rfl, ?_⟩ q)
  rw [hsz] <;> rfl
theorem pi_tkeysE (G : Good Φ c X) {tg : Expr} {i : Nat} {x : Str} {pos : Pos} (h : nameB c i x = true) : PI X tg (.Name x pos) (tI X.K (evI Φ (.tkeys i))) := by
  refine (pi_keysN (tg := tg) (pe_name G h)).of fun σ H R q => ?_
  obtain ⟨F, L, ms, ds, ms', RR, e, k⟩ := q
  unfold evI at e
  split at e
  · rename_i kvs hd
    cases e
    obtain ⟨v, L1, L2, h1, h2, _⟩ := RR.own.cut hd
    cases h2 with
    | @fdt a o _ xs ha t n => exact ⟨_, h1, a, o, xs, rfl, RR.sub _ _ ha, k _ _ _ _ (wk_keysN ha t) RR (Ext.refl _ _ _)⟩
  · cases e
end
end Rx
/-! Rx, more: t.count(x), sum(t), t a tuple; max of a list. -/
namespace Rx
open PySem PySem.Spec L2 PyProof.Rows
open PySem.W (EachIs maxD AllAlike)
section
variable {X : Cx}
def rTupCt (K : PySem.W.Frag) : V → List V → Hp → VK → Prop := fun x xs H Q => ∃ (a : Addr) (y : V) (d : PyData) (ds : List PyData), x = V.ref a ∧ xs = [y] ∧ Dp K H (V.ref a) (.tuple ds) ∧ Dp K H y d ∧
  SeqAt.shaped (.tuple ds) = true ∧ SeqAt.shaped d = true ∧ Q (.int ((ds.countP fun z => PyData.eqv z d : Nat) : Int)) H
theorem mt_tupCt (hu : X.A.units + 65 < cLine) : MtR X "tuple.count" (rTupCt X.K) := by
  intro pins s σ H x xs v us Q I rx rxs h
  obtain ⟨a, y, d, ds, rfl, rfl, hl, hy, sl, sd, q⟩ := h
  cases rx
  cases rxs with
  | cons ry rt =>
    rename_i uy ut
    cases rt
    obtain ⟨bs, r1⟩ := Dp.reads I d y uy hy ry
    have hxs : PyData.plainAll ds = true := by
      have z := PyData.plain_of_canLay0 _ (SeqAt.canLay_of_shaped sl)
      simpa [PyData.plain] using z
    have hroom : X.A.units + 1 + min (PyData.depthAll ds) d.depth < cLine := by
      have zd : d.depth ≤ 64 := by
        unfold SeqAt.shaped at sd
        rw [Bool.and_eq_true] at sd
        exact of_decide_eq_true sd.2
      omega
    cases hl with
    | tup hs ha =>
      obtain ⟨its, rv, ⟨ob, ho, hc, n, hdt⟩, hlen⟩ := I.tuple hs
      obtain ⟨as, h4⟩ := Dp.readsAll I ds _ its ha rv
      exact SeqAt.count_tuple_data (vs := its.toArray) ⟨ob, ho, hc, n, hdt⟩ (by simpa using h4) r1 hxs (PyData.plain_of_canLay0 _ (SeqAt.canLay_of_shaped sd)) hroom ⟨.int _, H, I.tok _, ⟨_, rfl⟩, q⟩
/-- sum(t) -/
def rTSum (K : PySem.W.Frag) : List V → Hp → VK → Prop := fun vs H Q => ∃ (a : Addr) (ns : List Int), vs = [V.ref a] ∧ SqT K H a (ns.map V.int) ∧ Q (.int ns.sum) H
theorem cr_tsum (hc : X.calm = true) : CallR X (.builtin "sum") (rTSum X.K) := by
  intro pins s σ H vs us Q I r h
  obtain ⟨a, ns, rfl, hs, q⟩ := h
  obtain ⟨its, rv, hl, _⟩ := I.tuple hs
  rw [Vals.ref1 r]
  obtain ⟨xs, e⟩ := rv.ints.allInts.items
  have hn : numsOf (intItems xs).toList = ns := by rw [← e]; exact rv.ints.numsOf
  rw [nums_intItems] at hn
  have hl : s.heap.IsTuple a (intItems xs) := by rw [← e]; exact hl
  have hlt : a < s.heap.objs.size := by obtain ⟨_, e, _⟩ := hl; exact Heap.lt_size e
  refine PySem.call_sum_walkG (wpAny_pyIter_tuple hl ?_)
  refine ⟨_, _, _, _, _, _, numAt xs, rfl, Walks.tuple (A := X.A.in1) (I.ok.hd hc) s.heap.objs.size a (Nat.ne_of_lt hlt) (intItems xs), ⟨⟨_, Heap.get?_push_size _ rfl, rfl, rfl⟩, hl.push _⟩, fun b hb => ?_, (fun _ _ => intItems_at), fun h' tk t' hk => ?_⟩
  · show b < (s.heap.push _).objs.size
    rw [Heap.size_push]
    rcases List.mem_cons.mp hb with rfl | hb
    · exact Nat.lt_succ_self _
    · rw [List.mem_singleton.mp hb]; exact Nat.lt_succ_of_lt hlt
  · have e2 : preSum (numAt xs) (intItems xs).size = ns.sum := by
      rw [← hn, show (intItems xs).size = xs.size by simp [intItems], preSum_eq, List.take_of_length_le (by simp)]
    rw [e2]
    refine ⟨.int ns.sum, H, I.kept (t' := tk) fun b o hb => hk b o ?_ (Heap.get?_push_of_some _ hb), ⟨_, rfl⟩, q⟩
    intro hm
    rw [List.mem_singleton.mp hm] at hb
    exact absurd (Heap.lt_size hb) (Nat.lt_irrefl _)
end
section
variable {Φ : Funs} {c : Cfg} {X : Cx} {K : PySem.W.Frag} {σ τ : L2.St} {prot : List Nat} {H : Hp} {Q : VK}
theorem count_go {a b : IE} (na : isPk a = false) (nb : isPk b = false) (q : tE K (evE Φ (.op .count [a, b])) σ H Q) : tBMT (rTupCt K) (tE K (evE Φ a)) (tCons (tE K (evE Φ b)) tNil) σ H Q := by
  obtain ⟨F, L, ms, m0, ms', R, e, k⟩ := q
  unfold evE at e
  obtain ⟨⟨vs, ms2⟩, e1, e2⟩ := bindSome e
  obtain ⟨ds, e3, e4⟩ := bindSome e2
  obtain ⟨d, e5, e6⟩ := mapSome e4
  cases e6
  unfold evEs at e1
  obtain ⟨⟨m, ms1⟩, f1, f2⟩ := bindSome e1
  obtain ⟨⟨vs', ms3⟩, f3, f4⟩ := mapSome f2
  cases f4
  unfold evEs at f3
  obtain ⟨⟨m', ms4⟩, g1, g2⟩ := bindSome f3
  obtain ⟨⟨vs2, ms5⟩, g3, g4⟩ := mapSome g2
  cases g4
  unfold evEs at g3
  cases g3
  obtain ⟨d1, r1, h1, h2, h3⟩ := seen_inv na e3
  obtain ⟨d2, r2, h4, h5, h6⟩ := seen_inv nb h2
  unfold seen at h5
  cases h5
  subst h6 h3
  have e5 : s_count [d1, d2] = some d := e5
  unfold s_count at e5
  split at e5
  · rename_i xs y heq
    cases heq
    split at e5
    · rename_i hsh
      cases e5
      rw [Bool.and_eq_true] at hsh
      refine tE.go R f1 fun vx F1 H1 L1 M1 g => ⟨own_tup g.rel.sub g.res.fst h1, tE.go g.rel g1 fun vy F2 H2 L2 M2 gg => ?_⟩
      have ga := g.cons gg
      have fz : frzAll [m, m'] = some [.tuple xs, d2] := by
        unfold frzAll; rw [h1]
        unfold frzAll; rw [h4]
        unfold frzAll; rfl
      obtain ⟨F3, dt, R3, E3⟩ := ga.frz fz
      cases dt with
      | cons tx t =>
        cases t with
        | cons ty t =>
          cases t
          have dx := Dt.dp (K := K) R3.sub tx
          have dy := Dt.dp (K := K) R3.sub ty
          cases tx with
          | @tup pa _ us q1 q2 => exact ⟨pa, vy, d2, xs, rfl, rfl, dx, dy, hsh.2, hsh.1, k _ _ _ _ _ (Got.of R3 E3 (.int _))⟩
    · cases e5
  · cases e5
theorem pe_countE (G : Good Φ c X) {a b : IE} {o e : Expr} {apos cpos : Pos} (na : isPk a = false) (nb : isPk b = false) (ho : PE X o (tE X.K (evE Φ a))) (he : PE X e (tE X.K (evE Φ b))) (hp : plainE e = true) (hl : (apos.endLine == cpos.line) = true)
    (hbase : attributeBase o "count" X.env (eval o X.env) = eval o X.env) : PE X (.Call (.Attribute o "count" apos) [e] [] cpos) (tE X.K (evE Φ (.op .count [a, b]))) := by
  have hu : X.A.units + 65 < cLine := by have := G.un; omega
  exact (pe_bmT PySem.F.slot_tuple_count PySem.F.type_tuple_count (mt_tupCt hu) ho (pa1 he hp) hbase (few1 hp) hl (star_cons hp) rfl).of fun _ _ _ q => count_go na nb q
theorem ok_tsum {K : PySem.W.Frag} : OpOk .tsum (rTSum K) := by
  intro F H ds vs d Q hs dt e k
  have e : s_tsum ds = some d := e
  unfold s_tsum at e
  split at e
  · obtain ⟨is, e1, rfl⟩ := mapSome e
    obtain ⟨v, rfl, r1⟩ := dt.oneV
    obtain ⟨a, vs, rfl, h1, q1⟩ := r1.tupOf
    obtain ⟨_, rfl⟩ := q1.inv e1
    exact ⟨a, is, rfl, (h1.mono hs).sq, k _ _ (.int _)⟩
  · cases e
theorem pe_tsumE (G : Good Φ c X) {a : IE} {x : Str} {e : Expr} {p pos : Pos} (h : x = "sum") (hx : globB c x = true) (ha : PE X e (tO X.K Φ a)) (hp : plainE e = true) : PE X (.Call (.Name x p) [e] [] pos) (tE X.K (evE Φ (.op .tsum [a]))) := by
  subst h
  obtain ⟨g1, g2, g3⟩ := gl_of G hx
  refine (pe_callB (cr_tsum G.calm) g1 (G.bl _ (by decide)) (by decide +kernel) (pa1 ha hp) g3 g2 (star_cons hp) rfl).of fun σ H Q q => ?_
  exact op_go ok_tsum q
/-! ### max -/
def rMaxD (K : PySem.W.Frag) : List V → Hp → VK → Prop := fun xs H Q => ∃ (a : Addr) (vs : List V) (F : Hp) (x : PyData) (ds : List PyData), xs = [V.ref a] ∧ SqL K H a vs ∧ Sub F H ∧ DtAll F (x :: ds) vs ∧ (alikes (x :: ds) && sortables (x :: ds) && deepOk (x :: ds)) = true ∧ ∀ v, Dt F (maxD x ds) v → Q v H
theorem ok_max1 {K : PySem.W.Frag} : OpOk .max1 (rMaxD K) := by
  intro F H ds vs d Q hs dt e k
  have e : s_max1 ds = some d := e
  unfold s_max1 at e
  split at e
  · split at e
    · cases e
      obtain ⟨v, rfl, r1⟩ := dt.oneV
      rename_i hc
      obtain ⟨a, vs, rfl, h1, q1⟩ := r1.lstOf hs
      exact ⟨a, vs, F, _, _, rfl, SqL.of h1, hs, q1, hc, fun v q => k _ _ (.old q fun z => by cases z)⟩
    · cases e
  · cases e
theorem call_maxD (hc : X.calm = true) (hu : X.A.units + 70 < cLine) : CallR X (.builtin "max") (rMaxD X.K) := by
  intro pins s σ H xs us Q I r h
  obtain ⟨a, vs, F, x, ds, rfl, hq, hs, dt, ok, q⟩ := h
  rw [Vals.ref1 r]
  simp only [Bool.and_eq_true] at ok
  obtain ⟨⟨k1, k2⟩, k3⟩ := ok
  have hal : PySem.W.AlikeAll (x :: ds) := ⟨fun d hd d' hd' => List.all_eq_true.mp (List.all_eq_true.mp k1 d hd) d' hd', not_none k2⟩
  have hdp := deep_all k3
  obtain ⟨its, rv, hl, hz⟩ := I.list hq
  have e := each_of dt rv
  have er : EachIs (fun v d => ∃ as, Reads s.heap v d as) its (x :: ds) := e.mono fun u d ⟨v, r, w⟩ => Dp.reads I d v u (Opd.dp hs (.fz w)) r
  obtain ⟨as, ra⟩ := reads_all er
  refine PySem.W.max_list_data (vs := its.toArray) (as := as) (I.ok.hd hc) hl.isList (by simpa using ra) hal (by omega) fun i v h' tk bs hv hr kp => ?_
  obtain ⟨d, e1, w, e2, e3⟩ := each_at e (by simpa using hv : its[i]? = some v)
  obtain ⟨as2, r2⟩ := Dp.reads I d w v (Opd.dp hs (.fz e3)) e2
  have ed : d = maxD x ds := ((PySem.Reads.unique (PyProof.Rows.Reads.keeps kp r2)) _ _ hr).1
  subst ed
  exact ⟨w, H, I.kept (t' := tk) kp, e2, q w e3⟩
theorem pe_max1E (G : Good Φ c X) {a : IE} {x : Str} {e : Expr} {p pos : Pos} (h : x = "max") (hx : globB c x = true) (ha : PE X e (tO X.K Φ a)) (hp : plainE e = true) : PE X (.Call (.Name x p) [e] [] pos) (tE X.K (evE Φ (.op .max1 [a]))) := by
  subst h
  obtain ⟨g1, g2, g3⟩ := gl_of G hx
  have hu : X.A.units + 70 < cLine := by have := G.un; omega
  refine (pe_callB (call_maxD G.calm hu) g1 (G.bl _ (by decide)) (by decide +kernel) (pa1 ha hp) g3 g2 (star_cons hp) rfl).of fun σ H Q q => ?_
  exact op_go ok_max1 q
end
end Rx
/-! Rx, more: x.update({k: v, ..}), the keys tuples. -/
namespace Rx
open PySem PySem.Spec L2 PyProof.Rows
section
variable {X : Cx}
/-- keys and values, one behind the other -/
inductive PairVals : List V → List (Value × Value) → Prop
  | nil : PairVals [] []
  | cons {x y : V} {a b : Value} {xs : List V} {vs : List (Value × Value)} : RelV x a → RelV y b → PairVals xs vs → PairVals (x :: y :: xs) ((a, b) :: vs)
structure PP (X : Cx) (keys : List (Option Expr)) (values : List Expr) (t : TA) : Prop where
  run : ∀ (pos : Pos) (pins : List (Addr × Obj)) (s : Shared) (σ : L2.St) (H : Hp) (Q : List V → Hp → Prop), Inv X pins σ H s → t σ H Q →
    wpAny (model X.prog X.w) X.A (evalPairs (pairTrees keys values X.env pos)) (fun vs s1 => ∃ xs H1, Inv X pins σ H1 s1 ∧ PairVals xs vs ∧ Q xs H1) X.xe s
theorem PP.of {keys : List (Option Expr)} {values : List Expr} {t t' : TA} (h : PP X keys values t) (w : ∀ σ H Q, t' σ H Q → t σ H Q) : PP X keys values t' := ⟨fun pos pins s σ H Q I q => h.run pos pins s σ H Q I (w σ H Q q)⟩
theorem pp_nil : PP X [] [] tNil := ⟨fun pos pins s σ H Q I q => pairTrees_nil_walk ⟨[], H, I, .nil, q⟩⟩
theorem pp_cons {k v : Expr} {ks : List (Option Expr)} {vs : List Expr} {tk tv : TE} {t : TA} (hk : PE X k tk) (hv : PE X v tv) (h : PP X ks vs t) : PP X (some k :: ks) (v :: vs) (tCons tk (tCons tv t)) :=
  ⟨fun pos pins s σ H Q I q => pairTrees_cons_walk (thn (hk.run pins s σ H _ I q) fun u s1 ⟨x, H1, I1, r1, q1⟩ => thn (hv.run pins s1 σ H1 _ I1 q1) fun u2 s2 ⟨y, H2, I2, r2, q2⟩ =>
    thn (h.run pos pins s2 σ H2 _ I2 q2) fun us s3 ⟨xs, H3, I3, r3, q3⟩ => ⟨x :: y :: xs, H3, I3, .cons r1 r2 r3, q3⟩)⟩
theorem carries_of {pins : List (Addr × Obj)} {σ : L2.St} {H F : Hp} {s : Shared} (I : Inv X pins σ H s) (hs : Sub F H) : ∀ {ds : List PyData} {xs : List V} {vs : List (Value × Value)} {ps : List (NestedKey × PyData)}, DtAll F ds xs → PairVals xs vs → pairs2 ds = some ps →
    ∃ pps : List (NestedKey × Addr × Value), Tks F ps pps ∧ CarriesH (nestedKind X.prog X.w) s.heap vs pps
  | [], _, _, ps, .nil, .nil, e => by
    unfold pairs2 at e
    cases e
    exact ⟨[], .nil, trivial⟩
  | [_], _, _, _, .cons _ .nil, r, e => by cases r
  | d1 :: d2 :: ds, _, _, ps, .cons t1 (.cons t2 t), r, e => by
    cases r with
    | cons r1 r2 r3 =>
      unfold pairs2 at e
      obtain ⟨q, e1, e2⟩ := bindSome e
      obtain ⟨ps', e3, rfl⟩ := mapSome e2
      obtain ⟨b, rfl, kb⟩ := keyN_at e1 t1
      obtain ⟨pps, h1, h2⟩ := carries_of I hs t r3 e3
      cases r1
      exact ⟨(q, b, _) :: pps, .cons kb t2 r2 h1, rfl, rfl, kb.is I hs, h2⟩
theorem wpAny_Dict_pairsS {prog : Program} {w : World} {K : Type} [DecidableEq K] {knd : HeapKind prog w K} {A : Around} {E : Value → Shared → Prop} {s : Shared} {env : PySem.Env} {keys : List (Option Expr)} {values : List Expr} {pos : Pos} {Q : Value → Shared → Prop} (hu : knd.room A)
    (hall : keys.all (·.isSome) = true) (hl : keys.length = values.length) (h0 : keys ≠ []) (hlen : keys.length ≤ 15)
    (h : wpAny (model prog w) A (evalPairs (pairTrees keys values env pos)) (fun vs s₁ => ∃ ps, CarriesH knd s₁.heap vs ps ∧ s₁.heap.DictOfH knd s.heap.objs.size [] ∧
      ∀ h' tk, h'.DictOfH knd s.heap.objs.size (storedAllH [] ps) → Heap.SameBut s.heap.objs.size s₁.heap h' → Q (.ref s.heap.objs.size) { s₁ with heap := h', toks := tk }) E
      { s with heap := s.heap.push { cls := .type "dict", data := .dict #[] } }) :
    wpAny (model prog w) A (eval (.Dict keys values pos) env) Q E s := by
  have hn := pairTrees_length keys values env pos hall hl
  have hne : pairTrees keys values env pos ≠ [] := fun he => by
    rw [he] at hn
    exact h0 (List.length_eq_zero_iff.mp hn.symm)
  have hlen' : (pairTrees keys values env pos).length ≤ 15 := by rw [hn]; exact hlen
  rw [arm_eval_Dict, zip_pairTrees keys values env pos hall hl, dictDisplay_pairs _ hne (by omega)]
  exact wpAny_bind (wpAny_standAt (wpAny_bind (wpAny_subDictH (knd := knd) (Q := fun d s' => wpAny (model prog w) A (pure (Value.ref d)) Q E s') hu hlen'
    (wpAny_mono h (fun vs s₁ h₁ => by obtain ⟨ps, hc, hm, hq⟩ := h₁; exact ⟨ps, hc, hm, fun h' tk a b => wpAny_pure (hq h' tk a b)⟩) fun _ _ e => e))))
/-- {k: v, ..} -/
def tDispN (t : TA) : TE := fun σ H Q => ∀ d, H d = none → t σ (upd H d (rawD d [])) fun xs H1 => ∃ F ds ps, H1 d = some (rawD d []) ∧ Sub F H1 ∧ DtAll F ds xs ∧ pairs2 ds = some ps ∧ ∀ ys, Tks F (mergeN [] ps) ys → Q (.ref d) (upd H1 d (rawD d ys))
theorem pe_dispN (hu : X.A.units + 70 < cLine) {keys : List (Option Expr)} {values : List Expr} {pos : Pos} {t : TA} (hall : keys.all (·.isSome) = true) (hl : keys.length = values.length) (h0 : keys ≠ []) (hlen : keys.length ≤ 15) (h : PP X keys values t) : PE X (.Dict keys values pos) (tDispN t) := by
  refine ⟨fun pins s σ H Q I q => ?_⟩
  have hp := I.hok.fresh (Nat.le_refl s.heap.objs.size)
  have hm : (s.heap.objs.size == sysModules) = false := beq_eq_false_iff_ne.mpr (Nat.ne_of_gt I.big)
  have I0 : Inv X pins σ (upd H s.heap.objs.size (rawD s.heap.objs.size [])) { s with heap := s.heap.push { cls := .type "dict", data := .dict #[] } } :=
    I.laid (a := s.heap.objs.size) (o := rawD s.heap.objs.size []) (t' := s.toks) (fun _ _ q => Heap.get?_push_of_some _ q) (Nat.le_refl _) (raw_ok (P := X.prog) (w := X.w) hm (fun x hx => by cases hx) (Heap.DictOfH.new s.heap))
  refine wpAny_Dict_pairsS (knd := nestedKind X.prog X.w) (show X.A.units + 8 < cLine by omega) hall hl h0 hlen (thn (h.run pos pins _ σ _ _ I0 (q s.heap.objs.size hp)) fun vs s1 ⟨xs, H1, I1, r1, F, ds, ps, hd, hs, dt, ep, k⟩ => ?_)
  obtain ⟨pps, t1, t2⟩ := carries_of I1 hs dt r1 ep
  obtain ⟨m1, m2⟩ := dtt_heap I1 hs hd .nil .nil
  refine ⟨pps, t2, m1, fun h' tk hd' sb => ?_⟩
  have tm : Tks F (mergeN [] ps) (storedAllH [] pps) := t1.merge .nil
  have he : ∃ q, h'.get? s.heap.objs.size = some q := let ⟨q, _, _, hq, _⟩ := hd'; ⟨q, hq⟩
  have I2 := d_write (t' := tk) I1 (a := s.heap.objs.size) (by rw [hd]; exact True.intro) sb he (raw_ok (H := upd H1 s.heap.objs.size (rawD s.heap.objs.size (storedAllH [] pps))) m2 (fun x hx => (tm.all x hx).2.2) hd')
  exact ⟨.ref s.heap.objs.size, _, I2, rfl, k _ tm⟩
theorem key_tup {F : Hp} {k : NestedKey} {b : Addr} (h : KeyAt F k b) : ∃ vs, TupK F b vs := by
  obtain ⟨h1, _, h3⟩ := h
  cases k with
  | none => rw [NestedKey.data] at h1; cases h1
  | num i => rw [NestedKey.data] at h1; cases h1
  | text x => rw [noText] at h3; cases h3
  | tup ks =>
    rw [NestedKey.data] at h1
    cases h1 with
    | tup q _ => exact ⟨_, q⟩
theorem apart_of {P : Program} {w : World} {F : Hp} {more : List (NestedKey × PyData)} {ys : List (NestedKey × Addr × Value)} (t : Tks F more ys) (h : apart more = true) : (ys.map fun x => (nestedKind P w).hash x.1).Nodup := by
  have h : (more.map fun kv => kv.1.hash w0).Nodup := of_decide_eq_true h
  have e : (ys.map fun x => (nestedKind P w).hash x.1) = more.map fun kv => kv.1.hash w0 := by
    have e1 : (ys.map fun x => (nestedKind P w).hash x.1) = (ys.map (·.1)).map fun k => k.hash w0 := by
      rw [List.map_map]
      refine List.map_congr_left fun x hx => ?_
      show x.1.hash w = x.1.hash w0
      exact hash_any w w0 (t.all x hx).2.2
    rw [e1, t.keys, List.map_map]
    rfl
  rw [e]
  exact h
variable {Φ : Funs} {c : Cfg} {σ : L2.St} {prot : List Nat}
def tUpdN (i : Nat) (t : TA) : TS := fun D σ H => tVar i σ H fun x H1 => ∃ a, x = V.ref a ∧ (∃ F kvs, DtH F H1 a kvs) ∧ tDispN t σ H1 fun y H2 => ∃ F b kvs more, y = V.ref b ∧ a ≠ b ∧ DtH F H2 a kvs ∧ DtH F H2 b more ∧ kvs.length + more.length ≤ sizeLine ∧ apart more = true ∧ ∀ ys, Tks F (mergeN kvs more) ys → D.nx σ (upd H2 a (rawD a ys))
theorem ps_updN (G : Good Φ c X) {i : Nat} {x : Str} {keys : List (Option Expr)} {values : List Expr} {p ap dp cp pos : Pos} {t : TA} (h : nameB c i x = true) (hall : keys.all (·.isSome) = true) (hln : keys.length = values.length) (h0 : keys ≠ []) (hlen : keys.length ≤ 15) (hp : PP X keys values t) (hl : (ap.endLine == cp.line) = true) :
    PS X (.Expr (.Call (.Attribute (.Name x p) "update" ap) [.Dict keys values dp] [] cp) pos) (tUpdN i t) := by
  have hu : X.A.units + 70 < cLine := by have := G.un; omega
  have hd : PE X (.Dict keys values dp) (tDispN t) := pe_dispN hu hall hln h0 hlen hp
  have pk : plainE (.Dict keys values dp) = true := rfl
  have m : M1 X (.Name x p) "update" ap (.Dict keys values dp) cp := ⟨rfl, by rw [star_cons pk]; rfl, hl, by rw [star_cons pk]; rfl⟩
  have pe : PE X (.Call (.Attribute (.Name x p) "update" ap) [.Dict keys values dp] [] cp) (fun σ H Q => tVar i σ H fun x H1 => ∃ a, x = V.ref a ∧ (∃ F kvs, DtH F H1 a kvs) ∧ tDispN t σ H1 fun y H2 => ∃ F b kvs more, y = V.ref b ∧ a ≠ b ∧ DtH F H2 a kvs ∧ DtH F H2 b more ∧ kvs.length + more.length ≤ sizeLine ∧ apart more = true ∧ ∀ ys, Tks F (mergeN kvs more) ys → Q .non (upd H2 a (rawD a ys))) := by
    refine ⟨fun pins s σ H Q I h0 => ?_⟩
    refine wpAny_Call_method m.base m.few m.line PySem.F.plainAttrs_dict PySem.F.slot_dict_update PySem.F.type_dict_update (thn ((pe_name G h).run pins s σ H _ I h0) fun u s1 ⟨x, H1, I1, rx, a, ex, ⟨F0, kvs0, d0⟩, q1⟩ => ?_)
    subst ex
    obtain rfl : u = Value.ref a := rx
    obtain ⟨xs0, _, m0, _, _⟩ := d0.heap I1
    refine ⟨m0.typeIs, fun b q => ?_, ?_⟩
    · cases q
      obtain ⟨ob, _, _, h1, h2, _⟩ := m0
      exact ⟨ob, h1, h2.2.1⟩
    rw [m.trees]
    refine Calls.callWith_builtin rfl (Calls.evalArgs_plain (Calls.spliced_cons (thn (hd.run pins s1 σ H1 _ I1 q1) fun iv s2 ⟨y, H2, I2, ry, F, b, kvs, more, ey, hne, da, db, hz, hap, q2⟩ => Calls.spliced_nil ?_)))
    subst ey
    obtain rfl : iv = Value.ref b := ry
    obtain ⟨xs, tx, mx, hdx, _⟩ := da.heap I2
    obtain ⟨ys, ty, my, hdy, _⟩ := db.heap I2
    refine call_update_dictH (knd := nestedKind X.prog X.w) (room_in1 hu) hne hdy mx my (.inr ⟨fun x hx => ?_, apart_of ty hap⟩) (by rw [tx.len, ty.len]; exact hz) fun h' hd' ho' hs' => ?_
    · obtain ⟨vs, q⟩ := key_tup ((ty.all x hx).mono db.1)
      obtain ⟨its, rv, ⟨o, ho, hc, _⟩, _⟩ := I2.tuple q.sq
      exact ⟨o, ho, hc⟩
    · have tm := ty.merge tx
      have hmut : Mut (H2 a) := by
        obtain ⟨_, xs', e, _⟩ := da
        rw [e]
        exact True.intro
      have he : ∃ q, h'.get? a = some q := let ⟨q, _, _, hq, _⟩ := hd'; ⟨q, hq⟩
      exact ⟨.non, _, d_write (t' := s2.toks) I2 hmut hs' he (raw_ok hdx (fun x hx => (tm.all x hx).2.2) hd'), rfl, q2 _ tm⟩
  exact (ps_expr pe rfl).of fun D σ H q => q
theorem ps_tupdE (G : Good Φ c X) {i : Nat} {x : Str} {as : List IE} {keys : List (Option Expr)} {values : List Expr} {p ap dp cp pos : Pos} (h : nameB c i x = true) (hall : keys.all (·.isSome) = true) (hln : keys.length = values.length) (h0 : keys ≠ []) (hlen : keys.length ≤ 15) (hp : PP X keys values (tA X.K (evEs Φ as))) (hl : (ap.endLine == cp.line) = true) :
    PS X (.Expr (.Call (.Attribute (.Name x p) "update" ap) [.Dict keys values dp] [] cp) pos) (tSt X.K prot (evS Φ (.tupd i as))) := by
  refine (ps_updN G h hall hln h0 hlen hp hl).of fun D σ H q => ?_
  obtain ⟨F, L, ms, o, R, ee, kk⟩ := q
  unfold evS at ee
  obtain ⟨_, e0, ee⟩ := bindSome ee
  obtain ⟨⟨vs, ms1⟩, e1, ee⟩ := bindSome ee
  obtain ⟨ds, e2, ee⟩ := bindSome ee
  obtain ⟨ps, e3, ee⟩ := bindSome ee
  obtain ⟨ms2, e5, ee⟩ := mapSome ee
  subst ee
  unfold Rx.chg at e5
  obtain ⟨m, e6, e7⟩ := bindSome e5
  obtain ⟨m', e8, e9⟩ := mapSome e7
  subst e9
  obtain ⟨kvs0, ed⟩ := dtAt_ok e0
  obtain ⟨ov, La, Lb, hv, ow, _⟩ := R.own.cut ed
  cases ow with
  | @dtt a0 _ xs0 ha0 t0 n0 =>
    refine ⟨_, hv, a0, rfl, ⟨F, kvs0, R.sub, xs0, ha0, t0, n0⟩, fun d hd => ?_⟩
    have dL : d ∉ L := fun z => by
      obtain ⟨u, e⟩ := R.own.there d z
      rw [hd] at e; cases e
    have R' : Rel X.K F (upd H d (rawD d [])) ms σ L := ⟨R.own.keep (Sub.refl F) fun b hb => upd_ne (fun z => dL (by rw [← z]; exact hb)), R.nd, R.sub.updR (R.sub.off hd), R.dis⟩
    refine tA.go R' e1 fun xs F1 H1 L1 M g => ?_
    obtain ⟨F2, dt, R2, E2⟩ := g.frz e2
    have k1 : H1 d = some (rawD d []) := E2.keep d _ upd_same dL
    have d1 : d ∉ L1 := E2.off d _ upd_same dL
    have f2 : F2 d = none := (E2.same d _ upd_same dL).trans (R.sub.off hd)
    refine ⟨F2, ds, ps, k1, R2.sub, dt, e3, fun ys ty => ?_⟩
    let H2 : Hp := upd H1 d (rawD d ys)
    have R3 : Rel X.K F2 H2 ms1 σ L1 := ⟨R2.own.keep (Sub.refl F2) fun b hb => upd_ne (fun z => d1 (by rw [← z]; exact hb)), R2.nd, R2.sub.updR f2, R2.dis⟩
    have E3 : Ext F H L F2 H2 L1 := ⟨E2.fr, fun x u q n => by
      have hne := ne_of_none q hd
      show upd H1 d (rawD d ys) x = some u
      rw [upd_ne hne]
      exact E2.keep x u (by rw [upd_ne hne]; exact q) n, fun x u q n => E2.off x u (by rw [upd_ne (ne_of_none q hd)]; exact q) n, fun x u q n => E2.same x u (by rw [upd_ne (ne_of_none q hd)]; exact q) n⟩
    obtain ⟨v3, L3, h1, h2, h3, h4, h5⟩ := R3.chg (M := []) (joinSome e6) List.nodup_nil (fun _ z => by cases z)
    rw [hv] at h1; cases h1
    cases m with
    | dtt kvs =>
      have e8 : (if ps ≠ [] ∧ ps.length ≤ 15 ∧ kvs.length + ps.length ≤ lim ∧ apart (mergeN [] ps) = true then some (MV.dtt (mergeN kvs (mergeN [] ps))) else none) = some m' := e8
      split at e8
      · rename_i hc
        obtain ⟨c1, c2, c3, c4⟩ := hc
        cases e8
        obtain ⟨v4, L5, L6, y1, y2, _, y4, _⟩ := R3.own.cut (joinSome e6)
        rw [hv] at y1; cases y1
        have ane : a0 ≠ d := fun z => by
          cases y2 with
          | dtt _ _ _ => exact d1 (by rw [← z]; exact (y4 _).mpr (.inl (List.mem_singleton.mpr rfl)))
        cases h2 with
        | @dtt _ _ xs ha2 t n =>
          obtain ⟨m1, m2⟩ := merge_keys ps [] .nil
          rw [List.length_nil, Nat.zero_add] at m2
          have hz : kvs.length + (mergeN [] ps).length ≤ lim := Nat.le_trans (Nat.add_le_add_left m2 _) c3
          refine ⟨F2, d, kvs, mergeN [] ps, rfl, ane, ⟨R3.sub, xs, ha2, t, n⟩, ⟨R3.sub, ys, upd_same, ty, m1, Nat.le_trans (Nat.le_add_left _ _) hz⟩, lim_line hz, c4, fun zs tz => ?_⟩
          obtain ⟨n1, n2⟩ := merge_keys (mergeN [] ps) kvs n.1
          obtain ⟨L', w4, w5⟩ := h5 (o' := .dtt (mergeN kvs (mergeN [] ps))) (La' := [a0]) (.dtt upd_same tz ⟨n1, Nat.le_trans n2 hz⟩) h3 (fun b hb => .inl hb) (upd_off (List.mem_singleton.mpr rfl))
          rw [List.append_nil] at w5
          exact kk _ _ _ _ w4 (E3.trans w5) (Keep.refl _ _)
      · cases e8
    | _ => exact nomatch (show none = some m' from e8)
end
end Rx
/-! Rx, part 18: blocks. -/
namespace Rx
open PySem PySem.Spec L2 PyProof.Rows
section
variable {Φ : Funs} {c : Cfg} {X : Cx} {K : PySem.W.Frag} {σ τ : L2.St} {prot : List Nat}

/-- where a block stands -/
def Cfg.blk (c : Cfg) (scope : Scope) : Cfg := { c with sc := relS scope c.sc, own := scope }
theorem good_blk (G : Good Φ c X) {scope : Scope} {own : List (Str × Nat)} (ok : BlkOk X.N X.env.scope scope own) (s : Shared) (H : Hp) (C : Addr) (cl : List (Str × Addr)) (fp : List Addr) : Good Φ (c.blk scope) (X.blk s H scope (compEnvC scope cl C X.env) fp) where
  calm := G.calm
  N := G.N
  nd := G.nd
  sc := by
    show relS scope X.env.scope = relS scope c.sc
    rw [G.sc]
  st := fun x h => by
    have h : scope.names.lookup x = some .local ∨ scope.names.lookup x = some .cell := h
    refine ⟨?_, ?_⟩
    · rcases h with h | h
      · exact .inl (lookup_relS_keep (by decide) h)
      · exact .inr (lookup_relS_keep (by decide) h)
    · rcases h with h | h
      · exact .inr (lookup_relS_keep (by decide) h)
      · refine .inl ?_
        show (scope.names.lookup x == some .cell) = true
        rw [h]; rfl
  kd := ok.kind
  xe := rfl
  un := G.un
  gu := G.gu
  bl := G.bl
  gcd := G.gcd
  fn := G.fn
theorem fold_no {e : Expr} {env : PySem.Env} (h : noSet e = true) : ∀ x, foldedSetIterable e env x = pure x := fun x => by
  cases e <;> first | rfl | cases h
theorem pts_of {ifs : List Expr} {cond : Option IE} (h : match cond, ifs with | none, [] => True | some q, [t] => PT X t (tT X.K (evE Φ q)) | _, _ => False) : PTs X ifs (tC X.K Φ cond) := by
  cases cond with
  | none =>
    cases ifs with
    | nil => exact pts_nil
    | cons t ts => exact h.elim
  | some q =>
    cases ifs with
    | nil => exact h.elim
    | cons t ts =>
      cases ts with
      | nil => exact pts_one h
      | cons _ _ => exact h.elim
theorem pe_compE (G : Good Φ c X) {ow : Bool} {ownN : List (Str × Nat)} {tg : NT} {it : II} {cond : Option IE} {elt : IE} {elt' tg' iter : Expr} {ifs : List Expr} {scope : Scope} {pos : Pos} (hi : PI X tg' iter (tI X.K (evI Φ it))) (ok : blkC c.N c.sc scope ownN = true)
    (hg : chkNT (c.blk scope) tg tg' = true) (hsl : ∀ i ∈ tg.slots, i ∈ ownN.map (·.2)) (hs : noSet iter = true)
    (ht : ∀ Y, Good Φ (c.blk scope) Y → PTs Y ifs (tC Y.K Φ cond)) (he : ∀ Y, Good Φ (c.blk scope) Y → PE Y elt' (tE Y.K (evE Φ elt))) :
    PE X (.ListComp elt' [⟨tg', iter, ifs, 0⟩] scope pos) (tE X.K (evE Φ (.comp ow (ownN.map (·.2)) tg it cond elt))) := by
  have ok' : BlkOk X.N X.env.scope scope ownN := by rw [G.N, G.sc]; exact blkOk_by ok
  exact (pe_lc G.calm G.nd hi ok' (fun s H C cl fp => pg_nt (good_blk G ok' s H C cl fp) tg tg' hg) (fun s H C cl fp => ht _ (good_blk G ok' s H C cl fp)) (fun s H C cl fp => he _ (good_blk G ok' s H C cl fp)) (fold_no hs)).of fun σ H Q q => comp_go hsl q
/-- x = [..] on one line -/
def sameLine (c : Cfg) (x : Str) (py pos : Pos) (scope : Scope) : Bool := (py.line == pos.line) && decide (c.sc.names.lookup x = some .local) && !(scope.names.any fun (n, k) => n == x && (k == .local || k == .cell))
theorem tE.imp {f : MEnv → Res MV} {H : Hp} {Q Q' : VK} (q : tE K f σ H Q) (w : ∀ v H', Q v H' → Q' v H') : tE K f σ H Q' := by
  obtain ⟨F, L, ms, m, ms', R, e, k⟩ := q
  exact ⟨F, L, ms, m, ms', R, e, fun v F' H' L' M g => w _ _ (k v F' H' L' M g)⟩
theorem tG_name {i : Nat} {v : V} {H : Hp} {Q : L2.St → Hp → Prop} (hp : i ∉ prot) (q : tG K Φ prot (.n i) v σ H Q) : gName i v σ H Q := by
  obtain ⟨F, L, ms, m, M, ms', R, r, nd, dis, e, k⟩ := q
  unfold evT at e
  unfold setS at e
  split at e
  · rename_i hi
    cases e
    obtain ⟨L', R', hL⟩ := R.store r nd dis hi
    exact k _ F H L' R' ((Ext.refl F H (L ++ M)).less hL) (Keep.set _ hp)
  · cases e
theorem ps_compE (G : Good Φ c X) {ow ow2 : Bool} {i : Nat} {x : Str} {ownN : List (Str × Nat)} {tg : NT} {it : II} {cond : Option IE} {elt : IE} {elt' tg' iter : Expr} {ifs : List Expr} {scope : Scope} {py pos spos : Pos} (hx : c.N[i]? = some x) (hp : i ∉ prot) (hl : sameLine c x py pos scope = true) (hi : PI X tg' iter (tI X.K (evI Φ it))) (ok : blkC c.N c.sc scope ownN = true)
    (hg : chkNT (c.blk scope) tg tg' = true) (hsl : ∀ i ∈ tg.slots, i ∈ ownN.map (·.2)) (hs : noSet iter = true)
    (ht : ∀ Y, Good Φ (c.blk scope) Y → PTs Y ifs (tC Y.K Φ cond)) (he : ∀ Y, Good Φ (c.blk scope) Y → PE Y elt' (tE Y.K (evE Φ elt))) :
    PS X (.Assign [.Name x py] (.ListComp elt' [⟨tg', iter, ifs, 0⟩] scope pos) spos) (tSt X.K prot (evS Φ (.asg ow2 (.n i) (.comp ow (ownN.map (·.2)) tg it cond elt)))) := by
  have ok' : BlkOk X.N X.env.scope scope ownN := by rw [G.N, G.sc]; exact blkOk_by ok
  unfold sameLine at hl
  simp only [Bool.and_eq_true, decide_eq_true_eq, Bool.not_eq_true'] at hl
  have hyl : X.env.scope.names.lookup x = some .local := by rw [G.sc]; exact hl.1.2
  exact (ps_setLc G.calm G.nd (by rw [G.N]; exact hx) hyl (sw_true G.kd hyl hl.1.1 hl.2) hi ok' (fun s H C cl fp => pg_nt (good_blk G ok' s H C cl fp) tg tg' hg) (fun s H C cl fp => ht _ (good_blk G ok' s H C cl fp)) (fun s H C cl fp => he _ (good_blk G ok' s H C cl fp)) (fold_no hs)).of fun D σ H q =>
    comp_go hsl (tE.imp (asg_go q) fun v H' z => tG_name hp z)
/-- x = [..] over several lines, or where the name is the block's too -/
def otherLine (c : Cfg) (x : Str) (py pos : Pos) (scope : Scope) : Bool := !((py.line == pos.line) && decide (c.sc.names.lookup x = some .local) && !(scope.names.any fun (n, k) => n == x && (k == .local || k == .cell)))
theorem sw_other {elt : Expr} {gs : List Comprehension} {scope : Scope} {pos py : Pos} {y : Str} {l : Nat} {env : PySem.Env} (hk : env.scope.kind = .function) (h : otherLine { N := [], sc := env.scope, own := scope, fns := [], gcd := false } y py pos scope = true) : swapsWith (.ListComp elt gs scope pos) (some (.Name y py)) l env = pure false := by
  have hb : env.blockKind = .function := by unfold Env.blockKind; rw [hk]; rfl
  unfold otherLine at h
  have key : (env.blockKind == .function && env.kindOf y == some .local && py.line == (Expr.ListComp elt gs scope pos).pos.line && !(scope.names.any fun (n, k) => n == y && (k == .local || k == .cell))) = false := by
    rw [hb]
    show (true && (env.scope.names.lookup y == some .local) && (py.line == pos.line) && !(scope.names.any fun (n, k) => n == y && (k == .local || k == .cell))) = false
    have e : (env.scope.names.lookup y == some .local) = decide (env.scope.names.lookup y = some .local) := by
      by_cases z : env.scope.names.lookup y = some .local
      · rw [decide_eq_true z, z]; rfl
      · rw [decide_eq_false z]; exact beq_eq_false_iff_ne.mpr z
    rw [e, Bool.true_and]
    have h2 : ∀ {b : Bool}, (!b) = true → b = false := fun {b} z => by cases b <;> first | rfl | cases z
    have h2 := h2 (show (!((py.line == pos.line) && decide (env.scope.names.lookup y = some .local) && !(scope.names.any fun (n, k) => n == y && (k == .local || k == .cell)))) = true from h)
    rw [Bool.and_comm (decide _)]
    exact h2
  unfold swapsWith
  show (pure (env.blockKind == .function && env.kindOf y == some .local && py.line == (Expr.ListComp elt gs scope pos).pos.line && !(scope.names.any fun (n, k) => n == y && (k == .local || k == .cell))) : Sem Bool) = pure false
  rw [key]
theorem ps_compO (G : Good Φ c X) {ow2 : Bool} {i : Nat} {x : Str} {a : IE} {elt' : Expr} {gs : List Comprehension} {scope : Scope} {py pos spos : Pos} (hx : ownB c i x = true) (hp : i ∉ prot) (hl : otherLine c x py pos scope = true) (he : PE X (.ListComp elt' gs scope pos) (tE X.K (evE Φ a))) :
    PS X (.Assign [.Name x py] (.ListComp elt' gs scope pos) spos) (tSt X.K prot (evS Φ (.asg ow2 (.n i) a))) := by
  have hs : swapsWith (.ListComp elt' gs scope pos) (some (.Name x py)) spos.line X.env = pure false := sw_other G.kd (by
    show otherLine { N := [], sc := X.env.scope, own := scope, fns := [], gcd := false } x py pos scope = true
    rw [G.sc]; exact hl)
  exact (ps_asg he (pg_nE (prot := prot) G hx hp) hs rfl rfl).of fun D σ H q => asg_go q
end
end Rx
/-! Rx, more: a comprehension over a list of its own, which stays as it is. -/
namespace Rx
open PySem PySem.Spec L2 PyProof.Rows
section
variable {Φ : Funs} {c : Cfg} {X : Cx} {K : PySem.W.Frag} {σ : L2.St}
theorem hcomp_go {j : Nat} {own : List Nat} {tg : NT} {cond : Option IE} {elt : IE} {H : Hp} {Q : VK} (hsl : ∀ i ∈ tg.slots, i ∈ own) (q : tE K (evE Φ (.hcomp j own tg cond elt)) σ H Q) :
    tLc (iList K (tVar j)) (gNT K tg) (tC K Φ cond) (tE K (evE Φ elt)) own σ H Q := by
  obtain ⟨F, L, ms, m, ms', R, e, k⟩ := q
  unfold evE at e
  split at e
  case h_2 => cases e
  rename_i ds hj
  obtain ⟨v, La, L1, h1, h2, h3, h4, h5⟩ := R.own.cut (joinSome hj)
  obtain ⟨n1, n2, n3⟩ := h5 R.nd
  cases h2 with
  | @ls pa _ us ha hdt =>
  generalize hms1 : ms.set j none = ms1 at *
  have paL : pa ∈ L := (h4 pa).mpr (.inl (List.mem_singleton.mpr rfl))
  have paL1 : pa ∉ L1 := n3 pa (List.mem_singleton.mpr rfl)
  have R1 : Rel K F H ms1 σ L1 := ⟨h3, n2, R.sub, fun x hx => R.dis x ((h4 x).mpr (.inr hx))⟩
  have e2 : (if idle ms1 own = true then (compL (tg.put) (fun ms => evC Φ cond ms) (fun ms => evE Φ elt ms) own ds (wipeM ms1 own) []).bind fun (rs, ms2) => (frzAll rs).bind fun es => match (backM ms1 ms2 own)[j]? with
          | some none => some (MV.ls es, (backM ms1 ms2 own).set j (some (.ls ds)))
          | _ => none
      else none) = some (m, ms') := e
  split at e2
  case isFalse => cases e2
  rename_i hidle
  obtain ⟨⟨rs, ms2⟩, e3, e4⟩ := bindSome e2
  obtain ⟨es, f1, f2⟩ := bindSome e4
  refine ⟨_, h1, pa, rfl, ⟨us, SqL.of ha⟩, fun D hD => ?_⟩
  obtain ⟨Lw, Rw, hw⟩ := R1.wipe own
  let W : Nat → Nat → Hp → Prop := fun i n Hi => n = ds.length - i ∧ i ≤ ds.length ∧ ∃ Fi L ms acc xs M, At K F H L1 (wipe σ own) D Fi Hi L ms acc xs M ∧ ms.length = ms1.length ∧ compL (tg.put) (fun ms => evC Φ cond ms) (fun ms => evE Φ elt ms) own (ds.drop i) ms acc = some (rs, ms2)
  have dF1 : F D = none := R1.sub.off hD
  have start : At K F H L1 (wipe σ own) D F (upd H D (.lst [])) Lw (wipeM ms1 own) [] [] [] := by
    refine ⟨Sub.refl _, Rw.newO hD, upd_same, .nil, List.nodup_nil, (fun z => by cases z), fun z => R1.fresh hD (hw D z), dF1, (fun _ z => by cases z), ?_⟩
    exact (Ext.newO hD).less fun x hx => (List.mem_append.mp hx).elim (fun z => List.mem_cons_of_mem _ (hw x z)) fun z => by rw [List.mem_singleton.mp z]; exact List.mem_cons_self
  refine ⟨W, ⟨ds.length, by simp, Nat.zero_le _, F, Lw, wipeM ms1 own, [], [], [], start, wipeM_len _ _, by rw [List.drop_zero]; exact e3⟩, ?_⟩
  rintro i n Hi ⟨hn, hi, Fi, Li, msi, acc, xs, M, a, hml, ec⟩
  have hpa : Hi pa = some (.lst us) := a.ext.keep pa _ ha paL1
  by_cases hlt : i < ds.length
  · have hlu : i < us.length := by rw [← hdt.len]; exact hlt
    refine .inr ⟨(walk_list (xs := us)).goes i Hi hlu (SqL.of hpa), W (i + 1) (ds.length - (i + 1)), fun H' w => ⟨ds.length - (i + 1), by omega, w⟩, fun x H' y => ?_⟩
    have hd : ds[i]? = some ds[i] := List.getElem?_eq_getElem hlt
    rw [List.drop_eq_getElem_cons hlt] at ec
    unfold compL at ec
    obtain ⟨msA, c1, c2⟩ := bindSome ec
    obtain ⟨⟨b, msB⟩, c3, c4⟩ := bindSome c2
    have item : ∃ Fa, At K F H L1 (wipe σ own) D Fa H' Li msi acc xs M ∧ Dt Fa ds[i] x := by
      obtain ⟨w, g1, g2⟩ := hdt.at_ hd
      obtain ⟨z1, z2⟩ := (walk_list (xs := us)).yields i Hi x H' hlu (SqL.of hpa) y
      rw [g1] at z2; cases z2
      subst z1
      exact ⟨Fi, a, g2.mono a.sub⟩
    obtain ⟨Fa, a1, dt⟩ := item
    refine nt_put tg a1.rel dt c1 fun τ' LA RA hLA hs hl => ?_
    have hsame : wipe τ' own = wipe σ own := by
      have z := wipe_same own (τ := τ') (σ := wipe σ own) hl fun j hj => hs j fun z => hj (hsl j z)
      rw [z]
      exact wipe_same own (by rw [wipe_length]) fun j hj => wipe_off own hj
    refine ⟨hsame, ?_⟩
    have a2 := a1.step RA ((Ext.refl Fa H' Li).less hLA)
    refine tC_go RA c3 fun FB HB LB RB EB => ?_
    have a3 := a2.step RB EB
    have again : ∀ {Fx Hx : Hp} {L : List Addr} {ms : MEnv} {acc : List MV} {xs : List V} {M : List Addr}, At K F H L1 τ' D Fx Hx L ms acc xs M → ∃ L', At K F H L1 (wipe σ own) D Fx Hx L' (wipeM ms own) acc xs M := fun {Fx Hx L ms acc xs M} z => by
      obtain ⟨L', w1, w2⟩ := z.rel.wipe own
      rw [hsame] at w1
      exact ⟨L', z.step w1 ((Ext.refl Fx Hx L).less w2)⟩
    have hmB : msB.length = ms1.length := by
      rw [RB.own.len, hl, wipe_length, ← R1.own.len]
    cases b with
    | true =>
      have c4 : ((evE Φ elt msB).bind fun (m, ms3) => if acc.length < lim then compL (tg.put) (fun ms => evC Φ cond ms) (fun ms => evE Φ elt ms) own (ds.drop (i + 1)) (wipeM ms3 own) (acc ++ [m]) else none) = some (rs, ms2) := c4
      obtain ⟨⟨mv, msC⟩, c5, c6⟩ := bindSome c4
      have c6 : (if acc.length < lim then compL (tg.put) (fun ms => evC Φ cond ms) (fun ms => evE Φ elt ms) own (ds.drop (i + 1)) (wipeM msC own) (acc ++ [mv]) else none) = some (rs, ms2) := c6
      split at c6
      case isFalse => cases c6
      rename_i hal
      rw [if_pos rfl]
      refine tE.go RB c5 fun yv FC HC LC MC g => ?_
      obtain ⟨atD, a4⟩ := a3.more g
      obtain ⟨L', a5⟩ := again a4
      refine ⟨xs, atD, by rw [← a3.res.len]; exact lim_lt hal, rfl, hlt, FC, L', _, _, _, _, a5, ?_, c6⟩
      rw [wipeM_len, g.rel.own.len, hl, wipe_length, ← R1.own.len]
    | false =>
      have c4 : compL (tg.put) (fun ms => evC Φ cond ms) (fun ms => evE Φ elt ms) own (ds.drop (i + 1)) (wipeM msB own) acc = some (rs, ms2) := c4
      rw [if_neg (by decide)]
      obtain ⟨L', a5⟩ := again a3
      exact ⟨rfl, hlt, FB, L', _, _, _, _, a5, by rw [wipeM_len]; exact hmB, c4⟩
  · have ei : i = ds.length := by omega
    subst ei
    refine .inl ⟨by rw [hdt.len]; exact (walk_list (xs := us)).stops Hi (SqL.of hpa), ?_⟩
    rw [List.drop_length] at ec
    unfold compL at ec
    cases ec
    obtain ⟨Lb, b1, b2, b3, b4⟩ := R1.own.back a.sub own hidle a.rel.own hml
    rw [restore own (wipe_length _ _) fun j hj => wipe_off own hj] at b1
    have Rb : Rel K Fi Hi (backM ms1 ms2 own) σ Lb := ⟨b1, b3 a.rel.nd, a.rel.sub, fun x hx => a.rel.dis x (b2 x hx)⟩
    have hd : ∀ x ∈ M, Fi x = none := fun x hx => (a.dis x hx).1
    have Rf : Rel K (addF Fi Hi M) Hi (backM ms1 ms2 own) σ Lb := Rb.frz hd fun x hx z => (a.dis x z).2 (b2 x hx)
    have dt : DtAll (addF Fi Hi M) es xs := a.res.frz a.rel.sub f1 (addF_sub hd) fun x hx => addF_in hx
    have off : pa ∉ Li ++ D :: M := a.ext.off pa _ ha paL1
    have oM : pa ∉ M := fun z => off (List.mem_append_right _ (List.mem_cons_of_mem _ z))
    have oD : pa ≠ D := fun z => off (List.mem_append_right _ (by rw [z]; exact List.mem_cons_self))
    have oL : pa ∉ Lb := fun z => off (List.mem_append_left _ (b2 _ z))
    have fpa : addF Fi Hi M pa = none := (addF_out oM).trans ((a.ext.same pa _ ha paL1).trans (R.dis pa paL))
    have z : Ext F H L1 (addF Fi Hi M) Hi (Li ++ [D]) := by
      refine a.ext.trans ((Ext.addF (L := Li ++ [D]) hd).mem (L2 := Li ++ D :: M) (L2' := Li ++ [D]) (fun x hx => ?_) fun x o _ n z => n ?_)
      · rcases List.mem_append.mp hx with hx | hx
        · rcases List.mem_append.mp hx with hx | hx
          · exact List.mem_append_left _ hx
          · rw [List.mem_singleton.mp hx]; exact List.mem_append_right _ List.mem_cons_self
        · exact List.mem_append_right _ (List.mem_cons_of_mem _ hx)
      · rcases List.mem_append.mp z with z | z
        · exact List.mem_append_left _ z
        · rw [List.mem_singleton.mp z]; exact List.mem_append_right _ List.mem_cons_self
    split at f2
    · rename_i hnone
      cases f2
      obtain ⟨Lc, w1, w2, w3⟩ := Rf.own.fill hnone h1 (.ls hpa (hdt.mono (a.sub.trans (addF_sub hd))))
      have Rc : Rel K (addF Fi Hi M) Hi ((backM ms1 ms2 own).set j (some (.ls ds))) σ Lc := ⟨w1, w3 Rf.nd (by simp) (fun x hx => by rw [List.mem_singleton.mp hx]; exact oL), Rf.sub, fun x hx => by
        rcases (w2 x).mp hx with hx | hx
        · rw [List.mem_singleton.mp hx]; exact fpa
        · exact Rf.dis x hx⟩
      have LcD : D ∉ Lc := fun hx => by
        rcases (w2 D).mp hx with hx | hx
        · exact oD (List.mem_singleton.mp hx).symm
        · exact a.dL (b2 _ hx)
      refine k _ (addF Fi Hi M) Hi Lc [D] ⟨Rc, .one (.ls a.at_ dt), (by simp), fun x hx => ?_, ?_⟩
      · rw [List.mem_singleton.mp hx]
        exact ⟨(addF_out a.dM).trans a.dF, LcD⟩
      · have nL : ∀ x, x ∉ L → x ∉ L1 := fun x n y => n ((h4 x).mpr (.inr y))
        exact ⟨z.fr, fun x o q n => z.keep x o q (nL x n), fun x o q n y => by
          have zo := z.off x o q (nL x n)
          rcases List.mem_append.mp y with y | y
          · rcases (w2 x).mp y with y | y
            · exact n (by rw [List.mem_singleton.mp y]; exact paL)
            · exact zo (List.mem_append_left _ (b2 _ y))
          · exact zo (List.mem_append_right _ y), fun x o q n => z.same x o q (nL x n)⟩
    · cases f2
theorem pe_hcompE (G : Good Φ c X) {j : Nat} {x : Str} {ownN : List (Str × Nat)} {tg : NT} {cond : Option IE} {elt : IE} {elt' tg' : Expr} {ifs : List Expr} {scope : Scope} {pos p : Pos} (hx : nameB c j x = true) (ok : blkC c.N c.sc scope ownN = true)
    (hg : chkNT (c.blk scope) tg tg' = true) (hsl : ∀ i ∈ tg.slots, i ∈ ownN.map (·.2))
    (ht : ∀ Y, Good Φ (c.blk scope) Y → PTs Y ifs (tC Y.K Φ cond)) (he : ∀ Y, Good Φ (c.blk scope) Y → PE Y elt' (tE Y.K (evE Φ elt))) :
    PE X (.ListComp elt' [⟨tg', .Name x p, ifs, 0⟩] scope pos) (tE X.K (evE Φ (.hcomp j (ownN.map (·.2)) tg cond elt))) := by
  have ok' : BlkOk X.N X.env.scope scope ownN := by rw [G.N, G.sc]; exact blkOk_by ok
  exact (pe_lc G.calm G.nd (pi_list (pe_name G hx)) ok' (fun s H C cl fp => pg_nt (good_blk G ok' s H C cl fp) tg tg' hg) (fun s H C cl fp => ht _ (good_blk G ok' s H C cl fp)) (fun s H C cl fp => he _ (good_blk G ok' s H C cl fp)) (fold_no rfl)).of fun σ H Q q => hcomp_go hsl q
end
end Rx
/-! Rx, part 19: the look at expressions, and that it is enough. -/
namespace Rx
open PySem PySem.Spec L2 PyProof.Rows

abbrev LkE := Cfg → IE → Expr → Bool
def lkOs (r : LkE) (c : Cfg) : List IE → List Expr → Bool
  | [], [] => true
  | a :: as, e :: es => (match a with
      | .pk i => (match e with | .Name x _ => nameB c i x | _ => false)
      | a => r c a e) && lkOs r c as es
  | _, _ => false
def lkEs (r : LkE) (c : Cfg) : List IE → List Expr → Bool
  | [], [] => true
  | a :: as, e :: es => r c a e && lkEs r c as es
  | _, _ => false
def lkAs (r : LkE) (c : Cfg) : List IE → List Expr → Bool
  | [], [] => true
  | a :: as, e :: es => (match a with
      | .mov i => (match e with | .Name x _ => nameB c i x | _ => false)
      | a => r c a e) && lkAs r c as es
  | _, _ => false
def isNon : Expr → Bool
  | .Constant .none _ _ => true
  | _ => false
def noPks (as : List IE) : Bool := as.all fun a => !isPk a
def lkIsa (r : LkE) (c : Cfg) (o : Op) (as : List IE) (x : Str) (e : Expr) (es : List Expr) : Bool := match o, es with
  | .isa t, [.Name y _] => decide (x = "isinstance") && tyB t y && globB c y && plainE e && lkOs r c as [e]
  | _, _ => false
def lkLr (r : LkE) (c : Cfg) (o : Op) (as : List IE) (x : Str) (e : Expr) (es : List Expr) : Bool := match o, e, es with
  | .lrange1, .Call (.Name z _) [a] [] _, [] => decide (x = "list") && decide (z = "range") && globB c z && plainE a && lkOs r c as [a]
  | .lrange2, .Call (.Name z _) [a, b] [] _, [] => decide (x = "list") && decide (z = "range") && globB c z && plainE a && plainE b && lkOs r c as [a, b]
  | .trange3, .Call (.Name z _) [a, b, d] [] _, [] => decide (x = "tuple") && decide (z = "range") && globB c z && plainE a && plainE b && plainE d && lkOs r c as [a, b, d]
  | _, _, _ => false
def lkDct (r : LkE) (c : Cfg) (as : List IE) : Expr → Bool
  | .Call (.Name z _) [a] [] _ => decide (z = "dict") && globB c z && plainE a && lkOs r c as [a]
  | _ => false
def lkSrt (r : LkE) (c : Cfg) (o : Op) (as : List IE) (x : Str) (e : Expr) (es : List Expr) : Bool := match o, es with
  | .sorted, [] => decide (x = "sorted") && plainE e && lkOs r c as [e]
  | .min1, [] => decide (x = "min") && plainE e && lkOs r c as [e]
  | .lend, [] => decide (x = "len") && lkDct r c as e
  | .max1, [] => decide (x = "max") && plainE e && lkOs r c as [e]
  | .tsum, [] => decide (x = "sum") && plainE e && lkOs r c as [e]
  | _, _ => false
def isBase : Expr → Bool
  | .Name .. => true
  | .Subscript .. => true
  | _ => false
def isCall : Expr → Bool
  | .Call (.Name _ _) (_ :: _) _ _ => true
  | _ => false
def lkIx (r : LkE) (c : Cfg) : List IE → Expr → Expr → Bool
  | [a, b], l, e => !isPk a && !isPk b && r c a l && r c b e
  | _, _, _ => false
def lkOp (r : LkE) (c : Cfg) (o : Op) (as : List IE) : Expr → Bool
  | .BinOp l bo x _ => decide (binO o = some bo) && lkOs r c as [l, x]
  | .Compare l ops xs _ => (match ops, xs with
      | [co], [x] => (decide (nonO o = some co) && isNon x && lkOs r c as [l]) || (decide (cmpO o = some co) && noSet x && lkOs r c as [l, x])
      | _, _ => false)
  | .UnaryOp u x _ => decide (u = .USub) && decide (o = .neg) && lkOs r c as [x]
  | .Subscript l x _ => (match x with
      | .Slice lo hi st _ => (match lo, hi, st with
          | none, none, none => decide (o = .sl false false) && lkOs r c as [l]
          | some a, none, none => decide (o = .sl true false) && lkOs r c as [l, a] && noPks as.tail
          | none, some b, none => decide (o = .sl false true) && lkOs r c as [l, b] && noPks as.tail
          | some a, some b, none => decide (o = .sl true true) && lkOs r c as [l, a, b] && noPks as.tail
          | none, none, some (.UnaryOp .USub (.Constant (.int 1) _ _) _) => decide (o = .rev) && lkOs r c as [l]
          | _, _, _ => false)
      | x => decide (o = .ix) && noSlice x && lkOs r c as [l, x])
  | .Call f es ks cp => (match f, es, ks with
      | .Attribute l m ap, [e], [] => ((decide (m = "index") && ((decide (o = .index) && isBase l) || (decide (o = .lindex) && (isCall l || isBase l)))) || (decide (m = "count") && (decide (o = .count) && isBase l))) && plainE e && (ap.endLine == cp.line) && lkIx r c as l e
      | .Name x _, e :: es, [] => globB c x && (lkIsa r c o as x e es || lkLr r c o as x e es || lkSrt r c o as x e es || ((e :: es).all plainE && lkOs r c as (e :: es) && (decide (bltO o = some x) || (decide (o = .gcd) && decide (x = "gcd") && c.gcd))))
      | _, _, _ => false)
  | _ => false
def isTupE : Expr → Bool
  | .Tuple .. => true
  | _ => false
def kwZ : Bool → List Keyword → Bool
  | false, [] => true
  | true, [⟨some y, .Constant (.bool true) _ _, _⟩] => decide (y = Str.ofString "strict")
  | _, _ => false
def lkI (r : LkE) (c : Cfg) (tg : Expr) : II → Expr → Bool
  | .seq a, e => r c a e
  | .rng1 a, .Call (.Name x _) [e] [] _ => decide (x = "range") && globB c x && plainE e && r c a e
  | .rng2 a b, .Call (.Name x _) [e, e'] [] _ => decide (x = "range") && globB c x && plainE e && plainE e' && r c a e && r c b e'
  | .scr i, .Name x _ => nameB c i x
  | .rngs i, .Name x _ => nameB c i x
  | .tkeys i, .Name x _ => nameB c i x
  | .enum a, .Call (.Name x _) [e] [] _ => decide (x = "enumerate") && globB c x && plainE e && r c a e && isTupE tg
  | .zip st a b, .Call (.Name x _) [e, e'] ks _ => decide (x = "zip") && globB c x && plainE e && plainE e' && r c a e && r c b e' && isTupE tg && kwZ st ks
  | _, _ => false
def ownNames (c : Cfg) (own : List Nat) : List (Str × Nat) := own.map fun i => ((c.N[i]?).getD ⟨#[]⟩, i)
def lkComp (r : LkE) (c : Cfg) (own : List Nat) (tg : NT) (it : II) (cond : Option IE) (elt : IE) : Expr → Bool
  | .ListComp elt' gs scope _ => (match gs with
      | [⟨tg', iter, ifs, k⟩] => decide (k = 0) && blkC c.N c.sc scope (ownNames c own) && chkNT (c.blk scope) tg tg' && (tg.slots.all fun i => decide (i ∈ own)) && lkI r c tg' it iter && noSet iter &&
          (match cond, ifs with
            | none, [] => true
            | some q, [t] => r (c.blk scope) q t
            | _, _ => false) && r (c.blk scope) elt elt'
      | _ => false)
  | _ => false
def lkHc (r : LkE) (c : Cfg) (j : Nat) (own : List Nat) (tg : NT) (cond : Option IE) (elt : IE) : Expr → Bool
  | .ListComp elt' gs scope _ => (match gs with
      | [⟨tg', .Name x _, ifs, k⟩] => decide (k = 0) && blkC c.N c.sc scope (ownNames c own) && chkNT (c.blk scope) tg tg' && (tg.slots.all fun i => decide (i ∈ own)) && nameB c j x &&
          (match cond, ifs with
            | none, [] => true
            | some q, [t] => r (c.blk scope) q t
            | _, _ => false) && r (c.blk scope) elt elt'
      | _ => false)
  | _ => false
def lkKs : List Key → List (Option Expr) → Bool
  | [], [] => true
  | k :: ks, some (.Constant x _ _) :: es => (match k, x with
      | .inl i, .int j => decide (i = j)
      | .inr s, .str t => decide (s = t)
      | _, _ => false) && lkKs ks es
  | _, _ => false
def lkPart (r : LkE) (c : Cfg) (a : IE) : Bool → Expr → Bool
  | true, .Starred e _ => r c a e
  | false, e => plainE e && r c a e
  | _, _ => false
def lkSts (r : LkE) (c : Cfg) : List IE → List Bool → List Expr → Bool
  | [], [], [] => true
  | a :: as, b :: ss, e :: es => lkPart r c a b e && lkSts r c as ss es
  | _, _, _ => false
def lkStep (r : LkE) (c : Cfg) : IE → Expr → Bool
  | .var i, .Name x _ => nameB c i x
  | .frz i, .Name x _ => nameB c i x
  | .mov i, .Name x _ => nameB c i x
  | .cst d, .Constant k _ _ => cstB d k
  | .op o as, e => lkOp r c o as e
  | .tup as, .Tuple es _ _ => lkEs r c as es && es.all plainE
  | .otup as, .Tuple es _ _ => lkEs r c as es && es.all plainE
  | .lst as, .List es _ => lkEs r c as es && es.all plainE
  | .olst as, .List es _ => lkEs r c as es && es.all plainE
  | .and_ a b, .BoolOp .And (x :: y :: rest) p => r c a x && r c b (match rest with | [] => y | _ => .BoolOp .And (y :: rest) p)
  | .or_ a b, .BoolOp .Or (x :: y :: rest) p => r c a x && r c b (match rest with | [] => y | _ => .BoolOp .Or (y :: rest) p)
  | .not_ a, .UnaryOp u x _ => decide (u = .Not) && r c a x
  | .ite q a b, .IfExp t x y _ => r c q t && r c a x && r c b y
  | .chain o1 o2 a b d, .Compare l [c1, c2] [m, x] _ => decide (cmpO o1 = some c1) && decide (cmpO o2 = some c2) && r c a l && r c b m && r c d x && noSet m && noSet x
  | .call f as, .Call (.Name x _) (e :: es) [] _ => decide (c.fns[f]? = some (x, as.length)) && globB c x && (e :: es).all plainE && lkAs r c as (e :: es)
  | .comp _ own tg it cond elt, e => lkComp r c own tg it cond elt e
  | .rd _ i k, .Subscript (.Name x _) ke _ => nameB c i x && noSlice ke && r c k ke
  | .rd2 i k l, .Subscript (.Subscript (.Name x _) ke _) le _ => nameB c i x && noSlice ke && r c k ke && noSlice le && r c l le
  | .pop i, .Call (.Attribute (.Name x _) m ap) [] [] cp => decide (m = "pop") && nameB c i x && (ap.endLine == cp.line)
  | .popi i a, .Call (.Attribute (.Name x _) m ap) [e] [] cp => decide (m = "pop") && nameB c i x && (ap.endLine == cp.line) && plainE e && r c a e
  | .dpop i y, .Call (.Attribute (.Subscript (.Name x _) (.Constant (.str z) _ _) _) m ap) [] [] cp => decide (m = "pop") && nameB c i x && (ap.endLine == cp.line) && decide (y = z)
  | .dlen i y, .Call (.Name z _) [.Subscript (.Name x _) (.Constant (.str y') _ _) _] [] _ => decide (z = "len") && globB c z && nameB c i x && decide (y = y')
  | .odct ks as, .Dict keys vals _ => (keys.isEmpty && vals.isEmpty && ks.isEmpty && as.isEmpty) || (lkKs ks keys && lkEs r c as vals && decide (keys.length = vals.length) && decide (keys.length ≤ 15) && !keys.isEmpty)
  | .chain3 o1 o2 o3 a b d e, .Compare l [c1, c2, c3] [m, x, y] _ => decide (cmpO o1 = some c1) && decide (cmpO o2 = some c2) && decide (cmpO o3 = some c3) && r c a l && r c b m && r c d x && r c e y && noSet y
  | .stup ss as, .Tuple es _ _ => lkSts r c as ss es
  | .rngv a b, .Call (.Name x _) [e, e'] [] _ => decide (x = "range") && globB c x && plainE e && plainE e' && r c a e && r c b e'
  | .inR neg a i, .Compare l [co] [.Name x _] _ => decide (co = if neg = true then .NotIn else .In) && r c a l && nameB c i x
  | .dget i k d, .Call (.Attribute (.Name x _) m ap) [ke, de] [] cp => decide (m = "get") && nameB c i x && (ap.endLine == cp.line) && plainE ke && plainE de && r c k ke && r c d de
  | .kcat i k a, .BinOp (.Subscript (.Name x _) ke _) bo le _ => decide (bo = .Add) && nameB c i x && noSlice ke && r c k ke && r c a le
  | .krev i k, .Subscript (.Subscript (.Name x _) ke _) (.Slice none none (some (.UnaryOp .USub (.Constant (.int 1) _ _) _)) _) _ => nameB c i x && noSlice ke && r c k ke
  | .inD neg a i, .Compare l [co] [.Name x _] _ => decide (co = if neg = true then .NotIn else .In) && r c a l && nameB c i x
  | .tmk, .Dict keys vals _ => keys.isEmpty && vals.isEmpty
  | .kin neg a i k, .Compare l [co] [.Subscript (.Name x _) ke _] _ => decide (co = if neg = true then .NotIn else .In) && r c a l && nameB c i x && noSlice ke && r c k ke
  | .tnew a, .Call (.Name y _) [e] [] _ => decide (y = "dict") && globB c y && plainE e && r c a e
  | .trd i k, .Subscript (.Name x _) ke _ => nameB c i x && noSlice ke && r c k ke
  | .tin neg a i, .Compare l [co] [.Name x _] _ => decide (co = if neg = true then .NotIn else .In) && r c a l && nameB c i x
  | .tget i k, .Call (.Attribute (.Name x _) m ap) [ke] [] cp => decide (m = "get") && nameB c i x && (ap.endLine == cp.line) && plainE ke && r c k ke
  | .tlen i, .Call (.Name y _) [.Name x _] [] _ => decide (y = "len") && globB c y && nameB c i x
  | .tsort i, .Call (.Name y _) [.Name x _] [] _ => decide (y = "sorted") && globB c y && nameB c i x
  | .tfz i, .Name x _ => nameB c i x
  | .hcomp j own tg cond elt, e => lkHc r c j own tg cond elt e
  | _, _ => false
def lk : Nat → LkE
  | 0 => fun _ _ _ => false
  | n + 1 => lkStep (lk n)

def isBO : Expr → Bool
  | .BoolOp .. => true
  | _ => false
/-- both as a value and as a test -/
structure PB (Φ : Funs) (X : Cx) (a : IE) (e : Expr) : Prop where
  pe : PE X e (tE X.K (evE Φ a))
  pt : PT X e (tT X.K (evE Φ a))
  pw : isBO e = true → PW X e (tT X.K (evE Φ a))
def Snd (Φ : Funs) (r : LkE) : Prop := ∀ c a e, r c a e = true → ∀ X, Good Φ c X → PB Φ X a e
section
variable {Φ : Funs} {c : Cfg} {X : Cx} {r : LkE} {σ : L2.St}
theorem pb_val {a : IE} {e : Expr} (h : PE X e (tE X.K (evE Φ a))) (he : ∀ whole, isTrue e X.env whole = (do let v ← whole; standAt e.pos; holding [v] (truthy v))) (hb : isBO e = false := by rfl) : PB Φ X a e := ⟨h, (pt_val h he).of fun _ _ _ q => tT_val q, fun z => by rw [hb] at z; cases z⟩
theorem os_ok (S : Snd Φ r) (G : Good Φ c X) : ∀ {as : List IE} {es : List Expr}, lkOs r c as es = true → as.length = es.length ∧ ∀ (j : Nat) (a : IE) (e : Expr), as[j]? = some a → es[j]? = some e → PE X e (tO X.K Φ a)
  | [], [], _ => ⟨rfl, fun j a e h => by simp at h⟩
  | [], _ :: _, h => by unfold lkOs at h; cases h
  | _ :: _, [], h => by unfold lkOs at h; cases h
  | a :: as, e :: es, h => by
    unfold lkOs at h
    rw [Bool.and_eq_true] at h
    obtain ⟨h1, h2⟩ := os_ok S G h.2
    refine ⟨by rw [List.length_cons, List.length_cons, h1], fun j a' e' q1 q2 => ?_⟩
    cases j with
    | succ j => exact h2 j a' e' (by simpa using q1) (by simpa using q2)
    | zero =>
      simp at q1 q2
      subst q1 q2
      have h0 := h.1
      split at h0
      · split at h0
        · exact pe_name G h0
        · cases h0
      · rename_i hno
        refine pe_toO (S c _ _ h0 X G).pe ?_
        cases a with
        | pk i => exact absurd rfl (hno i)
        | _ => rfl
theorem os1 (S : Snd Φ r) (G : Good Φ c X) {as : List IE} {e : Expr} (h : lkOs r c as [e] = true) : ∃ a, as = [a] ∧ PE X e (tO X.K Φ a) := by
  obtain ⟨h1, h2⟩ := os_ok S G h
  match as, h1, h2 with
  | [a], _, h2 => exact ⟨a, rfl, h2 0 a e rfl rfl⟩
theorem os2 (S : Snd Φ r) (G : Good Φ c X) {as : List IE} {e e' : Expr} (h : lkOs r c as [e, e'] = true) : ∃ a b, as = [a, b] ∧ PE X e (tO X.K Φ a) ∧ PE X e' (tO X.K Φ b) := by
  obtain ⟨h1, h2⟩ := os_ok S G h
  match as, h1, h2 with
  | [a, b], _, h2 => exact ⟨a, b, rfl, h2 0 a e rfl rfl, h2 1 b e' rfl rfl⟩
theorem os3 (S : Snd Φ r) (G : Good Φ c X) {as : List IE} {e e' e'' : Expr} (h : lkOs r c as [e, e', e''] = true) : ∃ a b d, as = [a, b, d] ∧ PE X e (tO X.K Φ a) ∧ PE X e' (tO X.K Φ b) ∧ PE X e'' (tO X.K Φ d) := by
  obtain ⟨h1, h2⟩ := os_ok S G h
  match as, h1, h2 with
  | [a, b, d], _, h2 => exact ⟨a, b, d, rfl, h2 0 a e rfl rfl, h2 1 b e' rfl rfl, h2 2 d e'' rfl rfl⟩
theorem toO_pk {a : IE} {e : Expr} (h : PE X e (tO X.K Φ a)) (n : isPk a = false) : PE X e (tE X.K (evE Φ a)) := by
  cases a with
  | pk i => cases n
  | _ => exact h
theorem es_ok (S : Snd Φ r) (G : Good Φ c X) : ∀ {as : List IE} {es : List Expr}, lkEs r c as es = true → as.length = es.length ∧ ∀ (j : Nat) (a : IE) (e : Expr), as[j]? = some a → es[j]? = some e → PE X e (tE X.K (evE Φ a))
  | [], [], _ => ⟨rfl, fun j a e h => by simp at h⟩
  | [], _ :: _, h => by unfold lkEs at h; cases h
  | _ :: _, [], h => by unfold lkEs at h; cases h
  | a :: as, e :: es, h => by
    unfold lkEs at h
    rw [Bool.and_eq_true] at h
    obtain ⟨h1, h2⟩ := es_ok S G h.2
    refine ⟨by rw [List.length_cons, List.length_cons, h1], fun j a' e' q1 q2 => ?_⟩
    cases j with
    | succ j => exact h2 j a' e' (by simpa using q1) (by simpa using q2)
    | zero =>
      simp at q1 q2
      subst q1 q2
      exact (S c _ _ h.1 X G).pe
theorem as_ok (S : Snd Φ r) (G : Good Φ c X) : ∀ {as : List IE} {es : List Expr}, lkAs r c as es = true → as.length = es.length ∧ ∀ (j : Nat) (a : IE) (e : Expr), as[j]? = some a → es[j]? = some e → PE X e (tR X.K Φ a)
  | [], [], _ => ⟨rfl, fun j a e h => by simp at h⟩
  | [], _ :: _, h => by unfold lkAs at h; cases h
  | _ :: _, [], h => by unfold lkAs at h; cases h
  | a :: as, e :: es, h => by
    unfold lkAs at h
    rw [Bool.and_eq_true] at h
    obtain ⟨h1, h2⟩ := as_ok S G h.2
    refine ⟨by rw [List.length_cons, List.length_cons, h1], fun j a' e' q1 q2 => ?_⟩
    cases j with
    | succ j => exact h2 j a' e' (by simpa using q1) (by simpa using q2)
    | zero =>
      simp at q1 q2
      subst q1 q2
      have h0 := h.1
      split at h0
      · split at h0
        · exact pe_name G h0
        · cases h0
      · rename_i hno
        have z := (S c _ _ h0 X G).pe
        cases a with
        | mov i => exact absurd rfl (hno i)
        | _ => exact z
theorem isa_ok (S : Snd Φ r) (G : Good Φ c X) {o : Op} {as : List IE} {x : Str} {e : Expr} {es : List Expr} {p pos : Pos} (hx : globB c x = true) (h : lkIsa r c o as x e es = true) : PE X (.Call (.Name x p) (e :: es) [] pos) (tE X.K (evE Φ (.op o as))) := by
  unfold lkIsa at h
  split at h
  · simp only [Bool.and_eq_true, decide_eq_true_eq] at h
    obtain ⟨⟨⟨⟨h1, h2⟩, h3⟩, h4⟩, h5⟩ := h
    obtain ⟨a, rfl, ha⟩ := os1 S G h5
    exact pe_isaE G h1 hx h2 h3 ha h4
  · cases h
theorem lr_ok (S : Snd Φ r) (G : Good Φ c X) {o : Op} {as : List IE} {x : Str} {e : Expr} {es : List Expr} {p pos : Pos} (hx : globB c x = true) (h : lkLr r c o as x e es = true) : PE X (.Call (.Name x p) (e :: es) [] pos) (tE X.K (evE Φ (.op o as))) := by
  unfold lkLr at h
  split at h
  · simp only [Bool.and_eq_true, decide_eq_true_eq] at h
    obtain ⟨⟨⟨⟨h1, h2⟩, h3⟩, h4⟩, h5⟩ := h
    obtain ⟨a, rfl, ha⟩ := os1 S G h5
    exact pe_lr1E G h1 h2 hx h3 ha h4
  · simp only [Bool.and_eq_true, decide_eq_true_eq] at h
    obtain ⟨⟨⟨⟨⟨h1, h2⟩, h3⟩, h4⟩, h5⟩, h6⟩ := h
    obtain ⟨a, b, rfl, ha, hb⟩ := os2 S G h6
    exact pe_lr2E G h1 h2 hx h3 ha hb h4 h5
  · simp only [Bool.and_eq_true, decide_eq_true_eq] at h
    obtain ⟨⟨⟨⟨⟨⟨h1, h2⟩, h3⟩, h4⟩, h5⟩, h6⟩, h7⟩ := h
    obtain ⟨a, b, d, rfl, ha, hb, hd⟩ := os3 S G h7
    exact pe_tr3E G h1 h2 hx h3 ha hb hd h4 h5 h6
  · cases h
theorem srt_ok (S : Snd Φ r) (G : Good Φ c X) {o : Op} {as : List IE} {x : Str} {e : Expr} {es : List Expr} {p pos : Pos} (hx : globB c x = true) (h : lkSrt r c o as x e es = true) : PE X (.Call (.Name x p) (e :: es) [] pos) (tE X.K (evE Φ (.op o as))) := by
  unfold lkSrt at h
  split at h
  · simp only [Bool.and_eq_true, decide_eq_true_eq] at h
    obtain ⟨⟨h1, h2⟩, h3⟩ := h
    obtain ⟨a, rfl, ha⟩ := os1 S G h3
    exact pe_sortE G h1 hx ha h2
  · simp only [Bool.and_eq_true, decide_eq_true_eq] at h
    obtain ⟨⟨h1, h2⟩, h3⟩ := h
    obtain ⟨a, rfl, ha⟩ := os1 S G h3
    exact pe_min1E G h1 hx ha h2
  · simp only [Bool.and_eq_true, decide_eq_true_eq] at h
    obtain ⟨h1, h2⟩ := h
    unfold lkDct at h2
    split at h2
    · simp only [Bool.and_eq_true, decide_eq_true_eq] at h2
      obtain ⟨⟨⟨h2, h3⟩, h4⟩, h5⟩ := h2
      obtain ⟨a, rfl, ha⟩ := os1 S G h5
      exact pe_lendE G h1 h2 hx h3 ha h4
    · cases h2
  · simp only [Bool.and_eq_true, decide_eq_true_eq] at h
    obtain ⟨⟨h1, h2⟩, h3⟩ := h
    obtain ⟨a, rfl, ha⟩ := os1 S G h3
    exact pe_max1E G h1 hx ha h2
  · simp only [Bool.and_eq_true, decide_eq_true_eq] at h
    obtain ⟨⟨h1, h2⟩, h3⟩ := h
    obtain ⟨a, rfl, ha⟩ := os1 S G h3
    exact pe_tsumE G h1 hx ha h2
  · cases h
theorem op_ok (S : Snd Φ r) (G : Good Φ c X) {o : Op} {as : List IE} {e : Expr} (h : lkOp r c o as e = true) : PB Φ X (.op o as) e := by
  unfold lkOp at h
  split at h
  · rw [Bool.and_eq_true, decide_eq_true_eq] at h
    obtain ⟨a, b, rfl, h1, h2⟩ := os2 S G h.2
    exact pb_val (pe_bin G h.1 h1 h2) fun _ => rfl
  · split at h
    · rw [Bool.or_eq_true] at h
      rcases h with h | h
      · simp only [Bool.and_eq_true, decide_eq_true_eq] at h
        obtain ⟨a, rfl, h1⟩ := os1 S G h.2
        rename_i x
        have hx := h.1.2
        unfold isNon at hx
        split at hx
        · exact ⟨pe_nonE h.1.1 h1, pt_nonE h.1.1 h1, fun z => by cases z⟩
        · cases hx
      · simp only [Bool.and_eq_true, decide_eq_true_eq] at h
        obtain ⟨a, b, rfl, h1, h2⟩ := os2 S G h.2
        exact ⟨pe_cmpE G h.1.1 h1 h2 h.1.2, pt_cmpE G h.1.1 h1 h2 h.1.2, fun z => by cases z⟩
    · cases h
  · simp only [Bool.and_eq_true, decide_eq_true_eq] at h
    obtain ⟨⟨h1, h2⟩, h3⟩ := h
    subst h1 h2
    obtain ⟨a, rfl, h1⟩ := os1 S G h3
    exact pb_val (pe_negE G h1) fun _ => rfl
  · split at h
    · split at h
      · simp only [Bool.and_eq_true, decide_eq_true_eq] at h
        obtain ⟨h1, h2⟩ := h
        subst h1
        obtain ⟨a, rfl, h1⟩ := os1 S G h2
        exact pb_val (pe_sl00 h1) fun _ => rfl
      · simp only [Bool.and_eq_true, decide_eq_true_eq] at h
        obtain ⟨⟨h1, h2⟩, h3⟩ := h
        subst h1
        obtain ⟨a, b, rfl, h1, h2⟩ := os2 S G h2
        have n : isPk b = false := by simpa [noPks] using h3
        exact pb_val (pe_sl10 h1 (toO_pk h2 n) n) fun _ => rfl
      · simp only [Bool.and_eq_true, decide_eq_true_eq] at h
        obtain ⟨⟨h1, h2⟩, h3⟩ := h
        subst h1
        obtain ⟨a, b, rfl, h1, h2⟩ := os2 S G h2
        have n : isPk b = false := by simpa [noPks] using h3
        exact pb_val (pe_sl01 h1 (toO_pk h2 n) n) fun _ => rfl
      · simp only [Bool.and_eq_true, decide_eq_true_eq] at h
        obtain ⟨⟨h1, h2⟩, h3⟩ := h
        subst h1
        obtain ⟨a, b, d, rfl, h1, h2, h4⟩ := os3 S G h2
        have n : isPk b = false ∧ isPk d = false := by simpa [noPks] using h3
        exact pb_val (pe_sl11 h1 (toO_pk h2 n.1) (toO_pk h4 n.2) n.1 n.2) fun _ => rfl
      · simp only [Bool.and_eq_true, decide_eq_true_eq] at h
        obtain ⟨h1, h2⟩ := h
        subst h1
        obtain ⟨a, rfl, h1⟩ := os1 S G h2
        exact pb_val (pe_revE h1) fun _ => rfl
      · cases h
    · simp only [Bool.and_eq_true, decide_eq_true_eq] at h
      obtain ⟨⟨h1, h2⟩, h3⟩ := h
      subst h1
      obtain ⟨a, b, rfl, h1, h4⟩ := os2 S G h3
      exact pb_val (pe_ixE G h1 h4 h2) fun _ => rfl
  · split at h
    · simp only [Bool.and_eq_true, Bool.or_eq_true, decide_eq_true_eq] at h
      obtain ⟨⟨⟨h1, h4⟩, h5⟩, h6⟩ := h
      have base : ∀ {l : Expr} {m : Str}, isBase l = true → attributeBase l m X.env (eval l X.env) = eval l X.env := fun {l m} h3 => by
        unfold isBase at h3
        split at h3
        · rfl
        · rfl
        · cases h3
      unfold lkIx at h6
      split at h6
      · simp only [Bool.and_eq_true, Bool.not_eq_true'] at h6
        obtain ⟨⟨⟨k1, k2⟩, k3⟩, k4⟩ := h6
        rcases h1 with ⟨rfl, ⟨rfl, h3⟩ | ⟨rfl, h3⟩⟩ | ⟨rfl, rfl, h3⟩
        · refine pb_val (pe_indexE G k1 k2 (S _ _ _ k3 X G).pe (S _ _ _ k4 X G).pe h4 h5 ?_) fun _ => rfl
          exact base h3
        · refine pb_val (pe_lindexE G k1 k2 (S _ _ _ k3 X G).pe (S _ _ _ k4 X G).pe h4 h5 ?_) fun _ => rfl
          rcases h3 with h3 | h3
          · unfold isCall at h3
            split at h3
            · rfl
            · cases h3
          · exact base h3
        · exact pb_val (pe_countE G k1 k2 (S _ _ _ k3 X G).pe (S _ _ _ k4 X G).pe h4 h5 (base h3)) fun _ => rfl
      · cases h6
    · simp only [Bool.and_eq_true, Bool.or_eq_true, decide_eq_true_eq] at h
      obtain ⟨h1, ((h | h) | h) | ⟨⟨h2, h3⟩, h4⟩⟩ := h
      · exact pb_val (isa_ok S G h1 h) fun _ => rfl
      · exact pb_val (lr_ok S G h1 h) fun _ => rfl
      · exact pb_val (srt_ok S G h1 h) fun _ => rfl
      obtain ⟨k1, k2⟩ := os_ok S G h3
      have hp := h2
      rcases h4 with h4 | h4
      · exact pb_val (pe_blt G h4 h1 (pa_opd k2 k1 h2) h2) fun _ => rfl
      · obtain ⟨⟨h5, h6⟩, h7⟩ := h4
        subst h5 h6
        exact pb_val (pe_gcdE G h1 h7 (pa_opd k2 k1 h2) h2) fun _ => rfl
    · cases h
  · cases h
theorem i_ok (S : Snd Φ r) (G : Good Φ c X) {it : II} {e tg : Expr} (h : lkI r c tg it e = true) : PI X tg e (tI X.K (evI Φ it)) := by
  unfold lkI at h
  split at h
  · exact pi_seqE (S c _ _ h X G).pe
  · simp only [Bool.and_eq_true, decide_eq_true_eq] at h
    obtain ⟨⟨⟨h1, h2⟩, h3⟩, h4⟩ := h
    subst h1
    exact pi_rng1E G h2 (S c _ _ h4 X G).pe h3
  · simp only [Bool.and_eq_true, decide_eq_true_eq] at h
    obtain ⟨⟨⟨⟨⟨h1, h2⟩, h3⟩, h4⟩, h5⟩, h6⟩ := h
    subst h1
    exact pi_rng2E G h2 (S c _ _ h5 X G).pe (S c _ _ h6 X G).pe h3 h4
  · exact pi_scrE G h
  · exact pi_rngsE G h
  · exact pi_tkeysE G h
  · simp only [Bool.and_eq_true, decide_eq_true_eq] at h
    obtain ⟨⟨⟨⟨h1, h2⟩, h3⟩, h4⟩, h5⟩ := h
    unfold isTupE at h5
    split at h5
    · exact pi_enumE G h1 h2 (S c _ _ h4 X G).pe h3
    · cases h5
  · simp only [Bool.and_eq_true, decide_eq_true_eq] at h
    obtain ⟨⟨⟨⟨⟨⟨⟨h1, h2⟩, h3⟩, h4⟩, h5⟩, h6⟩, h7⟩, h8⟩ := h
    unfold isTupE at h7
    split at h7
    · unfold kwZ at h8
      split at h8
      · exact pi_zip0E G h1 h2 (S c _ _ h5 X G).pe (S c _ _ h6 X G).pe h3 h4
      · rw [decide_eq_true_eq] at h8
        subst h8
        exact pi_zipSE G h1 h2 (S c _ _ h5 X G).pe (S c _ _ h6 X G).pe h3 h4
      · cases h8
    · cases h7
  · cases h
theorem ownNames_snd (own : List Nat) : (ownNames c own).map (·.2) = own := by
  unfold ownNames
  rw [List.map_map]
  exact (List.map_congr_left fun _ _ => rfl).trans (List.map_id' _)
theorem comp_ok (S : Snd Φ r) (G : Good Φ c X) {ow : Bool} {own : List Nat} {tg : NT} {it : II} {cond : Option IE} {elt : IE} {e : Expr} (h : lkComp r c own tg it cond elt e = true) : PB Φ X (.comp ow own tg it cond elt) e := by
  unfold lkComp at h
  split at h
  · split at h
    · simp only [Bool.and_eq_true, decide_eq_true_eq, List.all_eq_true] at h
      obtain ⟨⟨⟨⟨⟨⟨⟨h1, h2⟩, h3⟩, h4⟩, h5⟩, h6⟩, h7⟩, h8⟩ := h
      subst h1
      rename_i elt' _ scope pos gs tg' iter ifs
      refine pb_val ?_ fun _ => rfl
      have ht : ∀ Y, Good Φ (c.blk scope) Y → PTs Y ifs (tC Y.K Φ cond) := fun Y GY => by
        cases cond with
        | none =>
          cases ifs with
          | nil => exact pts_nil
          | cons _ _ => cases h7
        | some q =>
          match ifs, h7 with
          | [t], h7 => exact pts_one (S _ _ _ h7 Y GY).pt
      have z := pe_compE G (ow := ow) (cond := cond) (pos := pos) (i_ok S G h5) h2 h3 (by rw [ownNames_snd]; exact h4) h6 ht fun Y GY => (S _ _ _ h8 Y GY).pe
      rw [ownNames_snd] at z
      exact z
    · cases h
  · cases h
theorem hcomp_ok (S : Snd Φ r) (G : Good Φ c X) {j : Nat} {own : List Nat} {tg : NT} {cond : Option IE} {elt : IE} {e : Expr} (h : lkHc r c j own tg cond elt e = true) : PB Φ X (.hcomp j own tg cond elt) e := by
  unfold lkHc at h
  split at h
  · split at h
    · simp only [Bool.and_eq_true, decide_eq_true_eq, List.all_eq_true] at h
      obtain ⟨⟨⟨⟨⟨⟨h1, h2⟩, h3⟩, h4⟩, h5⟩, h7⟩, h8⟩ := h
      subst h1
      rename_i elt' _ scope pos gs tg' x p ifs
      refine pb_val ?_ fun _ => rfl
      have ht : ∀ Y, Good Φ (c.blk scope) Y → PTs Y ifs (tC Y.K Φ cond) := fun Y GY => by
        cases cond with
        | none =>
          cases ifs with
          | nil => exact pts_nil
          | cons _ _ => cases h7
        | some q =>
          match ifs, h7 with
          | [t], h7 => exact pts_one (S _ _ _ h7 Y GY).pt
      have z := pe_hcompE G (cond := cond) (pos := pos) (p := p) h5 h2 h3 (by rw [ownNames_snd]; exact h4) ht fun Y GY => (S _ _ _ h8 Y GY).pe
      rw [ownNames_snd] at z
      exact z
    · cases h
  · cases h
theorem ks_ok : ∀ {ks : List Key} {es : List IE} {keys : List (Option Expr)} {vals : List Expr} {pos : Pos}, lkKs ks keys = true → lkEs r c es vals = true → Snd Φ r → Good Φ c X → keys.length = vals.length → PPs X pos keys vals (prs X.K Φ ks es) ∧ keys.all (·.isSome) = true ∧ ks.length = keys.length
  | [], es, [], [], pos, h, h2, S, G, hl => by
    cases es with
    | nil => exact ⟨pps_nil, rfl, rfl⟩
    | cons _ _ => unfold lkEs at h2; cases h2
  | [], _, [], _ :: _, _, _, _, _, _, hl => by simp at hl
  | [], _, _ :: _, _, _, h, _, _, _, _ => by unfold lkKs at h; cases h
  | k :: ks, es, keys, vals, pos, h, h2, S, G, hl => by
    unfold lkKs at h
    split at h
    · rename_i heq; cases heq
    · rename_i k' ks' x j p rest heq
      cases heq
      rw [Bool.and_eq_true] at h
      cases vals with
      | nil => simp at hl
      | cons v vals =>
        cases es with
        | nil => unfold lkEs at h2; cases h2
        | cons a es =>
          unfold lkEs at h2
          rw [Bool.and_eq_true] at h2
          obtain ⟨w1, w2, w3⟩ := ks_ok (pos := pos) h.2 h2.2 S G (by simpa using hl)
          refine ⟨pps_cons ?_ (S c _ _ h2.1 X G).pe w1, by rw [List.all_cons, w2]; rfl, by rw [List.length_cons, List.length_cons, w3]⟩
          have h1 := h.1
          split at h1
          · have z := of_decide_eq_true h1; subst z; exact pe_int
          · have z := of_decide_eq_true h1; subst z; exact pe_str
          · cases h1
    · cases h
theorem last_marks3 {c1 c2 c3 : CmpOp} {a b d : Expr} (h : noSet d = true) : lastMarks [c1, c2, c3] [a, b, d] = false := by
  cases d <;> first | rfl | cases h
theorem last_marks {c1 c2 : CmpOp} {a b : Expr} (h1 : noSet a = true) (h2 : noSet b = true) : lastMarks [c1, c2] [a, b] = false := by
  cases b <;> first | rfl | cases h2
theorem sts_ok (S : Snd Φ r) (G : Good Φ c X) : ∀ {as : List IE} {ss : List Bool} {es : List Expr}, lkSts r c as ss es = true → PA X es (tParts X.K Φ as ss)
  | [], [], [], _ => pa_nil
  | [], [], _ :: _, h => by unfold lkSts at h; cases h
  | [], _ :: _, es, h => by unfold lkSts at h; cases h
  | _ :: _, [], es, h => by unfold lkSts at h; cases h
  | _ :: _, _ :: _, [], h => by unfold lkSts at h; cases h
  | a :: as, b :: ss, e :: es, h => by
    unfold lkSts at h
    rw [Bool.and_eq_true] at h
    have h1 := h.1
    cases b with
    | true =>
      cases e with
      | Starred e p => exact StX.pa_star (S c _ _ h1 X G).pe (sts_ok S G h.2)
      | _ => unfold lkPart at h1; cases h1
    | false =>
      have h1 : (plainE e && r c a e) = true := by cases e <;> exact h1
      rw [Bool.and_eq_true] at h1
      exact pa_cons (S c _ _ h1.2 X G).pe (sts_ok S G h.2) (star_cons h1.1)
theorem step_ok (S : Snd Φ r) : Snd Φ (lkStep r) := by
  intro c a e h X G
  unfold lkStep at h
  split at h
  · exact pb_val ((pe_name G h).of fun _ _ _ q => var_go q) fun _ => rfl
  · exact pb_val ((pe_name G h).of fun _ _ _ q => frz_go q) fun _ => rfl
  · exact pb_val ((pe_name G h).of fun _ _ _ q => mov_go q) fun _ => rfl
  · exact pb_val (pe_cst h) fun _ => rfl
  · exact op_ok S G h
  · rw [Bool.and_eq_true] at h
    obtain ⟨h1, h2⟩ := es_ok S G h.1
    exact pb_val ((pe_tupK (pa_all h2 h1 h.2)).of fun _ _ _ q => tup_go q) fun _ => rfl
  · rw [Bool.and_eq_true] at h
    obtain ⟨h1, h2⟩ := es_ok S G h.1
    exact pb_val ((pe_tupK (pa_all h2 h1 h.2)).of fun _ _ _ q => otup_go q) fun _ => rfl
  · rw [Bool.and_eq_true] at h
    obtain ⟨h1, h2⟩ := es_ok S G h.1
    exact pb_val ((pe_lst (pa_all h2 h1 h.2)).of fun _ _ _ q => lst_go q) fun _ => rfl
  · rw [Bool.and_eq_true] at h
    obtain ⟨h1, h2⟩ := es_ok S G h.1
    exact pb_val ((pe_lst (pa_all h2 h1 h.2)).of fun _ _ _ q => olst_go q) fun _ => rfl
  · rename_i a b x y rest p
    rw [Bool.and_eq_true] at h
    have h1 := S c _ _ h.1 X G
    have h2 := S c _ _ h.2 X G
    have tail : PE X (.BoolOp .And (y :: rest) p) (tE X.K (evE Φ b)) ∧ PW X (.BoolOp .And (y :: rest) p) (tT X.K (evE Φ b)) := by
      cases rest with
      | nil => exact ⟨pe_one h2.pe, pw_and1 h2.pt⟩
      | cons z zs => exact ⟨h2.pe, h2.pw rfl⟩
    have w := (pw_and h1.pt tail.2).of fun _ _ _ q => tand_go q
    exact ⟨(pe_and h1.pe tail.1).of fun _ _ _ q => and_go q, w.pt, fun _ => w⟩
  · rename_i a b x y rest p
    rw [Bool.and_eq_true] at h
    have h1 := S c _ _ h.1 X G
    have h2 := S c _ _ h.2 X G
    have tail : PE X (.BoolOp .Or (y :: rest) p) (tE X.K (evE Φ b)) ∧ PW X (.BoolOp .Or (y :: rest) p) (tT X.K (evE Φ b)) := by
      cases rest with
      | nil => exact ⟨pe_one h2.pe, pw_or1 h2.pt⟩
      | cons z zs => exact ⟨h2.pe, h2.pw rfl⟩
    have w := (pw_or h1.pt tail.2).of fun _ _ _ q => tor_go q
    exact ⟨(pe_or h1.pe tail.1).of fun _ _ _ q => or_go q, w.pt, fun _ => w⟩
  · rw [Bool.and_eq_true, decide_eq_true_eq] at h
    obtain ⟨h1, h2⟩ := h
    subst h1
    have z := S c _ _ h2 X G
    exact ⟨(pe_not z.pe).of fun _ _ _ q => not_go q, (pt_not z.pt).of fun _ _ _ q => tnot_go q, fun z => by cases z⟩
  · simp only [Bool.and_eq_true] at h
    have z1 := S c _ _ h.1.1 X G
    have z2 := S c _ _ h.1.2 X G
    have z3 := S c _ _ h.2 X G
    exact ⟨(pe_ifExp z1.pt z2.pe z3.pe).of fun _ _ _ q => ite_go q, (pt_ifExp z1.pt z2.pt z3.pt).of fun _ _ _ q => tite_go q, fun z => by cases z⟩
  · simp only [Bool.and_eq_true, decide_eq_true_eq] at h
    obtain ⟨⟨⟨⟨⟨⟨h1, h2⟩, h3⟩, h4⟩, h5⟩, h6⟩, h7⟩ := h
    obtain ⟨r1, q1, q2⟩ := cmp_rule G h1
    obtain ⟨r2, q3, q4⟩ := cmp_rule G h2
    have z1 := S c _ _ h3 X G
    have z2 := S c _ _ h4 X G
    have z3 := S c _ _ h5 X G
    exact ⟨(pe_chain q1 q3 z1.pe z2.pe z3.pe (last_marks h6 h7)).of fun _ _ _ q => chain_go h1 h2 q2 q4 q, (pt_chain q1 q3 z1.pe z2.pe z3.pe (last_marks h6 h7)).of fun _ _ _ q => chain_go h1 h2 q2 q4 (tT_val q), fun z => by cases z⟩
  · simp only [Bool.and_eq_true, decide_eq_true_eq] at h
    obtain ⟨⟨⟨h1, h2⟩, h3⟩, h4⟩ := h
    obtain ⟨k1, k2⟩ := as_ok S G h4
    exact pb_val (pe_callE G h1 h2 rfl (pa_args k2 k1 h3) h3) fun _ => rfl
  · exact comp_ok S G h
  · simp only [Bool.and_eq_true] at h
    exact pb_val (pe_rdE G h.1.1 (S c _ _ h.2 X G).pe h.1.2) fun _ => rfl
  · simp only [Bool.and_eq_true] at h
    exact pb_val (pe_rd2E G h.1.1.1.1 (S c _ _ h.1.1.2 X G).pe h.1.1.1.2 (S c _ _ h.2 X G).pe h.1.2) fun _ => rfl
  · simp only [Bool.and_eq_true, decide_eq_true_eq] at h
    obtain ⟨⟨h1, h2⟩, h3⟩ := h
    subst h1
    exact pb_val (pe_popE G h2 h3) fun _ => rfl
  · simp only [Bool.and_eq_true, decide_eq_true_eq] at h
    obtain ⟨⟨⟨⟨h1, h2⟩, h3⟩, h4⟩, h5⟩ := h
    subst h1
    exact pb_val (pe_popiE G h2 (S c _ _ h5 X G).pe h4 h3) fun _ => rfl
  · simp only [Bool.and_eq_true, decide_eq_true_eq] at h
    obtain ⟨⟨⟨h1, h2⟩, h3⟩, h4⟩ := h
    subst h1 h4
    exact pb_val (pe_dpopE G h2 h3) fun _ => rfl
  · simp only [Bool.and_eq_true, decide_eq_true_eq] at h
    obtain ⟨⟨⟨h1, h2⟩, h3⟩, h4⟩ := h
    subst h4
    exact pb_val (pe_dlenE G h3 h1 h2) fun _ => rfl
  · rename_i ks as keys vals _
    rw [Bool.or_eq_true] at h
    rcases h with h | h
    · simp only [Bool.and_eq_true, List.isEmpty_iff] at h
      obtain ⟨⟨⟨h1, h2⟩, h3⟩, h4⟩ := h
      subst h1 h2 h3 h4
      exact pb_val pe_dnew fun _ => rfl
    simp only [Bool.and_eq_true, decide_eq_true_eq, Bool.not_eq_true'] at h
    obtain ⟨⟨⟨⟨h1, h2⟩, h3⟩, h4⟩, h5⟩ := h
    obtain ⟨w1, w2, w3⟩ := ks_ok (pos := by assumption) h1 h2 S G h3
    obtain ⟨k1, _⟩ := es_ok S G h2
    exact pb_val ((pe_disp w1 w2 h3 (fun z => by rw [z] at h5; cases h5) h4).of fun _ _ _ q => odct_go (by omega) q) fun _ => rfl
  · simp only [Bool.and_eq_true, decide_eq_true_eq] at h
    obtain ⟨⟨⟨⟨⟨⟨⟨h1, h2⟩, h3⟩, h4⟩, h5⟩, h6⟩, h7⟩, h8⟩ := h
    obtain ⟨r1, q1, q2⟩ := cmp_rule G h1
    obtain ⟨r2, q3, q4⟩ := cmp_rule G h2
    obtain ⟨r3, q5, q6⟩ := cmp_rule G h3
    have z1 := S c _ _ h4 X G
    have z2 := S c _ _ h5 X G
    have z3 := S c _ _ h6 X G
    have z4 := S c _ _ h7 X G
    exact ⟨(pe_chain3 q1 q3 q5 z1.pe z2.pe z3.pe z4.pe (last_marks3 h8)).of fun _ _ _ q => chain3_go h1 h2 h3 q2 q4 q6 q, (pt_chain3 q1 q3 q5 z1.pe z2.pe z3.pe z4.pe (last_marks3 h8)).of fun _ _ _ q => chain3_go h1 h2 h3 q2 q4 q6 (tT_val q), fun z => by cases z⟩
  · exact pb_val ((pe_tupK (sts_ok S G h)).of fun _ _ _ q => stup_go q) fun _ => rfl
  · simp only [Bool.and_eq_true, decide_eq_true_eq] at h
    obtain ⟨⟨⟨⟨⟨h1, h2⟩, h3⟩, h4⟩, h5⟩, h6⟩ := h
    subst h1
    exact pb_val (pe_rngvE G h2 (S _ _ _ h5 X G).pe (S _ _ _ h6 X G).pe h3 h4) fun _ => rfl
  · simp only [Bool.and_eq_true, decide_eq_true_eq] at h
    obtain ⟨⟨h1, h2⟩, h3⟩ := h
    subst h1
    exact ⟨pe_inRE G (S _ _ _ h2 X G).pe h3, pt_inRE G (S _ _ _ h2 X G).pe h3, fun z => by cases z⟩
  · simp only [Bool.and_eq_true, decide_eq_true_eq] at h
    obtain ⟨⟨⟨⟨⟨⟨h1, h2⟩, h3⟩, h4⟩, h5⟩, h6⟩, h7⟩ := h
    subst h1
    exact pb_val (pe_dgetE G h2 (S _ _ _ h6 X G).pe (S _ _ _ h7 X G).pe h4 h5 h3) fun _ => rfl
  · simp only [Bool.and_eq_true, decide_eq_true_eq] at h
    obtain ⟨⟨⟨⟨h1, h2⟩, h3⟩, h4⟩, h5⟩ := h
    subst h1
    exact pb_val (pe_kcatE G h2 (S _ _ _ h4 X G).pe h3 (S _ _ _ h5 X G).pe) fun _ => rfl
  · simp only [Bool.and_eq_true] at h
    exact pb_val (pe_krevE G h.1.1 (S _ _ _ h.2 X G).pe h.1.2) fun _ => rfl
  · simp only [Bool.and_eq_true, decide_eq_true_eq] at h
    obtain ⟨⟨h1, h2⟩, h3⟩ := h
    subst h1
    exact ⟨pe_inDE G (S _ _ _ h2 X G).pe h3, pt_inDE G (S _ _ _ h2 X G).pe h3, fun z => by cases z⟩
  · simp only [Bool.and_eq_true, List.isEmpty_iff] at h
    obtain ⟨h1, h2⟩ := h
    subst h1 h2
    exact pb_val pe_tmkE fun _ => rfl
  · simp only [Bool.and_eq_true, decide_eq_true_eq] at h
    obtain ⟨⟨⟨⟨h1, h2⟩, h3⟩, h4⟩, h5⟩ := h
    subst h1
    exact ⟨pe_kinE G (S _ _ _ h2 X G).pe h3 (S _ _ _ h5 X G).pe h4, pt_kinE G (S _ _ _ h2 X G).pe h3 (S _ _ _ h5 X G).pe h4, fun z => by cases z⟩
  · simp only [Bool.and_eq_true, decide_eq_true_eq] at h
    obtain ⟨⟨⟨h1, h2⟩, h3⟩, h4⟩ := h
    exact pb_val (pe_tnewE G h1 h2 (S _ _ _ h4 X G).pe h3) fun _ => rfl
  · simp only [Bool.and_eq_true] at h
    exact pb_val (pe_trdE G h.1.1 (S _ _ _ h.2 X G).pe h.1.2) fun _ => rfl
  · simp only [Bool.and_eq_true, decide_eq_true_eq] at h
    obtain ⟨⟨h1, h2⟩, h3⟩ := h
    subst h1
    exact ⟨pe_tinE G (S _ _ _ h2 X G).pe h3, pt_tinE G (S _ _ _ h2 X G).pe h3, fun z => by cases z⟩
  · simp only [Bool.and_eq_true, decide_eq_true_eq] at h
    obtain ⟨⟨⟨⟨h1, h2⟩, h3⟩, h4⟩, h5⟩ := h
    subst h1
    exact pb_val (pe_tgetE G h2 (S _ _ _ h5 X G).pe h4 h3) fun _ => rfl
  · simp only [Bool.and_eq_true, decide_eq_true_eq] at h
    obtain ⟨⟨h1, h2⟩, h3⟩ := h
    exact pb_val (pe_tlenE G h1 h2 h3) fun _ => rfl
  · simp only [Bool.and_eq_true, decide_eq_true_eq] at h
    obtain ⟨⟨h1, h2⟩, h3⟩ := h
    exact pb_val (pe_tsortE G h1 h2 h3) fun _ => rfl
  · exact pb_val (pe_tfzE G h) fun _ => rfl
  · exact hcomp_ok S G h
  · cases h
theorem lk_ok : ∀ n, Snd Φ (lk n)
  | 0 => fun _ _ _ h => by cases h
  | n + 1 => step_ok (lk_ok n)
end
end Rx
/-! Rx, part 20: the look at statements, and that it is enough. -/
namespace Rx
open PySem PySem.Spec L2 PyProof.Rows
def offB (i : Nat) (prot : List Nat) : Bool := decide (i ∉ prot)
mutual
def lkT (r : LkE) (c : Cfg) (prot : List Nat) : ST → Expr → Bool
  | .n i, .Name x _ => ownB c i x && offB i prot
  | .sub i k, .Subscript (.Name x _) ke _ => nameB c i x && noSlice ke && r c k ke
  | .sub2 i k l, .Subscript (.Subscript (.Name x _) ke _) le _ => nameB c i x && noSlice ke && r c k ke && noSlice le && r c l le
  | .tp ts, .Tuple es _ _ => lkTs r c prot ts es && es.all plainE
  | _, _ => false
def lkTs (r : LkE) (c : Cfg) (prot : List Nat) : List ST → List Expr → Bool
  | [], [] => true
  | t :: ts, e :: es => lkT r c prot t e && lkTs r c prot ts es
  | _, _ => false
end
def lkPar (r : LkE) (c : Cfg) (prot : List Nat) : ST → IE → Expr → Expr → Bool
  | .tp [.n i, .n j], .otup [ia, ib], .Tuple [.Name x px, .Name y py] _ _, .Tuple [a, b] _ _ => parB c x y px py a b && decide (c.N[i]? = some x) && decide (c.N[j]? = some y) && offB i prot && offB j prot && lkEs r c [ia, ib] [a, b]
  | .tp [.n i, .n j, .n l], .otup [ia, ib, ic], .Tuple [.Name x px, .Name y py, .Name z pz] _ _, .Tuple [a, b, d] _ _ => parB c x y px py a b && parB c x z px pz a d && parB c y z py pz b d && !([a, b, d].all (foldedForSure 8)) && !([a, b, d].all (constantsAlone 8)) &&
      decide (c.N[i]? = some x) && decide (c.N[j]? = some y) && decide (c.N[l]? = some z) && offB i prot && offB j prot && offB l prot && lkEs r c [ia, ib, ic] [a, b, d]
  | _, _, _, _ => false
def lkLc (r : LkE) (c : Cfg) (prot : List Nat) : ST → IE → Expr → Expr → Bool
  | .n i, .comp ow own tg it cond elt, .Name x py, .ListComp elt' gs scope pos => offB i prot && ((sameLine c x py pos scope && decide (c.N[i]? = some x) && lkComp r c own tg it cond elt (.ListComp elt' gs scope pos)) || (otherLine c x py pos scope && ownB c i x && r c (.comp ow own tg it cond elt) (.ListComp elt' gs scope pos)))
  | _, _, _, _ => false
def lkPs (r : LkE) (c : Cfg) : List IE → List (Option Expr) → List Expr → Bool
  | [], [], [] => true
  | a :: b :: as, some k :: ks, v :: vs => r c a k && r c b v && lkPs r c as ks vs
  | _, _, _ => false
abbrev LkS := Cfg → List Nat → List IS → List Stmt → Bool
def lkSt (r : LkE) (rs : LkS) (c : Cfg) (prot : List Nat) : IS → Stmt → Bool
  | .asg ow t a, .Assign [tg] v _ => (ow && lkPar r c prot t a tg v) || lkLc r c prot t a tg v || (asgB tg v && noLst tg && lkT r c prot t tg && r c a v) || (asgC c.sc tg v && lkT r c prot t tg && r c a v)
  | .aug i o a, .AugAssign (.Name x _) bo v _ => ownB c i x && decide (augO o = some bo) && offB i prot && r c a v
  | .ex a, .Expr v _ => noComp v && r c a v
  | .append i a, .Expr (.Call (.Attribute (.Name x _) m ap) [v] [] cp) _ => decide (m = "append") && nameB c i x && (ap.endLine == cp.line) && plainE v && r c a v
  | .append1 i k a, .Expr (.Call (.Attribute (.Subscript (.Name x _) ke _) m ap) [v] [] cp) _ => decide (m = "append") && nameB c i x && (ap.endLine == cp.line) && plainE v && r c a v && noSlice ke && r c k ke
  | .extend i a, .Expr (.Call (.Attribute (.Name x _) m ap) [v] [] cp) _ => decide (m = "extend") && nameB c i x && (ap.endLine == cp.line) && plainE v && r c a v
  | .remove i a, .Expr (.Call (.Attribute (.Name x _) m ap) [v] [] cp) _ => decide (m = "remove") && nameB c i x && (ap.endLine == cp.line) && plainE v && r c a v
  | .tput i k a, .Assign [.Subscript (.Name x _) ke _] v _ => nameB c i x && r c k ke && r c a v && noComp v
  | .tupd i as, .Expr (.Call (.Attribute (.Name x _) m ap) [.Dict keys vals _] [] cp) _ => decide (m = "update") && nameB c i x && (ap.endLine == cp.line) && keys.all (·.isSome) && decide (keys.length = vals.length) && !keys.isEmpty && decide (keys.length ≤ 15) && lkPs r c as keys vals
  | .dupd i a, .Expr (.Call (.Attribute (.Name x _) m ap) [.Call (.Name y _) [v] [] _] [] cp) _ => decide (m = "update") && decide (y = "dict") && globB c y && nameB c i x && (ap.endLine == cp.line) && plainE v && r c a v
  | .ite q a b, .If t x y _ => r c q t && rs c prot a x && rs c prot b y
  | .whl _ q b, .While t x [] _ => r c q t && rs c prot b x
  | .for_ t it b, .For tg iter x [] _ => chkNT c t tg && lkI r c tg it iter && noSet iter && (prot.all fun j => decide (j ∉ t.slots)) && rs c prot b x
  | .ret _ a, .Return (some v) _ => r c a v
  | .retN, .Return none _ => true
  | .brk, .Break _ => true
  | .cont, .Continue _ => true
  | .pass, .Pass _ => true
  | .never, _ => true
  | _, _ => false
def lkSs (r : LkE) (rs : LkS) (c : Cfg) (prot : List Nat) : List IS → List Stmt → Bool
  | [], [] => true
  | s :: ss, t :: ts => lkSt r rs c prot s t && lkSs r rs c prot ss ts
  | _, _ => false
def lkB (r : LkE) : Nat → LkS
  | 0 => fun _ _ _ _ => false
  | n + 1 => lkSs r (lkB r n)
section
variable {Φ : Funs} {c : Cfg} {X : Cx} {r : LkE} {σ : L2.St} {prot : List Nat}
theorem pps_ok (S : Snd Φ r) (G : Good Φ c X) : ∀ {as : List IE} {ks : List (Option Expr)} {vs : List Expr}, lkPs r c as ks vs = true → PP X ks vs (tA X.K (evEs Φ as))
  | [], [], [], _ => pp_nil.of fun _ _ _ q => tA_nil q
  | a :: b :: as, some k :: ks, v :: vs, h => by
    unfold lkPs at h
    simp only [Bool.and_eq_true] at h
    exact (pp_cons (S _ _ _ h.1.1 X G).pe (S _ _ _ h.1.2 X G).pe (pps_ok S G h.2)).of fun _ _ _ q => tE.imp (tA_cons q) fun _ _ z => tA_cons z
  | [], [], _ :: _, h => by unfold lkPs at h; cases h
  | [], _ :: _, _, h => by unfold lkPs at h; cases h
  | [_], _, _, h => by unfold lkPs at h; cases h
  | _ :: _ :: _, [], _, h => by unfold lkPs at h; cases h
  | _ :: _ :: _, none :: _, _, h => by unfold lkPs at h; cases h
  | _ :: _ :: _, some _ :: _, [], h => by unfold lkPs at h; cases h
theorem off_of {i : Nat} (h : offB i prot = true) : i ∉ prot := of_decide_eq_true h
mutual
theorem t_ok (S : Snd Φ r) (G : Good Φ c X) : ∀ (t : ST) (e : Expr), lkT r c prot t e = true → PG X e (tG X.K Φ prot t)
  | .n i, e, h => by
    cases e with
    | Name x p =>
      have h : (ownB c i x && offB i prot) = true := by unfold lkT at h; exact h
      rw [Bool.and_eq_true] at h
      exact pg_nE G h.1 (off_of h.2)
    | _ => unfold lkT at h; cases h
  | .sub i k, e, h => by
    cases e with
    | Subscript o ke p =>
      cases o with
      | Name x p' =>
        have h : (nameB c i x && noSlice ke && r c k ke) = true := by unfold lkT at h; exact h
        simp only [Bool.and_eq_true] at h
        exact pg_subE G h.1.1 (S c _ _ h.2 X G).pe h.1.2
      | _ => unfold lkT at h; cases h
    | _ => unfold lkT at h; cases h
  | .sub2 i k l, e, h => by
    cases e with
    | Subscript o le p =>
      cases o with
      | Subscript o2 ke p2 =>
        cases o2 with
        | Name x p' =>
          have h : (nameB c i x && noSlice ke && r c k ke && noSlice le && r c l le) = true := by unfold lkT at h; exact h
          simp only [Bool.and_eq_true] at h
          exact pg_sub2E G h.1.1.1.1 (S c _ _ h.1.1.2 X G).pe h.1.1.1.2 (S c _ _ h.2 X G).pe h.1.2
        | _ => unfold lkT at h; cases h
      | _ => unfold lkT at h; cases h
    | _ => unfold lkT at h; cases h
  | .tp ts, e, h => by
    cases e with
    | Tuple es k p =>
      have h : (lkTs r c prot ts es && es.all plainE) = true := by unfold lkT at h; exact h
      rw [Bool.and_eq_true] at h
      obtain ⟨h1, h2⟩ := ts_ok S G ts es h.1 h.2
      exact pg_tpE G h1 h.2 h2
    | _ => unfold lkT at h; cases h
theorem ts_ok (S : Snd Φ r) (G : Good Φ c X) : ∀ (ts : List ST) (es : List Expr), lkTs r c prot ts es = true → es.all plainE = true → PGs X es (tGs X.K Φ prot ts) ∧ ts.length = es.length
  | [], [], h, _ => ⟨pgs_nilE, rfl⟩
  | [], _ :: _, h, _ => by unfold lkTs at h; cases h
  | _ :: _, [], h, _ => by unfold lkTs at h; cases h
  | t :: ts, e :: es, h, hp => by
    unfold lkTs at h
    rw [Bool.and_eq_true] at h
    rw [List.all_cons, Bool.and_eq_true] at hp
    obtain ⟨h1, h2⟩ := ts_ok S G ts es h.2 hp.2
    exact ⟨pgs_consE (t_ok S G t e h.1) h1 hp.1, by rw [List.length_cons, List.length_cons, h2]⟩
end
theorem par_ok (S : Snd Φ r) (G : Good Φ c X) {t : ST} {a : IE} {tg v : Expr} {pos : Pos} (h : lkPar r c prot t a tg v = true) : PS X (.Assign [tg] v pos) (tSt X.K prot (evS Φ (.asg true t a))) := by
  unfold lkPar at h
  split at h
  · simp only [Bool.and_eq_true, decide_eq_true_eq] at h
    obtain ⟨⟨⟨⟨⟨h1, h2⟩, h3⟩, h4⟩, h5⟩, h6⟩ := h
    obtain ⟨k1, k2⟩ := es_ok S G h6
    have hp : parB c _ _ _ _ _ _ = true := h1
    unfold parB at hp
    simp only [Bool.and_eq_true, decide_eq_true_eq, Bool.not_eq_true'] at hp
    obtain ⟨⟨⟨⟨⟨⟨⟨_, _⟩, p3⟩, p4⟩, _⟩, _⟩, _⟩, _⟩ := hp
    refine ps_par2E G h1 h2 h3 (fun l hl => ?_) (pa_all k2 k1 (by simp [p3, p4]))
    rcases List.mem_cons.mp hl with rfl | hl
    · exact off_of h4
    · rcases List.mem_cons.mp hl with rfl | hl
      · exact off_of h5
      · cases hl
  · simp only [Bool.and_eq_true, decide_eq_true_eq, Bool.not_eq_true'] at h
    obtain ⟨⟨⟨⟨⟨⟨⟨⟨⟨⟨⟨h1, h2⟩, h3⟩, h4⟩, h5⟩, h6⟩, h7⟩, h8⟩, h9⟩, h10⟩, h11⟩, h12⟩ := h
    obtain ⟨k1, k2⟩ := es_ok S G h12
    have hp : parB c _ _ _ _ _ _ = true := h1
    have hp2 : parB c _ _ _ _ _ _ = true := h2
    unfold parB at hp hp2
    simp only [Bool.and_eq_true, decide_eq_true_eq, Bool.not_eq_true'] at hp hp2
    obtain ⟨⟨⟨⟨⟨⟨⟨_, _⟩, p3⟩, p4⟩, _⟩, _⟩, _⟩, _⟩ := hp
    obtain ⟨⟨⟨⟨⟨⟨⟨_, _⟩, _⟩, p5⟩, _⟩, _⟩, _⟩, _⟩ := hp2
    refine ps_par3E G h1 h2 h3 h4 h5 h6 h7 h8 (fun l hl => ?_) (pa_all k2 k1 (by simp [p3, p4, p5]))
    rcases List.mem_cons.mp hl with rfl | hl
    · exact off_of h9
    · rcases List.mem_cons.mp hl with rfl | hl
      · exact off_of h10
      · rcases List.mem_cons.mp hl with rfl | hl
        · exact off_of h11
        · cases hl
  · cases h
theorem lc_ok (S : Snd Φ r) (G : Good Φ c X) {ow : Bool} {t : ST} {a : IE} {tg v : Expr} {pos : Pos} (h : lkLc r c prot t a tg v = true) : PS X (.Assign [tg] v pos) (tSt X.K prot (evS Φ (.asg ow t a))) := by
  unfold lkLc at h
  split at h
  · rename_i i ow' own tgN it cond elt x py elt' gs scope cpos
    simp only [Bool.and_eq_true, Bool.or_eq_true, decide_eq_true_eq] at h
    obtain ⟨h1, h2⟩ := h
    rcases h2 with ⟨⟨h2, h3⟩, h4⟩ | ⟨⟨h2, h3⟩, h4⟩
    · unfold lkComp at h4
      simp only at h4
      split at h4
      · simp only [Bool.and_eq_true, decide_eq_true_eq, List.all_eq_true] at h4
        obtain ⟨⟨⟨⟨⟨⟨⟨k1, k2⟩, k3⟩, k4⟩, k5⟩, k6⟩, k7⟩, k8⟩ := h4
        subst k1
        rename_i gs tg' iter ifs
        have ht : ∀ Y, Good Φ (c.blk scope) Y → PTs Y ifs (tC Y.K Φ cond) := fun Y GY => by
          cases cond with
          | none =>
            cases ifs with
            | nil => exact pts_nil
            | cons _ _ => cases k7
          | some q =>
            match ifs, k7 with
            | [t], h7 => exact pts_one (S _ _ _ h7 Y GY).pt
        have z := ps_compE (prot := prot) G (ow := ow') (ow2 := ow) (cond := cond) (spos := pos) h3 (off_of h1) h2 (i_ok S G k5) k2 k3 (by rw [ownNames_snd]; exact k4) k6 ht fun Y GY => (S _ _ _ k8 Y GY).pe
        rw [ownNames_snd] at z
        exact z
      · cases h4
    · exact ps_compO G h3 (off_of h1) h2 (S _ _ _ h4 X G).pe
  · cases h
def SndS (Φ : Funs) (rs : LkS) : Prop := ∀ c prot ss sts, rs c prot ss sts = true → ∀ X, Good Φ c X → PSs X sts (tSt X.K prot (evSs Φ ss))
theorem st_ok {rs : LkS} (S : Snd Φ r) (SS : SndS Φ rs) (G : Good Φ c X) {s : IS} {st : Stmt} (h : lkSt r rs c prot s st = true) : PS X st (tSt X.K prot (evS Φ s)) := by
  unfold lkSt at h
  split at h
  · simp only [Bool.or_eq_true, Bool.and_eq_true] at h
    rcases h with ((⟨h1, h2⟩ | h) | ⟨⟨⟨h1, h2⟩, h3⟩, h4⟩) | ⟨⟨h1, h2⟩, h3⟩
    · subst h1; exact par_ok S G h2
    · exact lc_ok S G h
    · exact ps_asgE (S _ _ _ h4 X G).pe (t_ok S G _ _ h3) h1 h2
    · exact ps_asgC G (S _ _ _ h3 X G).pe (t_ok S G _ _ h2) h1
  · simp only [Bool.and_eq_true, decide_eq_true_eq] at h
    obtain ⟨⟨⟨h1, h2⟩, h3⟩, h4⟩ := h
    exact ps_augE G h1 h2 (off_of h3) (S _ _ _ h4 X G).pe
  · rw [Bool.and_eq_true] at h
    exact ps_exE (S _ _ _ h.2 X G).pe h.1
  · simp only [Bool.and_eq_true, decide_eq_true_eq] at h
    obtain ⟨⟨⟨⟨h1, h2⟩, h3⟩, h4⟩, h5⟩ := h
    subst h1
    exact ps_appendE G h2 (S _ _ _ h5 X G).pe h4 h3
  · simp only [Bool.and_eq_true, decide_eq_true_eq] at h
    obtain ⟨⟨⟨⟨⟨⟨h1, h2⟩, h3⟩, h4⟩, h5⟩, h6⟩, h7⟩ := h
    subst h1
    exact ps_append1E G h2 (S _ _ _ h7 X G).pe h6 (S _ _ _ h5 X G).pe h4 h3
  · simp only [Bool.and_eq_true, decide_eq_true_eq] at h
    obtain ⟨⟨⟨⟨h1, h2⟩, h3⟩, h4⟩, h5⟩ := h
    subst h1
    exact ps_extendE G h2 (S _ _ _ h5 X G).pe h4 h3
  · simp only [Bool.and_eq_true, decide_eq_true_eq] at h
    obtain ⟨⟨⟨⟨h1, h2⟩, h3⟩, h4⟩, h5⟩ := h
    subst h1
    exact ps_removeE G h2 (S _ _ _ h5 X G).pe h4 h3
  · simp only [Bool.and_eq_true] at h
    obtain ⟨⟨⟨h1, h2⟩, h3⟩, h4⟩ := h
    exact ps_tputE G h1 (S _ _ _ h2 X G).pe (S _ _ _ h3 X G).pe h4
  · simp only [Bool.and_eq_true, decide_eq_true_eq, Bool.not_eq_true'] at h
    obtain ⟨⟨⟨⟨⟨⟨⟨h1, h2⟩, h3⟩, h4⟩, h5⟩, h6⟩, h7⟩, h8⟩ := h
    subst h1
    exact ps_tupdE G h2 h4 h5 (fun z => by rw [z] at h6; cases h6) h7 (pps_ok S G h8) h3
  · simp only [Bool.and_eq_true, decide_eq_true_eq] at h
    obtain ⟨⟨⟨⟨⟨⟨h1, h2⟩, h3⟩, h4⟩, h5⟩, h6⟩, h7⟩ := h
    subst h1
    exact ps_dupdE G h2 h3 h4 (S _ _ _ h7 X G).pe h6 h5
  · simp only [Bool.and_eq_true] at h
    exact ps_ifE (S _ _ _ h.1.1 X G).pt (SS _ _ _ _ h.1.2 X G) (SS _ _ _ _ h.2 X G)
  · simp only [Bool.and_eq_true] at h
    exact ps_whileE G (S _ _ _ h.1 X G).pt (SS _ _ _ _ h.2 X G)
  · simp only [Bool.and_eq_true, List.all_eq_true, decide_eq_true_eq] at h
    obtain ⟨⟨⟨⟨h1, h2⟩, h3⟩, h4⟩, h5⟩ := h
    exact ps_forE G (i_ok S G h2) h1 (SS _ _ _ _ h5 X G) h4 (fold_no h3)
  · exact ps_retE (S _ _ _ h X G).pe
  · exact ps_retNE
  · exact ps_brkE
  · exact ps_contE
  · exact ps_passE
  · exact ps_neverE
  · cases h
theorem ss_ok {rs : LkS} (S : Snd Φ r) (SS : SndS Φ rs) (G : Good Φ c X) : ∀ {ss : List IS} {sts : List Stmt}, lkSs r rs c prot ss sts = true → PSs X sts (tSt X.K prot (evSs Φ ss))
  | [], [], _ => pss_nilE
  | [], _ :: _, h => by unfold lkSs at h; cases h
  | _ :: _, [], h => by unfold lkSs at h; cases h
  | s :: ss, t :: ts, h => by
    unfold lkSs at h
    rw [Bool.and_eq_true] at h
    exact pss_consE (st_ok S SS G h.1) (ss_ok S SS G h.2)
theorem lkB_ok (S : Snd Φ r) : ∀ n, SndS Φ (lkB r n)
  | 0 => fun _ _ _ _ h => by cases h
  | n + 1 => fun c prot ss sts h X G => ss_ok S (lkB_ok S n) G h
end
end Rx
/-! Rx, part 21: defs; tables of defs; a law's end. -/
namespace Rx
open PySem PySem.Spec L2 PyProof.Rows

/-- a def: its name, parameters, slots' names, its text, what it is in the language -/
structure Ent where
  x : Str
  ps : List Str
  N : List Str
  st : Stmt
  fd : FD
def fnsOf (tbl : List Ent) : List (Str × Nat) := tbl.map fun e => (e.x, e.ps.length)
def Ent.cfg (e : Ent) (tbl : List Ent) (g : Bool) : Cfg := ⟨e.N, defScope e.st, defScope e.st, fnsOf tbl, g⟩
/-- the look at a def -/
def Ent.look (tbl : List Ent) (g : Bool) (e : Ent) : Bool :=
  C8.scC e.N e.ps (defScope e.st) && decide (e.fd.np = e.ps.length) && decide (e.fd.nl = e.N.length) && (e.fd.prot.all fun j => decide (j < e.ps.length)) && lkB (lk 60) 60 (e.cfg tbl g) e.fd.prot e.fd.body (defBody e.st)

section
variable {K : PySem.W.Frag} {F H : Hp}
/-- what is given back -/
theorem OwnS.given : ∀ {ms : MEnv} {σ : L2.St} {L : List Addr}, OwnS K F H ms σ L → ∀ (p : Nat → Bool) (ws : List V), ws.length ≤ ms.length → (∀ (j : Nat) (v : V), ws[j]? = some v → p j = true → σ[j]? = some (some v)) →
    ∃ Lb, OwnS K F H ((List.range ws.length).map fun j => if p j = true then ms[j]?.join else none) (ws.map some) Lb ∧ (∀ a ∈ Lb, a ∈ L) ∧ (L.Nodup → Lb.Nodup)
  | ms, σ, L, h, p, [], _, _ => ⟨[], .nil, (fun _ z => by cases z), fun _ => List.nodup_nil⟩
  | _, _, _, .nil, p, w :: ws, hl, _ => by simp at hl
  | _, _, L, @OwnS.no _ _ _ ms σ _ x t, p, w :: ws, hl, hs => by
    obtain ⟨Lb, h1, h2, h3⟩ := OwnS.given t (fun j => p (j + 1)) ws (by simpa using hl) fun j v e q => by simpa using hs (j + 1) v (by simpa using e) q
    refine ⟨Lb, ?_, h2, h3⟩
    rw [List.length_cons, List.range_succ_eq_map, List.map_cons, List.map_cons, List.map_map]
    have e0 : (if p 0 = true then (none :: ms : MEnv)[0]?.join else none) = none := by split <;> rfl
    rw [e0]
    exact .no _ h1
  | _, _, _, @OwnS.so _ _ _ m v ms σ L1 L2 r t, p, w :: ws, hl, hs => by
    obtain ⟨Lb, h1, h2, h3⟩ := OwnS.given t (fun j => p (j + 1)) ws (by simpa using hl) fun j v e q => by simpa using hs (j + 1) v (by simpa using e) q
    rw [List.length_cons, List.range_succ_eq_map, List.map_cons, List.map_cons, List.map_map]
    cases hp : p 0 with
    | true =>
      have e0 : (if p 0 = true then (some m :: ms : MEnv)[0]?.join else none) = some m := by rw [if_pos hp]; rfl
      have ew : v = w := by
        have z := hs 0 w rfl hp
        simpa using z
      subst ew
      rw [hp] at e0
      refine ⟨L1 ++ Lb, ?_, fun a ha => ?_, fun nd => ?_⟩
      · rw [e0]; exact .so r h1
      · exact (List.mem_append.mp ha).elim (List.mem_append_left _) fun z => List.mem_append_right _ (h2 a z)
      · obtain ⟨n1, n2, n3⟩ := List.nodup_append.mp nd
        exact List.nodup_append.mpr ⟨n1, h3 n2, fun a ha b hb z => n3 a ha b (h2 b hb) z⟩
    | false =>
      have e0 : (if (false : Bool) = true then (some m :: ms : MEnv)[0]?.join else none) = none := rfl
      refine ⟨Lb, ?_, fun a ha => List.mem_append_right _ (h2 a ha), fun nd => h3 (List.nodup_append.mp nd).2.1⟩
      rw [e0]
      exact .no _ h1
theorem OwnS.args : ∀ {ms : List MV} {vs : List V} {L : List Addr}, OwnAll K F H ms vs L → ∀ n : Nat, OwnS K F H (ms.map some ++ List.replicate n none) (vs.map some ++ List.replicate n none) L
  | _, _, _, .nil, n => by
    rw [List.map_nil, List.map_nil, List.nil_append, List.nil_append]
    induction n with
    | zero => exact .nil
    | succ n ih => rw [List.replicate_succ, List.replicate_succ]; exact .no none ih
  | _, _, _, .cons r t, n => .so r (OwnS.args t n)
end

section
variable {P : Program} {w : World} {K : PySem.W.Frag} {mg : Str → Option Value} {base : Heap} {k : Nat} {Φ : Funs}
/-- a def's body does what its reckoning says -/
theorem def_ok {tbl : List Ent} {g : Bool} {e : Ent} {f : Addr} {fd : FuncData} (D : FunD K e.x e.x (defArgs e.st) (defBody e.st) (defScope e.st) [] [] f fd) (h : e.look tbl g = true) (hb : ∀ x ∈ blts, mg x = none) (hg : g = true → mg "gcd" = some (.builtin "math.gcd"))
    (hf : ∀ i q, (fnsOf tbl)[i]? = some q → ∃ f fd ps, mg q.1 = some (.ref f) ∧ PySem.W.keepIn K (.ref f) = true ∧ Binds K fd ps [] ∧ FnG P w K mg base k f fd ps (spF K q.2 (Φ i))) :
    FnG P w K mg base (k + 1) f fd e.ps (spF K e.ps.length (runF Φ e.fd)) := by
  unfold Ent.look at h
  simp only [Bool.and_eq_true, decide_eq_true_eq, List.all_eq_true] at h
  obtain ⟨⟨⟨⟨h1, h2⟩, h3⟩, h4⟩, h5⟩ := h
  have S := C8.fnScope_by h1
  refine fnG_of D S (fun vs H Q z => z.1) fun cd A outer s H vs Q hgu hr hsp => ?_
  have G : Good Φ (e.cfg tbl g) (cxOf CX0 P w K mg base e.N e.x (defScope e.st) f cd A outer s H E0).nox := {
    calm := rfl
    N := rfl
    nd := S.nd
    sc := rfl
    st := fun x h => ⟨h, .inl rfl⟩
    kd := S.kind
    xe := rfl
    un := by have := hr.un; show (A.deeper (envOfC e.x (defScope e.st) s.heap.objs.size f cd)).units + 70 < cLine; omega
    gu := hgu
    bl := hb
    gcd := hg
    fn := fun i q hq => by
      obtain ⟨f', fd', ps', a1, a2, a3, a4⟩ := hf i q hq
      exact ⟨f', fd', ps', k, a1, a2, a3, hr, a4⟩ }
  refine ⟨tSt K e.fd.prot (evSs Φ e.fd.body), PSs.nox (lkB_ok (lk_ok 60) 60 _ _ _ _ h5 _ G), ?_⟩
  obtain ⟨hl, F, L, ms, r, bk, hs, ow, nd, dis, er, kq⟩ := hsp
  unfold runF at er
  split at er
  case isFalse => cases er
  rename_i hal
  obtain ⟨o, e1, e2⟩ := bindSome er
  have hN : e.fd.nl - e.fd.np = e.N.length - vs.length := by rw [h3, h2, hl]
  have own : OwnS K F H (ms.map some ++ List.replicate (e.fd.nl - e.fd.np) none) (start e.N vs) L := by
    unfold L2.start
    rw [hN]
    exact OwnS.args ow _
  have len0 : (start e.N vs).length = (ms.map some ++ List.replicate (e.fd.nl - e.fd.np) none).length := own.len.symm
  have hml : ms.length = vs.length := ow.len
  refine ⟨F, L, _, o, ⟨own, nd, hs, dis⟩, e1, ?_⟩
  -- what is given back, at the end
  have fin : ∀ {σ' : L2.St} {F' H' : Hp} {L' M : List Addr} {ms' : MEnv} {m : MV} {v : V}, Got K F H L F' H' L' ms' σ' [m] [v] M → Keep e.fd.prot (start e.N vs) σ' → some (r, bk) = some (m, Rx.back e.fd.prot e.fd.np ms') → Q v H' := fun {σ' F' H' L' M ms' m v} gt kp er => by
    injection er with er
    injection er with er1 er2
    subst er1
    have hlm : vs.length ≤ ms'.length := by
      rw [gt.rel.own.len, kp.1, len0]
      simp [hml]
    obtain ⟨Lb, b1, b2, b3⟩ := gt.rel.own.given (fun j => e.fd.prot.contains j) vs hlm fun j v' ej pj => by
      have hj : j ∈ e.fd.prot := by simpa using pj
      rw [kp.2 j hj]
      unfold L2.start
      have hlt : j < vs.length := (List.getElem?_eq_some_iff.mp ej).1
      rw [List.getElem?_append_left (by simpa using hlt), List.getElem?_map, ej]
      rfl
    have eb : bk = (List.range vs.length).map fun j => if e.fd.prot.contains j = true then ms'[j]?.join else none := by
      rw [er2]
      unfold Rx.back
      rw [h2, hl]
    rw [← eb] at b1
    refine kq v F' H' Lb M ⟨b1, b3 gt.rel.nd, gt.rel.sub, fun a ha => gt.rel.dis a (b2 a ha)⟩ gt.res.fst gt.nd (fun a ha => ⟨(gt.dis a ha).1, fun z => (gt.dis a ha).2 (b2 a z)⟩) (gt.ext.less fun a ha => ?_)
    exact (List.mem_append.mp ha).elim (fun z => List.mem_append_left _ (b2 a z)) (List.mem_append_right _)
  cases o with
  | nx ms' => exact fun σ' F' H' L' R' E' kp => fin (Got.of R' E' .non) kp e2.symm
  | ret m ms' => exact fun v σ' F' H' L' M gt kp => fin gt kp e2.symm
  | brk ms' => cases e2
  | cnt ms' => cases e2
/-- a table of defs at its level -/
theorem tbl_ok {tbl : List Ent} {g : Bool} (hD : ∀ e ∈ tbl, ∃ f fd, mg e.x = some (.ref f) ∧ FunD K e.x e.x (defArgs e.st) (defBody e.st) (defScope e.st) [] [] f fd ∧ Binds K fd e.ps []) (h : tbl.all (Ent.look tbl g) = true) (hb : ∀ x ∈ blts, mg x = none) (hg : g = true → mg "gcd" = some (.builtin "math.gcd")) :
    ∀ (k i : Nat) (e : Ent), tbl[i]? = some e → ∃ f fd, mg e.x = some (.ref f) ∧ FunD K e.x e.x (defArgs e.st) (defBody e.st) (defScope e.st) [] [] f fd ∧ Binds K fd e.ps [] ∧ FnG P w K mg base k f fd e.ps (spF K e.ps.length (Phi (tbl.map Ent.fd) k i)) := by
  intro k
  induction k with
  | zero =>
    intro i e he
    obtain ⟨f, fd, a1, a2, a3⟩ := hD e (List.mem_of_getElem? he)
    refine ⟨f, fd, a1, a2, a3, ⟨fun vs H Q z => z.1, fun A outer s H args us vs Q _ _ _ _ _ z => ?_⟩⟩
    obtain ⟨_, _, _, _, _, _, _, _, _, _, z, _⟩ := z
    cases z
  | succ k ih =>
    intro i e he
    obtain ⟨f, fd, a1, a2, a3⟩ := hD e (List.mem_of_getElem? he)
    refine ⟨f, fd, a1, a2, a3, ?_⟩
    have z := def_ok (P := P) (w := w) (mg := mg) (base := base) (k := k) (Φ := Phi (tbl.map Ent.fd) k) a2 (List.all_eq_true.mp h e (List.mem_of_getElem? he)) hb hg fun j q hq => by
      unfold fnsOf at hq
      rw [List.getElem?_map] at hq
      obtain ⟨e', h1, h2⟩ := mapSome hq
      subst h2
      obtain ⟨f', fd', b1, b2, b3, b4⟩ := ih j e' h1
      exact ⟨f', fd', e'.ps, b1, b2.kp, b3, b4⟩
    have er : Phi (tbl.map Ent.fd) (k + 1) i = runF (Phi (tbl.map Ent.fd) k) e.fd := by
      funext args
      show (match (tbl.map Ent.fd)[i]? with | some fd => runF (Phi (tbl.map Ent.fd) k) fd args | none => none) = _
      rw [List.getElem?_map, he]
      rfl
    rw [er]
    exact z
end
end Rx
/-! Rx, part 22: a law's end. -/
namespace Rx
open PySem PySem.Spec L2 PyProof.Rows
/-- what is told of the heap behind the law's call -/
abbrev Ended (s : Shared) (r : Result) (t : Shared) : Prop := r = .ok (.ret (.bool true)) ∧ OldK s.heap t.heap ∧ t.os = s.os ∧ AllBare t.gens
section
variable {P : Program} {w : World} {K : PySem.W.Frag} {m mb : Str → Option Value} {k : Nat} {f l : Addr} {fd : FuncData} {x : Str} {sp : Sp} {s : Shared} {us : List Value} {is : List Int}
theorem law_from {T : Hp} (kin : K.In s.heap) (ns : s.heap.Ns mainGlobals m) (nb : s.heap.Ns builtinsNs mb) (bt : ∀ y : Str, y ≠ "__name__" → mb y = bootBuiltins y) (nl : s.heap.NoLimit) (ge : s.gens = #[])
    (at_ : s.heap.get? l = some { cls := .type "list", data := .seq us.toArray }) (ro : Room k callerA)
    (G : ∀ b : Heap, K.In b → b.Ns mainGlobals m → FnG P w K m b k f fd [x] sp) (bind : ∀ (t : Shared) (u : Value), BindsTo t fd ⟨[u], []⟩ [(x, u)])
    (on : Only T) (ok : HOk P w T s.heap) (alone : ∀ b, T b ≠ none → b = l) (off : T l ≠ none → K.lookup l = none) (pr : sp [.ref l] T (fun v _ => v = .bl true) E0) :
    codeAny (model P w) callerA (.call (.ref f) ⟨[.ref l], []⟩) (Ended s) s := by
  -- nothing but the script is apart
  have bare : ∀ {b : Addr} {o : Obj}, s.heap.get? b = some o → b ≠ l → T b = none := fun {b o} e n => by
    cases q : T b with
    | none => rfl
    | some u => exact absurd (alone b (by rw [q]; exact Option.some_ne_none u)) n
  have stays : ∀ {b : Addr} {o : Obj}, s.heap.get? b = some o → T b = none → (hidT s.heap T).get? b = some o := fun e n => hidT_get e n
  have nodict : ∀ {b : Addr} {o : Obj} {es : Array DictEntry} {ep : Nat}, s.heap.get? b = some o → o.data = .dict es ep → T b = none := fun {b o es ep} e d => bare e fun z => by
    subst z
    rw [at_] at e
    injection e with e
    rw [← e] at d
    exact nomatch d
  have spaces : ∀ {b : Addr} {g : Str → Option Value}, s.heap.Ns b g → (hidT s.heap T).Ns b g := fun {b g} z => by
    obtain ⟨o, es, ep, e1, e2, e3⟩ := z
    exact ⟨o, es, ep, stays e1 (nodict e1 e2), e2, e3⟩
  have kin' : K.In (hidT s.heap T) := fun b o e => by
    refine stays (kin b o e) ?_
    cases q : T b with
    | none => rfl
    | some u =>
      have z := alone b (by rw [q]; exact Option.some_ne_none u)
      subst z
      rw [off (by rw [q]; exact Option.some_ne_none u)] at e
      cases e
  have md : Mod K m (hidT s.heap T) := by
    obtain ⟨mc, c1, c2⟩ := nl
    exact ⟨kin', spaces ns, ⟨mb, spaces nb, bt⟩, mc, spaces c1, c2⟩
  have env : Env0 P w K m (hidT s.heap T) callerA [] s T := by
    refine ⟨rfl, md, fun b o e => of_hidT e, Nat.le_of_eq (hidT_size _ _), trivial, fun b hb => ?_, ok, .of_eq ge⟩
    cases hb
  have call := (G _ kin' (spaces ns)).run callerA [] s T ⟨[.ref l], []⟩ [.ref l] [.ref l] _ rfl ro env (bind s (.ref l)) (.cons rfl .nil) pr
  refine codeAny_mono call fun r t z => ?_
  match r, z with
  | .ok (.ret u), z =>
    obtain ⟨v, T', z1, z2, z3, z4, z5, z6⟩ := z
    have ev : v = .bl true := z6
    subst ev
    have eu : u = Value.bool true := z5
    subst eu
    refine ⟨rfl, OldK.of_keep fun b o e => ?_, z1, z2⟩
    rcases on b with n | ⟨ob, xs, n⟩
    · refine z3.keep b o e n (fun y => ?_) (fun y => ?_) <;> cases y
    · obtain ⟨p1, _⟩ := ok b _ n
      obtain ⟨p2, _⟩ := z4 b _ (z3.frzs b ob _ n)
      rw [p1] at e
      injection e with e
      rw [← e]
      exact p2
  | .ok .next, z => exact False.elim z
  | .ok .brk, z => exact False.elim z
  | .ok .cont, z => exact False.elim z
  | .error _, z => exact False.elim z
/-- the script: one of the module's own objects, or apart -/
theorem law_end (kin : K.In s.heap) (ns : s.heap.Ns mainGlobals m) (nb : s.heap.Ns builtinsNs mb) (bt : ∀ y : Str, y ≠ "__name__" → mb y = bootBuiltins y) (nl : s.heap.NoLimit) (ge : s.gens = #[])
    (at_ : s.heap.get? l = some { cls := .type "list", data := .seq us.toArray }) (ii : IntsAre us is) (sz : is.length ≤ sizeLine) (ro : Room k callerA)
    (G : ∀ b : Heap, K.In b → b.Ns mainGlobals m → FnG P w K m b k f fd [x] sp) (bind : ∀ (t : Shared) (u : Value), BindsTo t fd ⟨[u], []⟩ [(x, u)])
    (pr : ∀ T : Hp, SqL K T l (is.map V.int) → sp [.ref l] T (fun v _ => v = .bl true) E0) :
    codeAny (model P w) callerA (.call (.ref f) ⟨[.ref l], []⟩) (Ended s) s := by
  have rv := vals_ints ii
  have le := ii.length
  cases q : K.lookup l with
  | some o =>
    have e := kin l o q
    rw [at_] at e
    injection e with e
    subst e
    have sq : SqL K (fun _ => none) l (is.map V.int) := .inr ⟨_, us.toArray, _, q, rfl, rfl, rfl, (by rw [List.size_toArray, le]; exact sz), (by simpa using rv)⟩
    exact law_from (T := fun _ => none) kin ns nb bt nl ge at_ ro G bind (fun _ => .inl rfl) (fun b u z => nomatch (show (none : Option HO) = some u from z)) (fun b z => absurd rfl z) (fun z => absurd rfl z) (pr _ sq)
  | none =>
    let o : HO := .frz { cls := .type "list", data := .seq us.toArray } (.lst (is.map V.int))
    have there : (upd (fun _ => none) l o : Hp) l = some o := upd_same
    have else_ : ∀ {b : Addr}, b ≠ l → (upd (fun _ => none) l o : Hp) b = none := fun h => upd_ne h
    refine law_from (T := upd (fun _ => none) l o) kin ns nb bt nl ge at_ ro G bind (fun b => ?_) (fun b u z => ?_) (fun b z => ?_) (fun _ => q) (pr _ (.inl (.inr ⟨_, there⟩)))
    · by_cases h : b = l
      · subst h; exact .inr ⟨_, _, there⟩
      · exact .inl (else_ h)
    · by_cases h : b = l
      · subst h
        rw [there] at z
        injection z with z
        subst z
        exact ⟨at_, by rw [List.length_map]; exact sz, us, _, rv, at_⟩
      · rw [else_ h] at z; cases z
    · by_cases h : b = l
      · exact h
      · exact absurd (else_ h) z
end
/-- a law by its table: the last def is the law -/
theorem law_walk {l : PySem.W.OpenLaw} {n k : Nat} {q : Program} {loose : List Str} {XP : (Str → Option Value) → Heap → Prop} {YP : World → Heap → Prop} {d : DefRec} {x : Str}
    (hn : l.most = some n) (hn2 : n ≤ sizeLine) (hdf : d.params.defaults = []) (ro : Room k callerA)
    (fac : ∀ (w : World) (m : Str → Option Value) (f : Addr) (h : Heap), YP w h → h.Ns mainGlobals m → m d.name = some (.ref f) →
      ∃ (K : PySem.W.Frag) (fd : FuncData) (φ : List MV → Option (MV × List (Option MV))), K.In h ∧ (∀ (t : Shared) (u : Value), BindsTo t fd ⟨[u], []⟩ [(x, u)]) ∧
        (∀ is : List Int, is.length ≤ n → (∀ i ∈ is, Builtin.Int.intBits i ≤ 1048576) → ∃ bk, φ [.scr is] = some (.val (.bool true), bk)) ∧
        ∀ b : Heap, K.In b → b.Ns mainGlobals m → FnG l.prog w K m b k f fd [x] (spF K 1 φ)) :
    PySem.W.WalkO q loose XP YP l.row.toRowW d [] (fun f vs => PySem.call f vs) := by
  refine Att.attach_callB hn hdf fun w t0 t1 m mb f o pm cd doc a us is G Y _ _ _ hm hobj ii hlen hbits hg => ?_
  obtain ⟨K, fd, φ, kin, bind, prom, ok⟩ := fac w m f _ Y G.T.g hm
  refine law_end kin G.T.g G.T.b G.T.builtins G.T.nolimit hg hobj ii (Nat.le_trans hlen hn2) ro ok bind fun T sq => ?_
  obtain ⟨bk, e⟩ := prom is hlen hbits
  refine ⟨rfl, T, [], [.scr is], .val (.bool true), bk, Sub.refl _, .one (.scr sq), List.nodup_nil, (fun _ z => by cases z), e, fun v F' H' L' M _ ow _ _ _ => ?_⟩
  cases ow with
  | val r => exact r.blOf
end Rx
/-! Rx, part 23: a law's head. -/
namespace Rx
open PySem PySem.Spec L2 PyProof.Rows
def Ent.dd (e : Ent) : He.DefD := ⟨(e.x, none), e.x, e.x, defArgs e.st, defBody e.st, defScope e.st, [], []⟩
def fnOf (tbl : List Ent) : List He.DefD := tbl.map Ent.dd
def faOf (tbl : List Ent) : List He.Fa := (tbl.map fun e => .glo e.x) ++ blts.map .free
def gcdB (g : Bool) (K : PySem.W.Frag) : Bool := !g || He.eqO (PySem.W.nsIn K mainGlobals "gcd") (some (some (.builtin "math.gcd")))
abbrev Al : Type := Bool × He.AlD
def obsX (n : Nat) (g : Bool) (tbl : List Ent) (get : Addr → Option Obj) : Al := (gcdB g (He.frG get (He.asD get n)), He.obsD (faOf tbl) (fnOf tbl) (He.frG get (He.asD get n)))
def hookX (n : Nat) (g : Bool) (tbl : List Ent) : PySem.W.Hook where
  α := Al
  obs := fun s => obsX n g tbl s.heap.get?
  val := fun _ => (true, He.valD (fnOf tbl))
  says := fun _ h => ∃ K : PySem.W.Frag, K.In h ∧ gcdB g K = true ∧ He.SaysD (faOf tbl) (fnOf tbl) K
  of := fun _ _ e => ⟨_, He.frG_in, (Prod.mk.inj e).1, (Prod.mk.inj e).2⟩
  keeps := fun _ _ _ ⟨K, hK, a, c⟩ k => ⟨K, PySem.W.Frag.In.keeps hK k, a, c⟩
theorem obsX_eq {n : Nat} {g : Bool} {tbl : List Ent} {get : Addr → Option Obj} {s : Shared} (h : ∀ a, get a = s.heap.get? a) : obsX n g tbl get = (hookX n g tbl).obs s := by
  have e : get = s.heap.get? := funext h
  rw [e] <;> rfl
/-- all parameters are given, by place -/
def Bnd (e : Ent) : Prop := ∀ (kV doc pm : Value) (an : Option Addr) (cdv ct : Value) (us : List Value), us.length = e.ps.length → bindArgs (PySem.W.fnOf e.x e.x (defArgs e.st) (defBody e.st) (defScope e.st) .none kV doc pm an cdv ct) ⟨us, []⟩ = pure (e.ps.zip us)
def Bnds : List Ent → Prop
  | [] => True
  | e :: es => Bnd e ∧ Bnds es
theorem Bnds.mem : ∀ {es : List Ent}, Bnds es → ∀ e ∈ es, Bnd e
  | [], _, e, h => by cases h
  | x :: xs, b, e, h => by
    rcases List.mem_cons.mp h with rfl | h
    · exact b.1
    · exact Bnds.mem b.2 e h
section
variable {K : PySem.W.Frag} {h : Heap} {m : Str → Option Value} {tbl : List Ent} {g : Bool}
theorem says_def (kin : K.In h) (G : h.Ns mainGlobals m) (c : He.SaysD (faOf tbl) (fnOf tbl) K) (b : Bnds tbl) : ∀ e ∈ tbl, ∃ f fd, m e.x = some (.ref f) ∧ FunD K e.x e.x (defArgs e.st) (defBody e.st) (defScope e.st) [] [] f fd ∧ Binds K fd e.ps [] := fun e he => by
  obtain ⟨fd, F⟩ := c.defs (d := e.dd) (List.mem_map.mpr ⟨e, he, rfl⟩)
  have F' : FunD K e.x e.x (defArgs e.st) (defBody e.st) (defScope e.st) [] [] (He.ga K e.x) fd := F
  exact ⟨_, fd, He.glo_ok kin G (c.facts (List.mem_append_left _ (List.mem_map.mpr ⟨e, he, rfl⟩))), F', F'.bindsN (b.mem e he)⟩
theorem says_blt (kin : K.In h) (G : h.Ns mainGlobals m) (c : He.SaysD (faOf tbl) (fnOf tbl) K) : ∀ x ∈ blts, m x = none := fun x hx => He.free_ok kin G (c.facts (List.mem_append_right _ (List.mem_map.mpr ⟨x, hx, rfl⟩)))
theorem says_gcd (kin : K.In h) (G : h.Ns mainGlobals m) (c : gcdB g K = true) (e : g = true) : m "gcd" = some (.builtin "math.gcd") := by
  unfold gcdB at c
  rw [e] at c
  exact PySem.W.mg_of kin G (He.eqO_ok c)
end
/-- a law of a table: its last def, whose reckoning says True of every script -/
theorem table_law {l : PySem.W.OpenLaw} {n k i : Nat} {q : Program} {loose : List Str} {XP : (Str → Option Value) → Heap → Prop} {d : DefRec} {x : Str} {N : Nat} {g : Bool} {tbl : List Ent} {e : Ent}
    (hn : l.most = some n) (hn2 : n ≤ sizeLine) (hdf : d.params.defaults = []) (ro : Room k callerA) (he : tbl[i]? = some e) (hx : e.ps = [x]) (hd : d.name = e.x) (b : Bnds tbl) (look : tbl.all (Ent.look tbl g) = true)
    (prom : ∀ is : List Int, is.length ≤ n → (∀ i ∈ is, Builtin.Int.intBits i ≤ 1048576) → ∃ bk, Phi (tbl.map Ent.fd) k i [.scr is] = some (.val (.bool true), bk)) :
    PySem.W.WalkO q loose XP (hookX N g tbl).says l.row.toRowW d [] (fun f vs => PySem.call f vs) := by
  refine law_walk (x := x) hn hn2 hdf ro fun w m f h Y G hm => ?_
  obtain ⟨K, kin, cg, c⟩ := Y
  have hmem := List.mem_of_getElem? he
  obtain ⟨fd, F⟩ := c.defs (d := e.dd) (List.mem_map.mpr ⟨e, hmem, rfl⟩)
  have F' : FunD K e.x e.x (defArgs e.st) (defBody e.st) (defScope e.st) [] [] (He.ga K e.x) fd := F
  have hm2 : m e.x = some (.ref (He.ga K e.x)) := He.glo_ok kin G (c.facts (List.mem_append_left _ (List.mem_map.mpr ⟨e, hmem, rfl⟩)))
  rw [hd, hm2] at hm
  injection hm with hm
  injection hm with hm
  refine ⟨K, fd, Phi (tbl.map Ent.fd) k i, kin, fun t u => ?_, prom, fun base hb hns => ?_⟩
  · have z := F'.bindsA (ps := e.ps) (b.mem e hmem) t [u] (by rw [hx]; rfl)
    rw [hx] at z
    exact z
  · obtain ⟨f', fd', a1, a2, a3, a4⟩ := tbl_ok (P := l.prog) (w := w) (K := K) (mg := m) (base := base) (says_def kin G c b) look (says_blt kin G c) (says_gcd kin G cg) k i e he
    rw [hm2] at a1
    injection a1 with a1
    injection a1 with a1
    subst a1 hm
    have ef : fd' = fd := by
      obtain ⟨_, _, _, _, _, _, _, _, _, _, _, l1, _⟩ := F'.ex
      obtain ⟨_, _, _, _, _, _, _, _, _, _, _, l2, _⟩ := a2.ex
      rw [l1] at l2
      injection l2 with l2
      injection l2 with _ _ l2 _
      injection l2 with l2
      exact l2.symm
    subst ef
    rw [hx] at a4
    exact a4
end Rx
/-! Rx, plain: what the reckoning's loops come to. -/
namespace Rx
open PySem
theorem ownT (m : MV) : ownOr true m = some m := rfl
theorem ownV (d : PyData) : ownOr false (.val d) = some (.val d) := rfl
theorem ownL (ds : List PyData) : ownOr false (.ls ds) = some (.val (.list ds)) := rfl
theorem argV (e : IE) (d : PyData) : argOf e (.val d) = .val d := by cases e <;> rfl
theorem argM (i : Nat) (m : MV) : argOf (.mov i) m = m := rfl
theorem frzAll_vals : ∀ ds : List PyData, frzAll (ds.map .val) = some ds
  | [] => by unfold frzAll; rfl
  | d :: ds => by
    show frzAll (.val d :: ds.map .val) = _
    unfold frzAll
    show ((some d).bind fun d => (frzAll (ds.map .val)).map fun ds => d :: ds) = _
    rw [frzAll_vals ds]
    rfl
theorem compL_rel {put : PyData → MEnv → Option MEnv} {cond : MEnv → Res Bool} {elt : MEnv → Res MV} {own : List Nat} (Inv : MEnv → Prop) (R : MV → Prop) : ∀ (ds : List PyData) (ms : MEnv) (acc : List MV),
    (∀ d ∈ ds, ∀ ms, Inv ms → ∃ m1 m2 m3 r, put d ms = some m1 ∧ cond m1 = some (true, m2) ∧ elt m2 = some (r, m3) ∧ Inv (wipeM m3 own) ∧ R r) → Inv ms → acc.length + ds.length ≤ lim →
    ∃ rs ms', compL put cond elt own ds ms acc = some (acc ++ rs, ms') ∧ Inv ms' ∧ rs.length = ds.length ∧ ∀ r ∈ rs, R r
  | [], ms, acc, _, hi, _ => ⟨[], ms, by unfold compL; rw [List.append_nil], hi, rfl, fun _ h => by cases h⟩
  | d :: ds, ms, acc, h, hi, hl => by
    obtain ⟨m1, m2, m3, r, e1, e2, e3, e4, e5⟩ := h d List.mem_cons_self ms hi
    rw [List.length_cons] at hl
    obtain ⟨rs, ms', q1, q2, q3, q4⟩ := compL_rel Inv R ds (wipeM m3 own) (acc ++ [r]) (fun d' hd => h d' (List.mem_cons_of_mem _ hd)) e4 (by rw [List.length_append, List.length_singleton]; omega)
    refine ⟨r :: rs, ms', ?_, q2, by rw [List.length_cons, List.length_cons, q3], fun x hx => ?_⟩
    · unfold compL
      rw [e1]
      show ((cond m1).bind _) = _
      rw [e2]
      show ((elt m2).bind _) = _
      rw [e3]
      show (if acc.length < lim then _ else none) = _
      rw [if_pos (by omega), q1, List.append_assoc]
      rfl
    · rcases List.mem_cons.mp hx with rfl | hx
      · exact e5
      · exact q4 x hx
theorem compL_map {put : PyData → MEnv → Option MEnv} {cond : MEnv → Res Bool} {elt : MEnv → Res MV} {own : List Nat} (f : PyData → MV) : ∀ (ds : List PyData) (ms : MEnv) (acc : List MV),
    (∀ d ∈ ds, ∃ m1 m2 m3, put d ms = some m1 ∧ cond m1 = some (true, m2) ∧ elt m2 = some (f d, m3) ∧ wipeM m3 own = ms) → acc.length + ds.length ≤ lim →
    compL put cond elt own ds ms acc = some (acc ++ ds.map f, ms)
  | [], ms, acc, _, _ => by unfold compL; rw [List.map_nil, List.append_nil]
  | d :: ds, ms, acc, h, hl => by
    obtain ⟨m1, m2, m3, e1, e2, e3, e4⟩ := h d List.mem_cons_self
    rw [List.length_cons] at hl
    have q := compL_map f ds ms (acc ++ [f d]) (fun d' hd => h d' (List.mem_cons_of_mem _ hd)) (by rw [List.length_append, List.length_singleton]; omega)
    unfold compL
    rw [e1]
    show ((cond m1).bind _) = _
    rw [e2]
    show ((elt m2).bind _) = _
    rw [e3]
    show (if acc.length < lim then compL put cond elt own ds (wipeM m3 own) (acc ++ [f d]) else none) = _
    rw [if_pos (by omega), e4, q, List.append_assoc]
    rfl
theorem compL_filter {put : PyData → MEnv → Option MEnv} {cond : MEnv → Res Bool} {elt : MEnv → Res MV} {own : List Nat} (p : PyData → Bool) (f : PyData → MV) : ∀ (ds : List PyData) (ms : MEnv) (acc : List MV),
    (∀ d ∈ ds, ∃ m1 m2, put d ms = some m1 ∧ cond m1 = some (p d, m2) ∧ (p d = true → ∃ m3, elt m2 = some (f d, m3) ∧ wipeM m3 own = ms) ∧ (p d = false → wipeM m2 own = ms)) → acc.length + ds.length ≤ lim →
    compL put cond elt own ds ms acc = some (acc ++ (ds.filter p).map f, ms)
  | [], ms, acc, _, _ => by unfold compL; rw [List.filter_nil, List.map_nil, List.append_nil]
  | d :: ds, ms, acc, h, hl => by
    obtain ⟨m1, m2, e1, e2, e3, e4⟩ := h d List.mem_cons_self
    rw [List.length_cons] at hl
    unfold compL
    rw [e1]
    show ((cond m1).bind _) = _
    rw [e2]
    cases hp : p d with
    | true =>
      obtain ⟨m3, e5, e6⟩ := e3 hp
      show ((elt m2).bind _) = _
      rw [e5]
      show (if acc.length < lim then compL put cond elt own ds (wipeM m3 own) (acc ++ [f d]) else none) = _
      rw [if_pos (by omega), e6, compL_filter p f ds ms (acc ++ [f d]) (fun d' hd => h d' (List.mem_cons_of_mem _ hd)) (by rw [List.length_append, List.length_singleton]; omega), List.filter_cons_of_pos hp, List.append_assoc]
      rfl
    | false =>
      show compL put cond elt own ds (wipeM m2 own) acc = _
      rw [e4 hp, compL_filter p f ds ms acc (fun d' hd => h d' (List.mem_cons_of_mem _ hd)) (by omega), List.filter_cons_of_neg (by rw [hp]; decide)]
theorem forF_inv {put : PyData → MEnv → Option MEnv} {b : MEnv → Option Out} (Inv : List PyData → MEnv → Prop) : ∀ (ds : List PyData) (ms : MEnv),
    (∀ d r ms, Inv (d :: r) ms → ∃ m1 m2, put d ms = some m1 ∧ (b m1 = some (.nx m2) ∨ b m1 = some (.cnt m2)) ∧ Inv r m2) → Inv ds ms → ∃ ms', forF put b ds ms = some (.nx ms') ∧ Inv [] ms'
  | [], ms, _, hi => ⟨ms, by unfold forF; rfl, hi⟩
  | d :: ds, ms, h, hi => by
    obtain ⟨m1, m2, e1, e2, e3⟩ := h d ds ms hi
    obtain ⟨ms', q1, q2⟩ := forF_inv Inv ds m2 h e3
    refine ⟨ms', ?_, q2⟩
    unfold forF
    rw [e1]
    show ((b m1).bind _) = _
    rcases e2 with e2 | e2 <;> (rw [e2]; exact q1)
theorem whileF_inv {c : MEnv → Res Bool} {b : MEnv → Option Out} (Inv : Nat → MEnv → Prop) (Post : MEnv → Prop) : ∀ (N n : Nat) (ms : MEnv),
    (∀ m ms, Inv m ms → (∃ m1, c ms = some (false, m1) ∧ Post m1) ∨ ∃ m1 m2 m', c ms = some (true, m1) ∧ (b m1 = some (.nx m2) ∨ b m1 = some (.cnt m2)) ∧ m' < m ∧ Inv m' m2) → Inv N ms → N < n → ∃ ms', whileF c b n ms = some (.nx ms') ∧ Post ms' := by
  intro N
  induction N using Nat.strongRecOn with
  | ind N ih =>
    intro n ms h hi hn
    cases n with
    | zero => omega
    | succ n =>
      unfold whileF
      rcases h N ms hi with ⟨m1, e1, e2⟩ | ⟨m1, m2, m', e1, e2, e3, e4⟩
      · rw [e1]
        exact ⟨m1, rfl, e2⟩
      · obtain ⟨ms', q1, q2⟩ := ih m' e3 n m2 h e4 (by omega)
        refine ⟨ms', ?_, q2⟩
        rw [e1]
        show ((b m1).bind _) = _
        rcases e2 with e2 | e2 <;> (rw [e2]; exact q1)
/-! ### steps -/
section
variable {Φ : Funs} {ms ms1 ms2 : MEnv} {r : List IS}
theorem ss_asg {ow : Bool} {t : ST} {e : IE} {m m' : MV} (h1 : evE Φ e ms = some (m, ms1)) (h2 : ownOr ow m = some m') (h3 : evT Φ t m' ms1 = some ms2) : evSs Φ (.asg ow t e :: r) ms = evSs Φ r ms2 := by
  have e1 : evS Φ (.asg ow t e) ms = some (.nx ms2) := by
    unfold evS
    rw [h1]
    show ((ownOr ow m).bind _) = _
    rw [h2]
    show ((evT Φ t m' ms1).map _) = _
    rw [h3]
    rfl
  rw [evSs, e1]
  rfl
theorem ss_set {ow : Bool} {i : Nat} {e : IE} {m m' : MV} (h1 : evE Φ e ms = some (m, ms1)) (h2 : ownOr ow m = some m') (h3 : Nat.blt i ms1.length = true := by rfl) : evSs Φ (.asg ow (.n i) e :: r) ms = evSs Φ r (ms1.set i (some m')) := ss_asg h1 h2 (by unfold evT setS; exact if_pos (Nat.le_of_ble_eq_true h3))
theorem ss_iteF {c : IE} {a b : List IS} (h : evE Φ c ms = some (.val (.bool false), ms1)) (hb : evSs Φ b ms1 = some (.nx ms2)) : evSs Φ (.ite c a b :: r) ms = evSs Φ r ms2 := by
  have e1 : evS Φ (.ite c a b) ms = some (.nx ms2) := by
    unfold evS
    rw [h]
    show evSs Φ b ms1 = _
    exact hb
  rw [evSs, e1]
  rfl
theorem ss_skip {c : IE} {a : List IS} (h : evE Φ c ms = some (.val (.bool false), ms1)) : evSs Φ (.ite c a [] :: r) ms = evSs Φ r ms1 := ss_iteF h (by unfold evSs; rfl)
theorem ss_iteT {c : IE} {a b : List IS} (h : evE Φ c ms = some (.val (.bool true), ms1)) (hb : evSs Φ a ms1 = some (.nx ms2)) : evSs Φ (.ite c a b :: r) ms = evSs Φ r ms2 := by
  have e1 : evS Φ (.ite c a b) ms = some (.nx ms2) := by
    unfold evS
    rw [h]
    show evSs Φ a ms1 = _
    exact hb
  rw [evSs, e1]
  rfl
theorem ss_iteR {c : IE} {a b : List IS} {m : MV} (h : evE Φ c ms = some (.val (.bool true), ms1)) (hb : evSs Φ a ms1 = some (.ret m ms2)) : evSs Φ (.ite c a b :: r) ms = some (.ret m ms2) := by
  have e1 : evS Φ (.ite c a b) ms = some (.ret m ms2) := by
    unfold evS
    rw [h]
    show evSs Φ a ms1 = _
    exact hb
  rw [evSs, e1]
  rfl
theorem ss_iteC {c : IE} {a b : List IS} (h : evE Φ c ms = some (.val (.bool true), ms1)) (hb : evSs Φ a ms1 = some (.cnt ms2)) : evSs Φ (.ite c a b :: r) ms = some (.cnt ms2) := by
  have e1 : evS Φ (.ite c a b) ms = some (.cnt ms2) := by
    unfold evS
    rw [h]
    show evSs Φ a ms1 = _
    exact hb
  rw [evSs, e1]
  rfl
theorem ss_ret {ow : Bool} {e : IE} {m m' : MV} (h1 : evE Φ e ms = some (m, ms1)) (h2 : ownOr ow m = some m') : evSs Φ (.ret ow e :: r) ms = some (.ret m' ms1) := by
  have e1 : evS Φ (.ret ow e) ms = some (.ret m' ms1) := by
    unfold evS
    rw [h1]
    show ((ownOr ow m).map _) = _
    rw [h2]
    rfl
  rw [evSs, e1]
  rfl
theorem ss_whl {n : Nat} {c : IE} {b : List IS} (h : whileF (fun ms => (evE Φ c ms).bind fun (v, ms1) => (isB v).map fun k => (k, ms1)) (fun ms => evSs Φ b ms) n ms = some (.nx ms1)) : evSs Φ (.whl n c b :: r) ms = evSs Φ r ms1 := by
  have e1 : evS Φ (.whl n c b) ms = some (.nx ms1) := by unfold evS; exact h
  rw [evSs, e1]
  rfl
theorem ss_for {t : NT} {it : II} {b : List IS} {ds : List PyData} (h1 : evI Φ it ms = some (ds, ms1)) (h : forF t.put (fun ms => evSs Φ b ms) ds ms1 = some (.nx ms2)) : evSs Φ (.for_ t it b :: r) ms = evSs Φ r ms2 := by
  have e1 : evS Φ (.for_ t it b) ms = some (.nx ms2) := by
    unfold evS
    rw [h1]
    exact h
  rw [evSs, e1]
  rfl
theorem ss_forR {t : NT} {it : II} {b : List IS} {ds : List PyData} {m : MV} (h1 : evI Φ it ms = some (ds, ms1)) (h : forF t.put (fun ms => evSs Φ b ms) ds ms1 = some (.ret m ms2)) : evSs Φ (.for_ t it b :: r) ms = some (.ret m ms2) := by
  have e1 : evS Φ (.for_ t it b) ms = some (.ret m ms2) := by
    unfold evS
    rw [h1]
    exact h
  rw [evSs, e1]
  rfl
theorem ss_nil : evSs Φ [] ms = some (.nx ms) := by unfold evSs; rfl
theorem run_ret {fd : FD} {args : List MV} {m : MV} (hl : args.length = fd.np) (h : evSs Φ fd.body (args.map some ++ List.replicate (fd.nl - fd.np) none) = some (.ret m ms)) : runF Φ fd args = some (m, back fd.prot fd.np ms) := by
  unfold runF
  rw [if_pos hl, h]
  rfl
end
section
variable {Φ : Funs} {ms ms1 ms2 : MEnv}
theorem seen_it {a : IE} {as : List IE} {v : MV} {vs : List MV} {ms : MEnv} {d : PyData} (n : isPk a = false) (h : v.frz = some d) : seen (a :: as) (v :: vs) ms = (seen as vs ms).map fun ds => d :: ds := by
  have e : seen (a :: as) (v :: vs) ms = (v.frz.bind fun d => (seen as vs ms).map fun ds => d :: ds) := by
    cases a with
    | pk i => cases n
    | _ => conv => lhs; unfold seen
  rw [e, h]
  rfl
theorem seen_nil {ms : MEnv} : seen [] [] ms = some [] := by unfold seen; rfl
theorem evEs_cons {a : IE} {as : List IE} {m : MV} {vs : List MV} (h1 : evE Φ a ms = some (m, ms1)) (h2 : evEs Φ as ms1 = some (vs, ms2)) : evEs Φ (a :: as) ms = some (m :: vs, ms2) := by
  unfold evEs
  rw [h1]
  show (evEs Φ as ms1).map _ = _
  rw [h2]
  rfl
theorem evEs_nil : evEs Φ [] ms = some ([], ms) := by unfold evEs; rfl
theorem ee_op {o : Op} {as : List IE} {vs : List MV} {ds : List PyData} {d : PyData} (h1 : evEs Φ as ms = some (vs, ms1)) (h2 : seen as vs ms1 = some ds) (h3 : opSem o ds = some d) : evE Φ (.op o as) ms = some (madeBy o d, ms1) := by
  unfold evE
  rw [h1]
  show (seen as vs ms1).bind _ = _
  rw [h2]
  show (opSem o ds).map _ = _
  rw [h3]
  rfl
theorem ee_op1 {o : Op} {a : IE} {m : MV} {d1 d : PyData} (n : isPk a = false) (h1 : evE Φ a ms = some (m, ms1)) (f1 : m.frz = some d1) (h : opSem o [d1] = some d) : evE Φ (.op o [a]) ms = some (madeBy o d, ms1) :=
  ee_op (evEs_cons h1 evEs_nil) (by rw [seen_it n f1, seen_nil]; rfl) h
theorem ee_op2 {o : Op} {a b : IE} {m m' : MV} {d1 d2 d : PyData} (n : isPk a = false) (n' : isPk b = false) (h1 : evE Φ a ms = some (m, ms1)) (h2 : evE Φ b ms1 = some (m', ms2)) (f1 : m.frz = some d1) (f2 : m'.frz = some d2) (h : opSem o [d1, d2] = some d) : evE Φ (.op o [a, b]) ms = some (madeBy o d, ms2) :=
  ee_op (evEs_cons h1 (evEs_cons h2 evEs_nil)) (by rw [seen_it n f1, seen_it n' f2, seen_nil]; rfl) h
theorem ee_orF {a b : IE} (h : evE Φ a ms = some (.val (.bool false), ms1)) : evE Φ (.or_ a b) ms = evE Φ b ms1 := by
  rw [evE, h]
  rfl
theorem ee_orT {a b : IE} (h : evE Φ a ms = some (.val (.bool true), ms1)) : evE Φ (.or_ a b) ms = some (.val (.bool true), ms1) := by
  rw [evE, h]
  rfl
theorem ee_andF {a b : IE} (h : evE Φ a ms = some (.val (.bool false), ms1)) : evE Φ (.and_ a b) ms = some (.val (.bool false), ms1) := by
  rw [evE, h]
  rfl
theorem ee_andT {a b : IE} (h : evE Φ a ms = some (.val (.bool true), ms1)) : evE Φ (.and_ a b) ms = evE Φ b ms1 := by
  rw [evE, h]
  rfl
theorem ee_iteT {c a b : IE} (h : evE Φ c ms = some (.val (.bool true), ms1)) : evE Φ (.ite c a b) ms = evE Φ a ms1 := by
  rw [evE, h]
  rfl
theorem ee_iteF {c a b : IE} (h : evE Φ c ms = some (.val (.bool false), ms1)) : evE Φ (.ite c a b) ms = evE Φ b ms1 := by
  rw [evE, h]
  rfl
theorem ee_not {a : IE} {c : Bool} (h : evE Φ a ms = some (.val (.bool c), ms1)) : evE Φ (.not_ a) ms = some (.val (.bool (!c)), ms1) := by
  rw [evE, h]
  rfl
theorem ee_var {i : Nat} {d : PyData} (h : ms[i]? = some (some (.val d))) : evE Φ (.var i) ms = some (.val d, ms) := by
  rw [evE, h]
theorem evAs_cons {a : IE} {as : List IE} {m : MV} {vs : List MV} (h1 : evE Φ a ms = some (m, ms1)) (h2 : evAs Φ as ms1 = some (vs, ms2)) : evAs Φ (a :: as) ms = some (argOf a m :: vs, ms2) := by
  unfold evAs
  rw [h1]
  show (evAs Φ as ms1).map _ = _
  rw [h2]
  rfl
theorem evAs_nil : evAs Φ [] ms = some ([], ms) := by unfold evAs; rfl
theorem ee_call {f : Nat} {as : List IE} {vs : List MV} {r : MV} {bk : List (Option MV)} (h1 : evAs Φ as ms = some (vs, ms1)) (h2 : Φ f vs = some (r, bk)) (h3 : backArgs as bk ms1 = some ms2) : evE Φ (.call f as) ms = some (r, ms2) := by
  unfold evE
  rw [h1]
  show (Φ f vs).bind _ = _
  rw [h2]
  show (backArgs as bk ms1).map _ = _
  rw [h3]
  rfl
theorem ee_comp {own : List Nat} {tg : NT} {it : II} {cond : Option IE} {elt : IE} {ds es : List PyData} {rs : List MV} (h1 : evI Φ it ms = some (ds, ms1)) (hi : idle ms1 own = true)
    (h2 : compL tg.put (fun ms => evC Φ cond ms) (fun ms => evE Φ elt ms) own ds (wipeM ms1 own) [] = some (rs, ms2)) (h3 : frzAll rs = some es) : evE Φ (.comp false own tg it cond elt) ms = some (.ls es, backM ms1 ms2 own) := by
  unfold evE
  rw [h1]
  show (if idle ms1 own = true then Option.bind (compL tg.put (fun ms => evC Φ cond ms) (fun ms => evE Φ elt ms) own ds (wipeM ms1 own) []) _ else none) = _
  rw [if_pos hi, h2]
  show (frzAll rs).map _ = _
  rw [h3]
  rfl
end
end Rx
/-! Rx, plain: a law's drawing of numbers. -/
namespace Rx
open PySem
abbrev iv (i : Int) : MV := .val (.int i)
abbrev ks4 : List L2.Key := [.inr "cells", .inr "left", .inr "mixed", .inr "turn"]
abbrev src (cells : List Int) (left mixed turn : Int) : MV := .dct ks4 [.ls (cells.map .int), iv left, iv mixed, iv turn]
def IsSrc (m : MV) : Prop := ∃ cells left mixed turn, cells.length < 1000 ∧ m = src cells left mixed turn
theorem fk0 : findK ks4 (.inr "cells") = some 0 := by decide +kernel
theorem fk1 : findK ks4 (.inr "left") = some 1 := by decide +kernel
theorem fk2 : findK ks4 (.inr "mixed") = some 2 := by decide +kernel
theorem fk3 : findK ks4 (.inr "turn") = some 3 := by decide +kernel
theorem knd : ks4.Nodup := by decide +kernel
theorem st1 (cells : List Int) (left mixed turn c : Int) : storeOf (.str "left") (iv c) (src cells left mixed turn) = some (src cells c mixed turn) := by
  simp only [storeOf, keyOf, fk1, Option.bind_some]
  rw [if_pos ⟨knd, by decide⟩]
  rfl
theorem st2 (cells : List Int) (left mixed turn c : Int) : storeOf (.str "mixed") (iv c) (src cells left mixed turn) = some (src cells left c turn) := by
  simp only [storeOf, keyOf, fk2, Option.bind_some]
  rw [if_pos ⟨knd, by decide⟩]
  rfl
theorem st3 (cells : List Int) (left mixed turn c : Int) : storeOf (.str "turn") (iv c) (src cells left mixed turn) = some (src cells left mixed c) := by
  simp only [storeOf, keyOf, fk3, Option.bind_some]
  rw [if_pos ⟨knd, by decide⟩]
  rfl
theorem st0 (cells : List Int) (left mixed turn c : Int) : storeOf (.str "left") (iv c) (.dct ks4 [.ls (cells.map .int), iv left, iv mixed, iv turn]) = some (src cells c mixed turn) := st1 cells left mixed turn c
def pc : IE := (.and_ (.op .gt [(.var 1), (.cst (.int 1))]) (.and_ (.op .lt [(.rd true 0 (.cst (.str "left"))), (.cst (.int 2))]) (.op .gt [(.dlen 0 "cells"), (.cst (.int 0))])))
def pb : List IS := [.asg false (.sub 0 (.cst (.str "left"))) (.dpop 0 "cells")]
def pr : List IS := [
    .asg false (.n 2) (.rd true 0 (.cst (.str "left"))),
    .ite (.or_ (.op .lt [(.var 1), (.cst (.int 2))]) (.op .gt [(.var 2), (.cst (.int 1))]))
      [
        .asg false (.sub 0 (.cst (.str "left"))) (.op .fdiv [(.var 2), (.op .max2 [(.cst (.int 1)), (.var 1)])]),
        .ret false (.op .mod [(.op .int [(.var 2)]), (.op .max2 [(.cst (.int 1)), (.var 1)])])]
      [],
    .asg false (.sub 0 (.cst (.str "turn"))) (.op .add [(.rd true 0 (.cst (.str "turn"))), (.cst (.int 1))]),
    .asg false (.n 3) (.op .mod [(.op .int [(.op .add [(.rd true 0 (.cst (.str "mixed"))), (.op .mul [(.rd true 0 (.cst (.str "turn"))), (.cst (.int 104729))])])]), (.cst (.int 998244353))]),
    .asg false (.n 3) (.op .mod [(.op .int [(.op .add [(.op .mul [(.var 3), (.var 3)]), (.op .mul [(.rd true 0 (.cst (.str "turn"))), (.cst (.int 17))])])]), (.cst (.int 2147483647))]),
    .asg false (.sub 0 (.cst (.str "mixed"))) (.var 3),
    .ret false (.op .mod [(.op .int [(.op .fdiv [(.var 3), (.cst (.int 16))])]), (.var 1)])]
/-- the drawing def -/
def fPick : FD := ⟨2, 4, [0], .whl (2 ^ 20000) pc pb :: pr⟩
def cnd (Φ : Funs) : MEnv → Res Bool := fun ms => (evE Φ pc ms).bind fun (v, ms1) => (isB v).map fun k => (k, ms1)
theorem cnd_eq (Φ : Funs) (cells : List Int) (left mixed turn many : Int) : cnd Φ [some (src cells left mixed turn), some (iv many), none, none] = some (decide (1 < many) && (decide (left < 2) && decide (0 < cells.length)), [some (src cells left mixed turn), some (iv many), none, none]) := by
  by_cases h1 : 1 < many
  · by_cases h2 : left < 2
    · simp [cnd, pc, evE, evEs, seen, opSem, s_gt, s_lt, madeBy, Op.fresh, MV.frz, isB, there, rdOf, keyOf, fk0, fk1, fk2, fk3, h1, h2]
    · simp [cnd, pc, evE, evEs, seen, opSem, s_gt, s_lt, madeBy, Op.fresh, MV.frz, isB, there, rdOf, keyOf, fk0, fk1, fk2, fk3, h1, h2]
  · simp [cnd, pc, evE, evEs, seen, opSem, s_gt, s_lt, madeBy, Op.fresh, MV.frz, isB, there, rdOf, keyOf, fk0, fk1, fk2, fk3, h1]
theorem pb_eq (Φ : Funs) (cells : List Int) (c left mixed turn many : Int) : evSs Φ pb [some (src (cells ++ [c]) left mixed turn), some (iv many), none, none] = some (.nx [some (src cells c mixed turn), some (iv many), none, none]) := by
  simp [pb, evSs, evS, evE, evT, ownOr, MV.frz, there, Rx.chg, fk0, popLast, st0, st1]
theorem loop_eq (Φ : Funs) (mixed turn many : Int) : ∀ (N n : Nat) (cells : List Int) (left : Int), cells.length ≤ N → N < n →
    ∃ cells' left', cells'.length ≤ cells.length ∧ whileF (cnd Φ) (fun ms => evSs Φ pb ms) n [some (src cells left mixed turn), some (iv many), none, none] = some (.nx [some (src cells' left' mixed turn), some (iv many), none, none]) := by
  intro N
  induction N with
  | zero =>
    intro n cells left hc hn
    have e : cells = [] := List.eq_nil_of_length_eq_zero (by omega)
    subst e
    cases n with
    | zero => omega
    | succ n =>
      refine ⟨[], left, Nat.le_refl _, ?_⟩
      unfold whileF
      rw [cnd_eq]
      simp
  | succ N ih =>
    intro n cells left hc hn
    cases n with
    | zero => omega
    | succ n =>
      unfold whileF
      rw [cnd_eq]
      by_cases h : (decide (1 < many) && (decide (left < 2) && decide (0 < cells.length))) = true
      · rw [h]
        have hne : cells ≠ [] := by
          intro z; subst z; simp at h
        obtain ⟨init, c, rfl⟩ : ∃ init c, cells = init ++ [c] := ⟨cells.dropLast, cells.getLast hne, (List.dropLast_concat_getLast hne).symm⟩
        rw [List.length_append] at hc
        obtain ⟨c', l', h1, h2⟩ := ih n init c (by simp at hc; omega) (by omega)
        refine ⟨c', l', by rw [List.length_append]; omega, ?_⟩
        show ((evSs Φ pb _).bind _) = _
        rw [pb_eq]
        exact h2
      · refine ⟨cells, left, Nat.le_refl _, ?_⟩
        have h' : (decide (1 < many) && (decide (left < 2) && decide (0 < cells.length))) = false := by simpa using h
        rw [h']
        rfl
theorem mulL (i j : Int) (h : smlOk i = true) : s_mul [.int i, .int j] = some (.int (i * j)) := by simp [s_mul, mulOk, h]
theorem mulR (i j : Int) (h : smlOk j = true) : s_mul [.int i, .int j] = some (.int (i * j)) := by simp [s_mul, mulOk, h]
theorem fdivP (i j : Int) (h : j ≠ 0) (h2 : j.natAbs.log2 < 9000) : s_fdiv [.int i, .int j] = some (.int (i.fdiv j)) := by simp [s_fdiv, h, h2]
theorem modP (i j : Int) (h : j ≠ 0) : s_mod [.int i, .int j] = some (.int (i.fmod j)) := by simp [s_mod, h]
theorem big : 1000 < 2 ^ 20000 := Nat.lt_of_lt_of_le (by decide : 1000 < 2 ^ 10) (Nat.pow_le_pow_right (by decide) (by decide))
theorem log_small {i : Int} (h : i.natAbs < 2 ^ 60) : i.natAbs.log2 < 9000 := by
  by_cases e : i.natAbs = 0
  · rw [e]; decide
  · exact Nat.lt_trans ((Nat.log2_lt e).mpr h) (by decide)
theorem fmod_rng (i : Int) {j : Int} (h : 0 < j) : 0 ≤ i.fmod j ∧ i.fmod j < j := ⟨Int.fmod_nonneg_of_pos i h, Int.fmod_lt_of_pos i h⟩
theorem pick_ev (Φ : Funs) (cells : List Int) (left mixed turn many : Int) (hc : cells.length < 1000) (hm : many.natAbs < 2 ^ 60) :
    ∃ v cells' left' mixed' turn', cells'.length ≤ cells.length ∧ (0 < many → 0 ≤ v ∧ v < many) ∧ runF Φ fPick [src cells left mixed turn, iv many] = some (iv v, [some (src cells' left' mixed' turn'), none]) := by
  obtain ⟨c', l', h1, h2⟩ := loop_eq (Φ) mixed turn many cells.length (2 ^ 20000) cells left (Nat.le_refl _) (Nat.lt_trans hc big)
  have e0 : runF Φ fPick [src cells left mixed turn, iv many] = (evSs (Φ) pr [some (src c' l' mixed turn), some (iv many), none, none]).bind fun o => match o with
      | .ret m ms => some (m, back [0] 2 ms)
      | .nx ms => some (.val .none, back [0] 2 ms)
      | _ => none := by
    show (Option.bind (Option.bind (whileF (cnd (Φ)) (fun ms => evSs (Φ) pb ms) (2 ^ 20000) [some (src cells left mixed turn), some (iv many), none, none]) _) _) = _
    rw [h2]
    rfl
  rw [e0]
  by_cases hb : many < 2 ∨ 1 < l'
  · have hM : (if many > 1 then many else 1) ≠ 0 := by split <;> omega
    have hL : (if many > 1 then many else 1).natAbs.log2 < 9000 := by
      apply log_small
      split
      · exact hm
      · decide
    refine ⟨l'.fmod (if many > 1 then many else 1), c', l'.fdiv (if many > 1 then many else 1), mixed, turn, h1, fun hp => ?_, ?_⟩
    · have e : (if many > 1 then many else 1) = many := by split <;> omega
      rw [e]
      exact fmod_rng _ hp
    · by_cases h2' : many < 2
      · simp [pr, evSs, evS, evE, evEs, evT, seen, opSem, s_lt, s_gt, s_int, s_max2, madeBy, Op.fresh, ownOr, MV.frz, isB, there, rdOf, keyOf, Rx.chg, setS, fk0, fk1, fk2, fk3, st1, fdivP _ _ hM hL, modP _ _ hM, h2']
        rfl
      · have h3 : 1 < l' := by omega
        simp [pr, evSs, evS, evE, evEs, evT, seen, opSem, s_lt, s_gt, s_int, s_max2, madeBy, Op.fresh, ownOr, MV.frz, isB, there, rdOf, keyOf, Rx.chg, setS, fk0, fk1, fk2, fk3, st1, fdivP _ _ hM hL, modP _ _ hM, h2', h3]
        rfl
  · have n1 : ¬ many < 2 := fun z => hb (.inl z)
    have n2 : ¬ 1 < l' := fun z => hb (.inr z)
    have hM : many ≠ 0 := by omega
    have r1 : 0 ≤ (mixed + (turn + 1) * 104729).fmod 998244353 ∧ (mixed + (turn + 1) * 104729).fmod 998244353 < 998244353 := fmod_rng _ (by decide)
    have sm : smlOk ((mixed + (turn + 1) * 104729).fmod 998244353) = true := decide_eq_true (by omega)
    refine ⟨((((mixed + (turn + 1) * 104729).fmod 998244353 * (mixed + (turn + 1) * 104729).fmod 998244353 + (turn + 1) * 17).fmod 2147483647).fdiv 16).fmod many, c', l', ((mixed + (turn + 1) * 104729).fmod 998244353 * (mixed + (turn + 1) * 104729).fmod 998244353 + (turn + 1) * 17).fmod 2147483647, turn + 1, h1, fun hp => fmod_rng _ hp, ?_⟩
    simp [pr, evSs, evS, evE, evEs, evT, seen, opSem, s_lt, s_gt, s_int, s_add, madeBy, Op.fresh, ownOr, MV.frz, isB, there, rdOf, keyOf, Rx.chg, setS, fk0, fk1, fk2, fk3, st1, st2, st3, n1, n2, mulR _ 104729 (by decide), modP _ 998244353 (by decide), mulL _ _ sm, mulR _ 17 (by decide), modP _ 2147483647 (by decide), fdivP _ 16 (by decide) (by decide), modP _ many hM]
    rfl

/-- a def draws: from 0 to many - 1 -/
def PickOk (Φ : Funs) (i : Nat) : Prop := ∀ s, IsSrc s → ∀ many : Int, many.natAbs < 2 ^ 60 → ∃ v s', IsSrc s' ∧ (0 < many → 0 ≤ v ∧ v < many) ∧ Φ i [s, iv many] = some (iv v, [some s', none])
theorem pickOk {Φ Ψ : Funs} {i : Nat} (h : ∀ as, Ψ i as = runF Φ fPick as) : PickOk Ψ i := by
  rintro s ⟨cells, left, mixed, turn, hc, rfl⟩ many hm
  obtain ⟨v, c', l', m', t', h1, h2, h3⟩ := pick_ev Φ cells left mixed turn many hc hm
  exact ⟨v, _, ⟨c', l', m', t', by omega, rfl⟩, h2, by rw [h]; exact h3⟩
def sl : List IS := [
    .asg false (.n 1) (.op .mod [(.op .int [(.op .add [(.op .add [(.op .mul [(.var 1), (.cst (.int 69069))]), (.op .mul [(.var 2), (.cst (.int 31))])]), (.cst (.int 5))])]), (.cst (.int 2147483629))])]
def se : IE := (.op .abs [(.var 2)])
/-- the def that makes the source -/
def fSrc : FD := ⟨1, 3, [], [
    .asg false (.n 1) (.cst (.int 11)),
    .for_ (.n 2) (.scr 0) sl,
    .ret true (.odct [.inr "cells", .inr "left", .inr "mixed", .inr "turn"] [(.op .rev [(.comp false [2] (.n 2) (.scr 0) none se)]), (.cst (.int 1)), (.var 1), (.cst (.int 0))])]⟩
theorem fold_src (Φ : Funs) : ∀ (is : List Int) (l : List Int) (m : Int) (x : Option MV), (x = none ∨ ∃ c, x = some (iv c)) →
    ∃ m' x', (x' = none ∨ ∃ c, x' = some (iv c)) ∧ forF (NT.put (.n 2)) (fun ms => evSs Φ sl ms) (is.map .int) [some (.scr l), some (iv m), x] = some (.nx [some (.scr l), some (iv m'), x'])
  | [], l, m, x, hx => ⟨m, x, hx, rfl⟩
  | i :: is, l, m, x, hx => by
    obtain ⟨m', x', h1, h2⟩ := fold_src Φ is l ((m * 69069 + i * 31 + 5).fmod 2147483629) (some (iv i)) (.inr ⟨i, rfl⟩)
    refine ⟨m', x', h1, ?_⟩
    have e : evSs Φ sl [some (.scr l), some (iv m), some (iv i)] = some (.nx [some (.scr l), some (iv ((m * 69069 + i * 31 + 5).fmod 2147483629)), some (iv i)]) := by
      simp [sl, evSs, evS, evE, evEs, evT, seen, opSem, s_add, s_int, madeBy, Op.fresh, ownOr, MV.frz, setS, mulR _ 69069 (by decide), mulR _ 31 (by decide), modP _ 2147483629 (by decide)]
    rw [List.map_cons]
    unfold forF
    show ((evSs Φ sl [some (.scr l), some (iv m), some (iv i)]).bind _) = _
    rw [e]
    exact h2
def SrcOk (Φ : Funs) (i : Nat) : Prop := ∀ is : List Int, is.length < 1000 → ∃ s, IsSrc s ∧ Φ i [.scr is] = some (s, [none])
theorem source_ev (Φ : Funs) (is : List Int) (hl : is.length < 1000) : ∃ m, runF Φ fSrc [.scr is] = some (src (is.map fun i => if i < 0 then -i else i).reverse 1 m 0, [none]) := by
  obtain ⟨m', x', h1, h2⟩ := fold_src Φ is is 11 none (.inl rfl)
  refine ⟨m', ?_⟩
  have hi : idle [some (.scr is), some (iv m'), x'] [2] = true := by
    rcases h1 with rfl | ⟨c, rfl⟩ <;> rfl
  have hw : wipeM [some (.scr is), some (iv m'), x'] [2] = [some (.scr is), some (iv m'), none] := rfl
  let g : PyData → MV := fun d => .val (match d with | .int i => .int (if i < 0 then -i else i) | d => d)
  have hc : compL (NT.put (.n 2)) (fun ms => evC Φ none ms) (fun ms => evE Φ se ms) [2] (is.map .int) [some (.scr is), some (iv m'), none] [] = some ((is.map .int).map g, [some (.scr is), some (iv m'), none]) := by
    refine compL_map _ _ _ _ (fun d hd => ?_) (by rw [List.length_nil, List.length_map, Nat.zero_add]; exact Nat.le_trans (Nat.le_of_lt hl) (by decide))
    obtain ⟨i, _, rfl⟩ := List.mem_map.mp hd
    refine ⟨[some (.scr is), some (iv m'), some (iv i)], [some (.scr is), some (iv m'), some (iv i)], [some (.scr is), some (iv m'), some (iv i)], rfl, rfl, ?_, rfl⟩
    simp [se, evE, evEs, seen, opSem, s_abs, madeBy, Op.fresh, MV.frz, g]
  have hb : backM [some (.scr is), some (iv m'), x'] [some (.scr is), some (iv m'), none] [2] = [some (.scr is), some (iv m'), x'] := by
    rcases h1 with rfl | ⟨c, rfl⟩ <;> rfl
  have hf : frzAll ((is.map PyData.int).map g) = some (is.map fun i => .int (if i < 0 then -i else i)) := by
    have e : (is.map PyData.int).map g = (is.map fun i => PyData.int (if i < 0 then -i else i)).map MV.val := by
      rw [List.map_map, List.map_map]; rfl
    rw [e, frzAll_vals]
  have hcomp : evE Φ (.comp false [2] (.n 2) (.scr 0) none se) [some (.scr is), some (iv m'), x'] = some (.ls (is.map fun i => .int (if i < 0 then -i else i)), [some (.scr is), some (iv m'), x']) := by
    unfold evE
    show (if idle [some (.scr is), some (iv m'), x'] [2] = true then _ else none) = _
    rw [hi, if_pos rfl, hw]
    show (Option.bind (compL (NT.put (.n 2)) (fun ms => evC Φ none ms) (fun ms => evE Φ se ms) [2] (is.map .int) [some (.scr is), some (iv m'), none] []) _) = _
    rw [hc]
    show ((frzAll ((is.map PyData.int).map g)).map _) = _
    rw [hf, hb]
    rfl
  have hrev : evE Φ (.op .rev [(.comp false [2] (.n 2) (.scr 0) none se)]) [some (.scr is), some (iv m'), x'] = some (.ls (is.map fun i => PyData.int (if i < 0 then -i else i)).reverse, [some (.scr is), some (iv m'), x']) := by
    unfold evE evEs
    rw [hcomp]
    rfl
  have e0 : runF Φ fSrc [.scr is] = (evSs Φ [.ret true (.odct ks4 [(.op .rev [(.comp false [2] (.n 2) (.scr 0) none se)]), (.cst (.int 1)), (.var 1), (.cst (.int 0))])] [some (.scr is), some (iv m'), x']).bind fun o => match o with
      | .ret m ms => some (m, back [] 1 ms)
      | .nx ms => some (.val .none, back [] 1 ms)
      | _ => none := by
    show (Option.bind (Option.bind (forF (NT.put (.n 2)) (fun ms => evSs Φ sl ms) (is.map .int) [some (.scr is), some (iv 11), none]) _) _) = _
    rw [h2]
    rfl
  rw [e0]
  have eL : ((is.map fun i => if i < 0 then -i else i).reverse.map PyData.int) = (is.map fun i => PyData.int (if i < 0 then -i else i)).reverse := by
    rw [List.map_reverse, List.map_map]; rfl
  have ed : evE Φ (.odct ks4 [(.op .rev [(.comp false [2] (.n 2) (.scr 0) none se)]), (.cst (.int 1)), (.var 1), (.cst (.int 0))]) [some (.scr is), some (iv m'), x'] = some (src (is.map fun i => if i < 0 then -i else i).reverse 1 m' 0, [some (.scr is), some (iv m'), x']) := by
    unfold evE evEs
    rw [hrev]
    show (if 4 = 4 ∧ ks4.Nodup ∧ 4 ≤ 15 then _ else none) = _
    rw [if_pos ⟨rfl, knd, by decide⟩]
    unfold src
    rw [eL]
    rfl
  unfold evSs evS
  rw [ed]
  rfl
theorem srcOk {Φ Ψ : Funs} {i : Nat} (h : ∀ as, Ψ i as = runF Φ fSrc as) : SrcOk Ψ i := by
  intro is hl
  obtain ⟨m, e⟩ := source_ev Φ is hl
  exact ⟨src (is.map fun i => if i < 0 then -i else i).reverse 1 m 0, ⟨_, 1, m, 0, by rw [List.length_reverse, List.length_map]; exact hl, rfl⟩, by rw [h]; exact e⟩
/-- the def that takes a drawn member -/
def fOf (i : Nat) : FD := ⟨2, 2, [0], [.ret false (.op .ix [(.var 1), (.call i [(.mov 0), (.op .len [(.var 1)])])])]⟩
def OfOk (Φ : Funs) (i : Nat) : Prop := ∀ s, IsSrc s → ∀ ds : List PyData, ds ≠ [] → ds.length < 2 ^ 60 → ∃ d, d ∈ ds ∧ ∃ s', IsSrc s' ∧ Φ i [s, .val (.list ds)] = some (.val d, [some s', none])
theorem ofOk {Φ Ψ : Funs} {i p : Nat} (hp : PickOk Φ p) (h : ∀ as, Ψ i as = runF Φ (fOf p) as) : OfOk Ψ i := by
  intro s hs ds hne hl
  obtain ⟨v, s', h1, h2, h3⟩ := hp s hs ds.length (by simpa using hl)
  have hpos : 0 < ds.length := by cases ds with | nil => exact absurd rfl hne | cons _ _ => simp
  obtain ⟨v0, v1⟩ := h2 (by omega)
  have hlt : v.toNat < ds.length := by omega
  have hat : L2.atI ds v = some ds[v.toNat] := by
    unfold L2.atI L2.ixN
    rw [if_pos v0, if_pos v1]
    exact List.getElem?_eq_getElem hlt
  refine ⟨ds[v.toNat], List.getElem_mem _, s', h1, ?_⟩
  rw [h]
  refine run_ret (ms := [some s', some (.val (.list ds))]) rfl ?_
  unfold fOf
  refine ss_ret (m := .val ds[v.toNat]) ?_ rfl
  simp [evE, evEs, evAs, seen, opSem, s_len, s_ix, madeBy, Op.fresh, MV.frz, argV, argM, backArgs, h3, hat]
end Rx
/-! small data: shown, weighed and compared without a second look; more steps of expressions. -/
namespace Rx
open PySem
structure Sm (w h : Nat) (d : PyData) : Prop where
  sh : PyData.showable d = true
  sg : signs d ≤ w
  dp : PyData.depth d ≤ h
  hd : PyData.hasDict d = false
  ly : PyData.canLay0 d = true
theorem Sm.int {w h : Nat} {i : Int} (hi : i.natAbs < 2 ^ 60) (hw : 64 ≤ w) : Sm w h (.int i) := by
  have l : i.natAbs.log2 < 61 := by
    by_cases z : i.natAbs = 0
    · rw [z]; decide
    · exact (Nat.log2_lt z).mpr (Nat.lt_of_lt_of_le hi (by decide))
  refine ⟨?_, ?_, ?_, ?_, ?_⟩
  · simp only [PyData.showable]; exact decide_eq_true (by omega)
  · simp only [signs]; omega
  · simp only [PyData.depth]; omega
  · simp only [PyData.hasDict]
  · simp only [PyData.canLay0]
theorem Sm.bool {w h : Nat} {b : Bool} (hw : 5 ≤ w) : Sm w h (.bool b) := by
  refine ⟨?_, ?_, ?_, ?_, ?_⟩
  · simp only [PyData.showable]
  · simp only [signs]; omega
  · simp only [PyData.depth]; omega
  · simp only [PyData.hasDict]
  · simp only [PyData.canLay0]
theorem Sm.none {w h : Nat} (hw : 5 ≤ w) : Sm w h .none := by
  refine ⟨?_, ?_, ?_, ?_, ?_⟩
  · simp only [PyData.showable]
  · simp only [signs]; omega
  · simp only [PyData.depth]; omega
  · simp only [PyData.hasDict]
  · simp only [PyData.canLay0]
theorem Sm.mono {w h w' h' : Nat} {d : PyData} (s : Sm w h d) (hw : w ≤ w') (hh : h ≤ h') : Sm w' h' d := ⟨s.sh, by have := s.sg; omega, by have := s.dp; omega, s.hd, s.ly⟩
theorem Sm.all {w h : Nat} : ∀ ds : List PyData, (∀ d ∈ ds, Sm w h d) → PyData.showableAll ds = true ∧ signs.signsAll ds ≤ ds.length * (w + 2) ∧ PyData.depthAll ds ≤ h ∧ PyData.hasDictAll ds = false ∧ PyData.canLayAll0 ds = true
  | [], _ => by simp [PyData.showableAll, signs.signsAll, PyData.depthAll, PyData.hasDictAll, PyData.canLayAll0]
  | d :: ds, ha => by
    have a := ha d List.mem_cons_self
    obtain ⟨b1, b2, b3, b4, b5⟩ := Sm.all ds fun e he => ha e (List.mem_cons_of_mem _ he)
    have a2 := a.sg
    have a3 := a.dp
    refine ⟨?_, ?_, ?_, ?_, ?_⟩
    · simp only [PyData.showableAll, a.sh, b1, Bool.and_self]
    · simp only [signs.signsAll, List.length_cons, Nat.add_mul]; omega
    · simp only [PyData.depthAll]; omega
    · simp only [PyData.hasDictAll, a.hd, b4, Bool.or_self]
    · simp only [PyData.canLayAll0, a.ly, b5, Bool.and_self]
theorem Sm.list {w h n W : Nat} {ds : List PyData} (ha : ∀ d ∈ ds, Sm w h d) (hl : ds.length ≤ n) (hW : n * (w + 2) + 3 ≤ W) : Sm W (h + 1) (.list ds) := by
  obtain ⟨b1, b2, b3, b4, b5⟩ := Sm.all ds ha
  have := Nat.mul_le_mul_right (w + 2) hl
  refine ⟨?_, ?_, ?_, ?_, ?_⟩
  · simp only [PyData.showable, b1]
  · simp only [signs]; omega
  · simp only [PyData.depth]; omega
  · simp only [PyData.hasDict, b4]
  · simp only [PyData.canLay0, b5]
theorem Sm.tuple {w h n W : Nat} {ds : List PyData} (ha : ∀ d ∈ ds, Sm w h d) (hl : ds.length ≤ n) (hW : n * (w + 2) + 3 ≤ W) : Sm W (h + 1) (.tuple ds) := by
  obtain ⟨b1, b2, b3, b4, b5⟩ := Sm.all ds ha
  have := Nat.mul_le_mul_right (w + 2) hl
  refine ⟨?_, ?_, ?_, ?_, ?_⟩
  · simp only [PyData.showable, b1]
  · simp only [signs]; omega
  · simp only [PyData.depth]; omega
  · simp only [PyData.hasDict, b4]
  · simp only [PyData.canLay0, b5]
theorem Sm.rep {w h : Nat} {d : PyData} (s : Sm w h d) (hw : w ≤ 1000000 := by decide) (hh : h ≤ 64 := by decide) : s_repr [d] = some (.str (PyData.shown d)) := by
  have ok : showOk d = true := by
    unfold showOk
    have := s.sg
    have := s.dp
    have c2 : signs d ≤ lim := by
      have : lim = 1000000 := rfl
      omega
    have c3 : PyData.depth d ≤ 64 := by omega
    simp [s.sh, c2, c3, s.hd]
  show (if showOk d = true then some (PyData.str (PyData.shown d)) else Option.none) = _
  rw [if_pos ok]
theorem Sm.shp {w h : Nat} {d : PyData} (s : Sm w h d) (hh : h ≤ 64 := by decide) : SeqAt.shaped d = true := by
  have := s.dp
  have c3 : PyData.depth d ≤ 64 := by omega
  unfold SeqAt.shaped
  simp [s.ly, c3]
theorem eqD_self {d : PyData} (s : SeqAt.shaped d = true) : eqD d d = some true := by
  have l : d.canLay0 = true := by
    unfold SeqAt.shaped at s
    rw [Bool.and_eq_true] at s
    exact s.1
  unfold eqD
  split
  · simp
  · rw [s]
    simp only [Bool.and_self, if_true]
    rw [SeqAt.eqv_refl d l]
theorem Sm.eq {w h : Nat} {d : PyData} (s : Sm w h d) (hh : h ≤ 64 := by decide) : s_eq [d, d] = some (.bool true) := by
  show (eqD d d).map (fun c => PyData.bool c) = _
  rw [eqD_self (s.shp hh)]
  rfl
theorem Sm.ne {w h : Nat} {d : PyData} (s : Sm w h d) (hh : h ≤ 64 := by decide) : s_ne [d, d] = some (.bool false) := by
  show (eqD d d).map (fun c => PyData.bool (!c)) = _
  rw [eqD_self (s.shp hh)]
  rfl
theorem ne_strs (x : Str) : s_ne [.str x, .str x] = some (.bool false) := by simp [s_ne, eqD]
section
variable {Φ : Funs} {ms ms1 ms2 : MEnv}
theorem ee_cst {d : PyData} : evE Φ (.cst d) ms = some (.val d, ms) := by rw [evE]
/-- `repr(a) != repr(b)` of the same small data is false -/
theorem ee_reps {w h : Nat} {a b : IE} {m m' : MV} {d : PyData} (s : Sm w h d) (na : isPk a = false) (nb : isPk b = false) (h1 : evE Φ a ms = some (m, ms1)) (h2 : evE Φ b ms1 = some (m', ms2)) (f1 : m.frz = some d) (f2 : m'.frz = some d) (hw : w ≤ 1000000 := by decide) (hh : h ≤ 64 := by decide) : evE Φ (.op .ne [.op .repr [a], .op .repr [b]]) ms = some (.val (.bool false), ms2) := by
  have r := s.rep hw hh
  have e1 : evE Φ (.op .repr [a]) ms = some (.val (.str (PyData.shown d)), ms1) := ee_op1 (o := .repr) na h1 f1 r
  have e2 : evE Φ (.op .repr [b]) ms1 = some (.val (.str (PyData.shown d)), ms2) := ee_op1 (o := .repr) nb h2 f2 r
  exact ee_op2 (o := .ne) rfl rfl e1 e2 rfl rfl (ne_strs _)
/-- `a != b` of the same small data is false -/
theorem ee_nes {w h : Nat} {a b : IE} {m m' : MV} {d : PyData} (s : Sm w h d) (na : isPk a = false) (nb : isPk b = false) (h1 : evE Φ a ms = some (m, ms1)) (h2 : evE Φ b ms1 = some (m', ms2)) (f1 : m.frz = some d) (f2 : m'.frz = some d) (hh : h ≤ 64 := by decide) : evE Φ (.op .ne [a, b]) ms = some (.val (.bool false), ms2) :=
  ee_op2 (o := .ne) na nb h1 h2 f1 f2 (s.ne hh)
theorem ee_eqs {w h : Nat} {a b : IE} {m m' : MV} {d : PyData} (s : Sm w h d) (na : isPk a = false) (nb : isPk b = false) (h1 : evE Φ a ms = some (m, ms1)) (h2 : evE Φ b ms1 = some (m', ms2)) (f1 : m.frz = some d) (f2 : m'.frz = some d) (hh : h ≤ 64 := by decide) : evE Φ (.op .eq [a, b]) ms = some (.val (.bool true), ms2) :=
  ee_op2 (o := .eq) na nb h1 h2 f1 f2 (s.eq hh)
/-- `f(..)`'s repr held against what it was -/
theorem ee_kept {a b : IE} {m : MV} {d : PyData} {x : Str} (s : s_repr [d] = some (.str x)) (na : isPk a = false) (nb : isPk b = false) (h1 : evE Φ a ms = some (m, ms1)) (h2 : evE Φ b ms1 = some (.val (.str x), ms2)) (f1 : m.frz = some d) : evE Φ (.op .ne [.op .repr [a], b]) ms = some (.val (.bool false), ms2) := by
  have e1 : evE Φ (.op .repr [a]) ms = some (.val (.str x), ms1) := ee_op1 (o := .repr) na h1 f1 s
  exact ee_op2 (o := .ne) rfl nb e1 h2 rfl rfl (ne_strs _)
theorem ee_tup {as : List IE} {vs : List MV} {ds : List PyData} (h1 : evEs Φ as ms = some (vs, ms1)) (f : frzAll vs = some ds) (hl : ds.length ≤ 1000000 := by decide) : evE Φ (.tup as) ms = some (.val (.tuple ds), ms1) := by
  rw [evE, h1, Option.bind_some]
  dsimp only
  rw [f, Option.bind_some]
  exact if_pos hl
theorem ee_lst {as : List IE} {vs : List MV} {ds : List PyData} (h1 : evEs Φ as ms = some (vs, ms1)) (f : frzAll vs = some ds) (hl : ds.length ≤ 1000000 := by decide) : evE Φ (.lst as) ms = some (.ls ds, ms1) := by
  rw [evE, h1, Option.bind_some]
  dsimp only
  rw [f, Option.bind_some]
  exact if_pos hl
theorem ee_mov {i : Nat} {m : MV} (h : ms[i]? = some (some m)) : evE Φ (.mov i) ms = some (m, ms.set i none) := by
  rw [evE, h]; rfl
theorem ee_op1r {o : Op} {a : IE} {m r : MV} {d1 d : PyData} (n : isPk a = false) (h1 : evE Φ a ms = some (m, ms1)) (f1 : m.frz = some d1) (h : opSem o [d1] = some d) (hr : madeBy o d = r) : evE Φ (.op o [a]) ms = some (r, ms1) := by
  rw [← hr]
  exact ee_op1 n h1 f1 h
theorem ee_op2r {o : Op} {a b : IE} {m m' r : MV} {d1 d2 d : PyData} (n : isPk a = false) (n' : isPk b = false) (h1 : evE Φ a ms = some (m, ms1)) (h2 : evE Φ b ms1 = some (m', ms2)) (f1 : m.frz = some d1) (f2 : m'.frz = some d2) (h : opSem o [d1, d2] = some d) (hr : madeBy o d = r) : evE Φ (.op o [a, b]) ms = some (r, ms2) := by
  rw [← hr]
  exact ee_op2 n n' h1 h2 f1 f2 h
theorem es_seq {e : IE} {m : MV} {d : PyData} {ds : List PyData} (h : evE Φ e ms = some (m, ms1)) (f : m.frz = some d) (s : seqOf d = some ds) : evI Φ (.seq e) ms = some (ds, ms1) := by
  rw [evI, h, Option.bind_some]
  show (m.frz.bind fun d => (seqOf d).map fun ds => (ds, ms1)) = _
  rw [f, Option.bind_some, s]
  rfl
theorem es_rng1 {e : IE} {i : Int} (h : evE Φ e ms = some (.val (.int i), ms1)) (h0 : -1000000 ≤ i ∧ i ≤ 1000000) : evI Φ (.rng1 e) ms = some (rangeD 0 i, ms1) := by
  rw [evI, h, Option.bind_some]
  have r1 : rng1Of (.val (.int i)) = some (rangeD 0 i) := by
    unfold rng1Of
    exact if_pos ⟨by unfold lim; exact h0.1, by unfold lim; exact h0.2⟩
  show ((rng1Of (.val (.int i))).map fun ds => (ds, ms1)) = _
  rw [r1]; rfl
theorem es_rng2 {a b : IE} {i j : Int} (h : evE Φ a ms = some (.val (.int i), ms1)) (h' : evE Φ b ms1 = some (.val (.int j), ms2)) (h0 : -1000000 ≤ i ∧ i ≤ 1000000) (h1 : -1000000 ≤ j ∧ j ≤ 1000000) : evI Φ (.rng2 a b) ms = some (rangeD i j, ms2) := by
  rw [evI, h, Option.bind_some]
  dsimp only
  rw [h', Option.bind_some]
  have r1 : rng2Of (.val (.int i)) (.val (.int j)) = some (rangeD i j) := by
    unfold rng2Of
    exact if_pos ⟨by unfold lim; exact h0.1, by unfold lim; exact h0.2, by unfold lim; exact h1.1, by unfold lim; exact h1.2⟩
  show ((rng2Of (.val (.int i)) (.val (.int j))).map fun ds => (ds, ms2)) = _
  rw [r1]; rfl
end
end Rx
/-! rows of whole numbers as data; what the kernel checks of a call; more steps. -/
namespace Rx
open PySem
/-! ### data that the kernel compares -/
mutual
def deq : PyData → PyData → Bool
  | .int i, .int j => decide (i = j)
  | .tuple xs, .tuple ys => deqs xs ys
  | .list xs, .list ys => deqs xs ys
  | .none, .none => true
  | .bool a, .bool b => a == b
  | _, _ => false
def deqs : List PyData → List PyData → Bool
  | [], [] => true
  | x :: xs, y :: ys => deq x y && deqs xs ys
  | _, _ => false
end
mutual
theorem deq_eq : ∀ (a b : PyData), deq a b = true → a = b
  | .int i, .int j, h => by unfold deq at h; rw [of_decide_eq_true h]
  | .tuple xs, .tuple ys, h => by unfold deq at h; rw [deqs_eq xs ys h]
  | .list xs, .list ys, h => by unfold deq at h; rw [deqs_eq xs ys h]
  | .none, .none, _ => rfl
  | .bool a, .bool b, h => by unfold deq at h; rw [eq_of_beq h]
  | .str _, b, h => by unfold deq at h; cases h
  | .dict _, b, h => by unfold deq at h; cases h
  | .none, .bool _, h | .none, .int _, h | .none, .str _, h | .none, .list _, h | .none, .tuple _, h | .none, .dict _, h => by unfold deq at h; cases h
  | .bool _, .none, h | .bool _, .int _, h | .bool _, .str _, h | .bool _, .list _, h | .bool _, .tuple _, h | .bool _, .dict _, h => by unfold deq at h; cases h
  | .int _, .none, h | .int _, .bool _, h | .int _, .str _, h | .int _, .list _, h | .int _, .tuple _, h | .int _, .dict _, h => by unfold deq at h; cases h
  | .tuple _, .none, h | .tuple _, .bool _, h | .tuple _, .str _, h | .tuple _, .list _, h | .tuple _, .int _, h | .tuple _, .dict _, h => by unfold deq at h; cases h
  | .list _, .none, h | .list _, .bool _, h | .list _, .str _, h | .list _, .tuple _, h | .list _, .int _, h | .list _, .dict _, h => by unfold deq at h; cases h
theorem deqs_eq : ∀ (a b : List PyData), deqs a b = true → a = b
  | [], [], _ => rfl
  | x :: xs, y :: ys, h => by
    unfold deqs at h
    rw [Bool.and_eq_true] at h
    rw [deq_eq x y h.1, deqs_eq xs ys h.2]
  | [], _ :: _, h => by unfold deqs at h; cases h
  | _ :: _, [], h => by unfold deqs at h; cases h
end
/-- a call hands nothing back -/
def bare (n : Nat) (bk : List (Option MV)) : Bool := decide (bk.length = n) && bk.all fun m => match m with | none => true | some _ => false
theorem bare_eq {n : Nat} {bk : List (Option MV)} (h : bare n bk = true) : bk = List.replicate n none := by
  unfold bare at h
  simp only [Bool.and_eq_true, decide_eq_true_eq] at h
  obtain ⟨h2, h3⟩ := h
  refine List.eq_replicate_iff.mpr ⟨h2, fun b hb => ?_⟩
  have z := List.all_eq_true.mp h3 b hb
  split at z
  · rfl
  · cases z
/-- what a call of a def gives that hands nothing back -/
def gives (o : Option (MV × List (Option MV))) (n : Nat) (d : PyData) : Bool := match o with
  | some (.val e, bk) => deq e d && bare n bk
  | _ => false
theorem gives_eq {o : Option (MV × List (Option MV))} {n : Nat} {d : PyData} (h : gives o n d = true) : o = some (.val d, List.replicate n none) := by
  unfold gives at h
  split at h
  · rename_i e bk
    rw [Bool.and_eq_true] at h
    rw [deq_eq _ _ h.1, bare_eq h.2]
  · cases h
/-! ### rows of whole numbers -/
def dl (xs : List Nat) : List PyData := xs.map fun (n : Nat) => .int n
abbrev nv (n : Nat) : MV := iv n
abbrev tD (xs : List Nat) : PyData := .tuple (dl xs)
theorem dl_length (xs : List Nat) : (dl xs).length = xs.length := by unfold dl; rw [List.length_map]
theorem lay_dl : ∀ S : List Nat, PyData.canLayAll0 (dl S) = true
  | [] => by unfold dl; simp [PyData.canLayAll0]
  | x :: S => by
    have ih := lay_dl S
    show PyData.canLayAll0 (.int (x : Nat) :: dl S) = true
    simp [PyData.canLayAll0, PyData.canLay0, ih]
theorem depth_dl : ∀ S : List Nat, PyData.depthAll (dl S) = 0
  | [] => by unfold dl; simp [PyData.depthAll]
  | x :: S => by
    have ih := depth_dl S
    show PyData.depthAll (.int (x : Nat) :: dl S) = 0
    simp [PyData.depthAll, PyData.depth, ih]
theorem sh_tup (S : List Nat) : SeqAt.shaped (.tuple (dl S)) = true := by
  simp [SeqAt.shaped, PyData.canLay0, PyData.depth, lay_dl, depth_dl]
theorem sh_lst (S : List Nat) : SeqAt.shaped (.list (dl S)) = true := by
  simp [SeqAt.shaped, PyData.canLay0, PyData.depth, lay_dl, depth_dl]
theorem sh_int (n : Int) : SeqAt.shaped (.int n) = true := by
  simp [SeqAt.shaped, PyData.canLay0, PyData.depth]
theorem eqv_int (a b : Nat) : PyData.eqv (.int (a : Nat)) (.int (b : Nat)) = decide (a = b) := by
  have z : PyData.eqv (.int (a : Nat)) (.int (b : Nat)) = ((a : Int) == (b : Int)) := by simp [PyData.eqv]
  rw [z, Bool.eq_iff_iff, beq_iff_eq, decide_eq_true_iff]
  omega
theorem any_dl (q : Nat) : ∀ S : List Nat, ((dl S).any fun z => PyData.eqv z (.int (q : Nat))) = S.contains q
  | [] => rfl
  | x :: S => by
    have ih := any_dl q S
    show (PyData.eqv (.int (x : Nat)) (.int (q : Nat)) || (dl S).any fun z => PyData.eqv z (.int (q : Nat))) = _
    rw [ih, eqv_int]
    have e : decide (x = q) = (q == x) := by rw [Bool.eq_iff_iff, beq_iff_eq, decide_eq_true_iff]; omega
    rw [e]
    rfl
theorem eqvs_dl : ∀ (xs ys : List Nat), PyData.eqvAll (dl xs) (dl ys) = decide (xs = ys)
  | [], [] => rfl
  | [], _ :: _ => rfl
  | _ :: _, [] => rfl
  | x :: xs, y :: ys => by
    show (PyData.eqv (.int (x : Nat)) (.int (y : Nat)) && PyData.eqvAll (dl xs) (dl ys)) = _
    rw [eqvs_dl xs ys, eqv_int, Bool.eq_iff_iff]
    simp
theorem inn_tup (q : Nat) (S : List Nat) : s_inn [.int (q : Nat), .tuple (dl S)] = some (.bool (S.contains q)) := by
  refine Eq.trans (if_pos (by rw [sh_int, sh_tup]; rfl)) ?_
  rw [any_dl]
theorem inn_lst (q : Nat) (S : List Nat) : s_inn [.int (q : Nat), .list (dl S)] = some (.bool (S.contains q)) := by
  refine Eq.trans (if_pos (by rw [sh_int, sh_lst]; rfl)) ?_
  rw [any_dl]
theorem nin_tup (q : Nat) (S : List Nat) : s_nin [.int (q : Nat), .tuple (dl S)] = some (.bool (!S.contains q)) := by
  refine Eq.trans (if_pos (by rw [sh_int, sh_tup]; rfl)) ?_
  rw [any_dl]
theorem nin_lst (q : Nat) (S : List Nat) : s_nin [.int (q : Nat), .list (dl S)] = some (.bool (!S.contains q)) := by
  refine Eq.trans (if_pos (by rw [sh_int, sh_lst]; rfl)) ?_
  rw [any_dl]
theorem eq_int (a b : Nat) : s_eq [.int (a : Nat), .int (b : Nat)] = some (.bool (decide (a = b))) := by
  simp [s_eq, eqD, sh_int, eqv_int]
theorem ne_int (a b : Nat) : s_ne [.int (a : Nat), .int (b : Nat)] = some (.bool (!decide (a = b))) := by
  simp [s_ne, eqD, sh_int, eqv_int]
theorem eq_tups (xs ys : List Nat) : s_eq [.tuple (dl xs), .tuple (dl ys)] = some (.bool (decide (xs = ys))) := by
  have z : PyData.eqv (.tuple (dl xs)) (.tuple (dl ys)) = PyData.eqvAll (dl xs) (dl ys) := by simp [PyData.eqv]
  simp [s_eq, eqD, sh_tup, z, eqvs_dl]
theorem ne_tups (xs ys : List Nat) : s_ne [.tuple (dl xs), .tuple (dl ys)] = some (.bool (!decide (xs = ys))) := by
  have z : PyData.eqv (.tuple (dl xs)) (.tuple (dl ys)) = PyData.eqvAll (dl xs) (dl ys) := by simp [PyData.eqv]
  simp [s_ne, eqD, sh_tup, z, eqvs_dl]
theorem eq_lsts (xs ys : List Nat) : s_eq [.list (dl xs), .list (dl ys)] = some (.bool (decide (xs = ys))) := by
  have z : PyData.eqv (.list (dl xs)) (.list (dl ys)) = PyData.eqvAll (dl xs) (dl ys) := by simp [PyData.eqv]
  simp [s_eq, eqD, sh_lst, z, eqvs_dl]
theorem ne_lsts (xs ys : List Nat) : s_ne [.list (dl xs), .list (dl ys)] = some (.bool (!decide (xs = ys))) := by
  have z : PyData.eqv (.list (dl xs)) (.list (dl ys)) = PyData.eqvAll (dl xs) (dl ys) := by simp [PyData.eqv]
  simp [s_ne, eqD, sh_lst, z, eqvs_dl]
/-! ### steps -/
section
variable {Φ : Funs} {ms ms1 ms2 : MEnv} {r : List IS}
theorem ss_append {i : Nat} {e : IE} {m : MV} {d : PyData} {ds0 ds : List PyData} (h0 : ms[i]?.join = some (.ls ds0)) (h1 : evE Φ e ms = some (m, ms1)) (f : m.frz = some d) (h2 : ms1[i]?.join = some (.ls ds)) (hl : ds.length < 1000000) : evSs Φ (.append i e :: r) ms = evSs Φ r (ms1.set i (some (.ls (ds ++ [d])))) := by
  have e1 : evS Φ (.append i e) ms = some (.nx (ms1.set i (some (.ls (ds ++ [d]))))) := by
    unfold evS lsAt
    rw [h0]
    dsimp only
    rw [Option.bind_some, h1, Option.bind_some]
    dsimp only
    rw [f, Option.bind_some]
    unfold Rx.chg
    rw [h2, Option.bind_some]
    show ((if ds.length < lim then some (MV.ls (ds ++ [d])) else none).map fun o' => ms1.set i (some o')).map Out.nx = _
    rw [if_pos (show ds.length < lim from hl)]
    rfl
  rw [evSs, e1]
  rfl
theorem ss_extend {i : Nat} {e : IE} {m : MV} {d : PyData} {ds0 ds es : List PyData} (h0 : ms[i]?.join = some (.ls ds0)) (h1 : evE Φ e ms = some (m, ms1)) (f : m.frz = some d) (sq : seqOf d = some es) (h2 : ms1[i]?.join = some (.ls ds)) (hl : ds.length + es.length < 1000000) : evSs Φ (.extend i e :: r) ms = evSs Φ r (ms1.set i (some (.ls (ds ++ es)))) := by
  have e1 : evS Φ (.extend i e) ms = some (.nx (ms1.set i (some (.ls (ds ++ es))))) := by
    unfold evS lsAt
    rw [h0]
    dsimp only
    rw [Option.bind_some, h1, Option.bind_some]
    dsimp only
    rw [f, Option.bind_some, sq, Option.bind_some]
    unfold Rx.chg
    rw [h2, Option.bind_some]
    show ((if ds.length + es.length < lim then some (MV.ls (ds ++ es)) else none).map fun o' => ms1.set i (some o')).map Out.nx = _
    rw [if_pos (show ds.length + es.length < lim from hl)]
    rfl
  rw [evSs, e1]
  rfl
/-- a tuple of whole numbers read back -/
def un : PyData → List Nat
  | .tuple ds => ds.map fun d => match d with | .int i => i.toNat | _ => 0
  | _ => []
theorem un_tD (xs : List Nat) : un (tD xs) = xs := by
  show (dl xs).map _ = xs
  unfold dl
  rw [List.map_map]
  exact (List.map_congr_left fun x _ => Int.toNat_natCast x).trans (List.map_id' _)
theorem ee_otup {as : List IE} {vs : List MV} (h1 : evEs Φ as ms = some (vs, ms1)) (hl : vs.length ≤ 1000000 := by decide) : evE Φ (.otup as) ms = some (.tup vs, ms1) := by
  rw [evE, h1, Option.bind_some]
  exact if_pos hl
/-- a slot that a comprehension's own name may take -/
def idl (v : Option MV) : Prop := v = none ∨ ∃ d, v = some (.val d)
theorem ee_pk {i : Nat} {m : MV} (h : ms[i]?.join = some m) : evE Φ (.pk i) ms = some (.val .none, ms) := by
  rw [evE, h]; rfl
theorem ee_frz {i : Nat} {m : MV} {d : PyData} (h : ms[i]?.join = some m) (f : m.frz = some d) : evE Φ (.frz i) ms = some (.val d, ms.set i (some (.val d))) := by
  rw [evE, h, Option.bind_some, f]; rfl
/-- an operation on a list at a glance -/
theorem ee_opk {o : Op} {i : Nat} {m : MV} {d1 d : PyData} {r : MV} (h : ms[i]?.join = some m) (p : m.pk = some d1) (s : opSem o [d1] = some d) (hr : madeBy o d = r) : evE Φ (.op o [.pk i]) ms = some (r, ms) := by
  rw [← hr]
  refine ee_op (evEs_cons (ee_pk h) evEs_nil) ?_ s
  unfold seen
  rw [h, Option.bind_some, p]
  unfold seen
  rfl
/-- `repr(a) != repr(b)` of the same shown data -/
theorem ee_repk {a b : IE} {m m' : MV} {d : PyData} (s : showOk d = true) (na : isPk a = false) (nb : isPk b = false) (h1 : evE Φ a ms = some (m, ms1)) (h2 : evE Φ b ms1 = some (m', ms2)) (f1 : m.frz = some d) (f2 : m'.frz = some d) : evE Φ (.op .ne [.op .repr [a], .op .repr [b]]) ms = some (.val (.bool false), ms2) := by
  have r : s_repr [d] = some (.str (PyData.shown d)) := if_pos s
  have e1 : evE Φ (.op .repr [a]) ms = some (.val (.str (PyData.shown d)), ms1) := ee_op1 (o := .repr) na h1 f1 r
  have e2 : evE Φ (.op .repr [b]) ms1 = some (.val (.str (PyData.shown d)), ms2) := ee_op1 (o := .repr) nb h2 f2 r
  exact ee_op2 (o := .ne) rfl rfl e1 e2 rfl rfl (ne_strs _)
end
end Rx
/-! lists drawn empty in a mixed order; partners swapped into a list. -/
namespace Rx
open PySem
/-! plain: a list drawn empty in a mixed order. -/
def tMix (p : Nat) : IE := (.popi 2 (.call p [(.mov 0), (.op .len [.pk 2])]))
def fMix (p : Nat) : FD := ⟨2, 4, [0], [.asg true (.n 2) (.op .toLst [(.var 1)]), .ret false (.comp false [3] (.n 3) (.rng1 (.op .len [.pk 2])) none (tMix p))]⟩
def MixOk (Φ : Funs) (i : Nat) : Prop := ∀ s, IsSrc s → ∀ ds : List PyData, ds.length < 1000 → ∃ (s' : MV) (es : List PyData), IsSrc s' ∧ es.Perm ds ∧ Φ i [s, .val (.list ds)] = some (.val (.list es), [some s', none])
theorem ixN_at {n : Nat} {v : Int} (h0 : 0 ≤ v) (h1 : v < n) : idxOf n (.int v) = some v.toNat := by
  unfold idxOf L2.ixN
  simp [h0, h1]
theorem mix_elt {Φ : Funs} {p : Nat} (hp : PickOk Φ p) (s : MV) (hs : IsSrc s) (th : Option MV) (d : PyData) (rest : List PyData) (hr : rest ≠ []) (hl : rest.length < 1000) :
    ∃ s' v, IsSrc s' ∧ ∃ h : v < rest.length, evE Φ (tMix p) [some s, th, some (.ls rest), some (.val d)] = some (.val rest[v], [some s', th, some (.ls (rest.eraseIdx v)), some (.val d)]) := by
  obtain ⟨v, s', h1, h2, h3⟩ := hp s hs rest.length (by omega)
  have hpos : 0 < rest.length := List.length_pos_iff.mpr hr
  obtain ⟨v0, v1⟩ := h2 (by omega)
  have hv : v.toNat < rest.length := by omega
  refine ⟨s', v.toNat, h1, hv, ?_⟩
  have e1 : evE Φ (.call p [(.mov 0), (.op .len [.pk 2])]) [some s, th, some (.ls rest), some (.val d)] = some (iv v, [some s', th, some (.ls rest), some (.val d)]) := by
    simp [runF, evSs, evS, evE, evEs, evAs, evC, evI, evT, evTs, seen, opSem, s_add, s_sub, madeBy, Op.fresh, ownT, ownV, ownL, MV.frz, frzAll, isB, setS, argV, argM, backArgs, lim, s_len, MV.pk, h3]
  have e2 : rest[v.toNat]? = some rest[v.toNat] := List.getElem?_eq_getElem hv
  have e3 : rest.length < lim := by unfold lim; omega
  unfold tMix
  rw [evE]
  simp [lsAt, e1, popAt, MV.frz, ixN_at v0 v1, e2, e3]
theorem perm_at (xs : List PyData) : ∀ (v : Nat) (h : v < xs.length), (xs[v] :: xs.eraseIdx v).Perm xs := by
  induction xs with
  | nil => intro v h; simp at h
  | cons x xs ih =>
    intro v h
    cases v with
    | zero => simp
    | succ v =>
      have h' : v < xs.length := by simpa using h
      refine List.Perm.trans (List.Perm.swap x (xs[v]) (xs.eraseIdx v)) ?_
      exact List.Perm.cons x (ih v h')
theorem mix_loop {Φ : Funs} {p : Nat} (hp : PickOk Φ p) (th : Option MV) : ∀ (D : List PyData) (rest : List PyData) (s : MV) (acc : List MV), IsSrc s → D.length = rest.length → rest.length < 1000 → acc.length + D.length < 2000 →
    ∃ (es : List PyData) (s' : MV), IsSrc s' ∧ es.Perm rest ∧ compL (NT.n 3).put (fun ms => evC Φ none ms) (fun ms => evE Φ (tMix p) ms) [3] D [some s, th, some (.ls rest), none] acc = some (acc ++ es.map .val, [some s', th, some (.ls []), none])
  | [], rest, s, acc, hs, hD, _, _ => by
    have : rest = [] := List.eq_nil_of_length_eq_zero hD.symm
    subst this
    exact ⟨[], s, hs, .nil, by unfold compL; simp⟩
  | d :: D, rest, s, acc, hs, hD, hl, ha => by
    have hr : rest ≠ [] := fun z => by rw [z] at hD; simp at hD
    obtain ⟨s', v, h1, hv, h2⟩ := mix_elt hp s hs th d rest hr hl
    have hlen : (rest.eraseIdx v).length = rest.length - 1 := by rw [List.length_eraseIdx]; simp [hv]
    rw [List.length_cons] at hD ha
    obtain ⟨es, s2, k1, k2, k3⟩ := mix_loop hp th D (rest.eraseIdx v) s' (acc ++ [.val rest[v]]) h1 (by omega) (by omega) (by rw [List.length_append, List.length_singleton]; omega)
    refine ⟨rest[v] :: es, s2, k1, List.Perm.trans (List.Perm.cons _ k2) (perm_at rest v hv), ?_⟩
    unfold compL
    have e1 : (NT.n 3).put d [some s, th, some (.ls rest), none] = some [some s, th, some (.ls rest), some (.val d)] := rfl
    have e2 : evC Φ none [some s, th, some (.ls rest), some (.val d)] = some (true, [some s, th, some (.ls rest), some (.val d)]) := by simp [evC]
    rw [e1, Option.bind_some, e2, Option.bind_some]
    simp only [if_true]
    rw [h2, Option.bind_some]
    have e3 : acc.length < lim := by unfold lim; omega
    simp only [if_pos e3]
    have e4 : wipeM [some s', th, some (.ls (rest.eraseIdx v)), some (.val d)] [3] = [some s', th, some (.ls (rest.eraseIdx v)), none] := rfl
    rw [e4, k3, List.append_assoc]
    rfl
theorem mixOk {Φ Ψ : Funs} {i p : Nat} (hp : PickOk Φ p) (h : ∀ as, Ψ i as = runF Φ (fMix p) as) : MixOk Ψ i := by
  intro s hs ds hl
  have hD : (rangeD 0 (ds.length : Nat)).length = ds.length := by unfold rangeD; simp
  obtain ⟨es, s', k1, k2, k3⟩ := mix_loop hp (some (.val (.list ds))) (rangeD 0 (ds.length : Nat)) ds s [] hs hD hl (by rw [hD]; simp; omega)
  refine ⟨s', es, k1, k2, ?_⟩
  rw [h]
  have e0 : evE Φ (.op .toLst [(.var 1)]) [some s, some (.val (.list ds)), none, none] = some (.ls ds, [some s, some (.val (.list ds)), none, none]) := by
    simp [runF, evSs, evS, evE, evEs, evAs, evC, evI, evT, evTs, seen, opSem, s_add, s_sub, madeBy, Op.fresh, ownT, ownV, ownL, MV.frz, frzAll, isB, setS, argV, argM, backArgs, lim, s_toLst]
  have r1 : rng1Of (iv (ds.length : Nat)) = some (rangeD 0 (ds.length : Nat)) := by
    unfold rng1Of
    exact if_pos ⟨by unfold lim; omega, by unfold lim; omega⟩
  have e1 : evE Φ (.comp false [3] (.n 3) (.rng1 (.op .len [.pk 2])) none (tMix p)) [some s, some (.val (.list ds)), some (.ls ds), none] = some (.ls es, [some s', some (.val (.list ds)), some (.ls []), none]) := by
    refine ee_comp (ds := rangeD 0 (ds.length : Nat)) (ms1 := [some s, some (.val (.list ds)), some (.ls ds), none]) ?_ rfl k3 ?_
    · simp [runF, evSs, evS, evE, evEs, evAs, evC, evI, evT, evTs, seen, opSem, s_add, s_sub, madeBy, Op.fresh, ownT, ownV, ownL, MV.frz, frzAll, isB, setS, argV, argM, backArgs, lim, s_len, MV.pk, r1]
    · exact frzAll_vals es
  refine run_ret (Φ := Φ) (m := .val (.list es)) (ms := [some s', some (.val (.list ds)), some (.ls []), none]) rfl ?_
  unfold fMix
  refine Eq.trans (ss_set e0 rfl) ?_
  exact ss_ret e1 rfl

def lSw : List IS := [.asg false (.tp [(.sub 3 (.op .ix [(.var 2), (.op .mul [(.cst (.int 2)), (.var 4)])])), (.sub 3 (.op .ix [(.var 2), (.op .add [(.op .mul [(.cst (.int 2)), (.var 4)]), (.cst (.int 1))])]))]) (.tup [(.op .ix [(.var 2), (.op .add [(.op .mul [(.cst (.int 2)), (.var 4)]), (.cst (.int 1))])]), (.op .ix [(.var 2), (.op .mul [(.cst (.int 2)), (.var 4)])])])]
/-! k39, plain: the pairing that the law draws. -/
theorem atI_nat {α : Type} {xs : List α} {n : Nat} {d : α} (h : xs[n]? = some d) : L2.atI xs (n : Int) = some d := by
  unfold L2.atI
  have hn : n < xs.length := (List.getElem?_eq_some_iff.mp h).1
  simp [L2.ixN, hn, (List.getElem?_eq_some_iff.mp h).2]
theorem dlAt {xs : List Nat} {n a : Nat} (h : xs[n]? = some a) : (dl xs)[n]? = some (.int a) := by
  unfold dl
  rw [List.getElem?_map, h]
  rfl
theorem ix_dl {xs : List Nat} {n a : Nat} {j : Int} (h : xs[n]? = some a) (e : j = (n : Int)) : s_ix [.list (dl xs), .int j] = some (.int a) := by
  subst e
  exact atI_nat (dlAt h)
theorem st_dl {F : List Nat} {a b : Nat} (h : a < F.length) : storeOf (.int (a : Nat)) (iv (b : Nat)) (.ls (dl F)) = some (.ls (dl (F.set a b))) := by
  have e : idxOf (dl F).length (.int (a : Nat)) = some a := by
    have z := ixN_at (n := (dl F).length) (v := (a : Int)) (by omega) (by unfold dl; simpa using h)
    simpa using z
  show (idxOf (dl F).length (.int (a : Nat))).map _ = _
  rw [e]
  simp [dl, List.map_set]
theorem step_ev (Φ : Funs) (s : Option MV) (kk : Option MV) (names F : List Nat) (i a b : Nat) (h1 : names[2 * i]? = some a) (h2 : names[2 * i + 1]? = some b) (ha : a < F.length) (hb : b < F.length) :
    evSs Φ lSw [s, kk, some (.val (.list (dl names))), some (.ls (dl F)), some (iv (i : Nat))] = some (.nx [s, kk, some (.val (.list (dl names))), some (.ls (dl ((F.set a b).set b a))), some (iv (i : Nat))]) := by
  have m1 : s_mul [.int 2, .int (i : Nat)] = some (.int (2 * (i : Nat))) := mulL _ _ (by decide)
  have x1 : s_ix [.list (dl names), .int (2 * (i : Nat))] = some (.int (a : Nat)) := ix_dl h1 (by omega)
  have x2 : s_ix [.list (dl names), .int (2 * (i : Nat) + 1)] = some (.int (b : Nat)) := ix_dl h2 (by omega)
  have s1 := st_dl (F := F) (a := a) (b := b) ha
  have s2 := st_dl (F := F.set a b) (a := b) (b := a) (by rw [List.length_set]; exact hb)
  have v2 : ∀ F : List Nat, evE Φ (.var 2) [s, kk, some (.val (.list (dl names))), some (.ls (dl F)), some (iv (i : Nat))] = some (.val (.list (dl names)), [s, kk, some (.val (.list (dl names))), some (.ls (dl F)), some (iv (i : Nat))]) := fun F => by rw [evE]; rfl
  have v4 : ∀ F : List Nat, evE Φ (.var 4) [s, kk, some (.val (.list (dl names))), some (.ls (dl F)), some (iv (i : Nat))] = some (iv (i : Nat), [s, kk, some (.val (.list (dl names))), some (.ls (dl F)), some (iv (i : Nat))]) := fun F => by rw [evE]; rfl
  have cc : ∀ (n : Int) (F : List Nat), evE Φ (.cst (.int n)) [s, kk, some (.val (.list (dl names))), some (.ls (dl F)), some (iv (i : Nat))] = some (iv n, [s, kk, some (.val (.list (dl names))), some (.ls (dl F)), some (iv (i : Nat))]) := fun n F => by rw [evE]
  have mm : ∀ F : List Nat, evE Φ (.op .mul [(.cst (.int 2)), (.var 4)]) [s, kk, some (.val (.list (dl names))), some (.ls (dl F)), some (iv (i : Nat))] = some (iv (2 * (i : Nat)), [s, kk, some (.val (.list (dl names))), some (.ls (dl F)), some (iv (i : Nat))]) := fun F => ee_op2r rfl rfl (cc 2 F) (v4 F) rfl rfl m1 rfl
  have aa : ∀ F : List Nat, evE Φ (.op .add [(.op .mul [(.cst (.int 2)), (.var 4)]), (.cst (.int 1))]) [s, kk, some (.val (.list (dl names))), some (.ls (dl F)), some (iv (i : Nat))] = some (iv (2 * (i : Nat) + 1), [s, kk, some (.val (.list (dl names))), some (.ls (dl F)), some (iv (i : Nat))]) := fun F => ee_op2r (d := .int (2 * (i : Nat) + 1)) rfl rfl (mm F) (cc 1 F) rfl rfl rfl rfl
  have i1 : ∀ F : List Nat, evE Φ (.op .ix [(.var 2), (.op .mul [(.cst (.int 2)), (.var 4)])]) [s, kk, some (.val (.list (dl names))), some (.ls (dl F)), some (iv (i : Nat))] = some (iv (a : Nat), [s, kk, some (.val (.list (dl names))), some (.ls (dl F)), some (iv (i : Nat))]) := fun F => ee_op2r rfl rfl (v2 F) (mm F) rfl rfl x1 rfl
  have i2 : ∀ F : List Nat, evE Φ (.op .ix [(.var 2), (.op .add [(.op .mul [(.cst (.int 2)), (.var 4)]), (.cst (.int 1))])]) [s, kk, some (.val (.list (dl names))), some (.ls (dl F)), some (iv (i : Nat))] = some (iv (b : Nat), [s, kk, some (.val (.list (dl names))), some (.ls (dl F)), some (iv (i : Nat))]) := fun F => ee_op2r rfl rfl (v2 F) (aa F) rfl rfl x2 rfl
  have tt : evE Φ (.tup [(.op .ix [(.var 2), (.op .add [(.op .mul [(.cst (.int 2)), (.var 4)]), (.cst (.int 1))])]), (.op .ix [(.var 2), (.op .mul [(.cst (.int 2)), (.var 4)])])]) [s, kk, some (.val (.list (dl names))), some (.ls (dl F)), some (iv (i : Nat))] = some (.val (.tuple [.int (b : Nat), .int (a : Nat)]), [s, kk, some (.val (.list (dl names))), some (.ls (dl F)), some (iv (i : Nat))]) := by
    rw [evE, evEs, i2 F]
    show ((evEs Φ [_] _).map _).bind _ = _
    rw [evEs, i1 F]
    rfl
  unfold lSw
  refine Eq.trans (ss_asg tt rfl ?h3) ss_nil
  case h3 =>
    have g1 : evT Φ (.sub 3 (.op .ix [(.var 2), (.op .mul [(.cst (.int 2)), (.var 4)])])) (iv (b : Nat)) [s, kk, some (.val (.list (dl names))), some (.ls (dl F)), some (iv (i : Nat))] = some [s, kk, some (.val (.list (dl names))), some (.ls (dl (F.set a b))), some (iv (i : Nat))] := by
      rw [evT, i1 F]
      refine Eq.trans (b := (storeOf (.int (a : Nat)) (iv (b : Nat)) (.ls (dl F))).map fun m' => [s, kk, some (.val (.list (dl names))), some m', some (iv (i : Nat))]) rfl ?_
      rw [s1]
      rfl
    have g2 : evT Φ (.sub 3 (.op .ix [(.var 2), (.op .add [(.op .mul [(.cst (.int 2)), (.var 4)]), (.cst (.int 1))])])) (iv (a : Nat)) [s, kk, some (.val (.list (dl names))), some (.ls (dl (F.set a b))), some (iv (i : Nat))] = some [s, kk, some (.val (.list (dl names))), some (.ls (dl ((F.set a b).set b a))), some (iv (i : Nat))] := by
      rw [evT, i2 (F.set a b)]
      refine Eq.trans (b := (storeOf (.int (b : Nat)) (iv (a : Nat)) (.ls (dl (F.set a b)))).map fun m' => [s, kk, some (.val (.list (dl names))), some m', some (iv (i : Nat))]) rfl ?_
      rw [s2]
      rfl
    show evTs Φ [_, _] [iv (b : Nat), iv (a : Nat)] _ = _
    rw [evTs, g1, Option.bind_some, evTs, g2, Option.bind_some, evTs]

/-! k39, plain: what the swaps leave. -/
/-- F after the laps 0 .. j - 1 -/
inductive Sw (names : List Nat) : Nat → List Nat → List Nat → Prop
  | nil (F : List Nat) : Sw names 0 F F
  | step {j : Nat} {F G : List Nat} {a b : Nat} : Sw names j F G → names[2 * j]? = some a → names[2 * j + 1]? = some b → Sw names (j + 1) F ((G.set a b).set b a)
theorem sw_len {names : List Nat} {j : Nat} {F G : List Nat} (h : Sw names j F G) : G.length = F.length := by
  induction h with
  | nil => rfl
  | step _ _ _ ih => rw [List.length_set, List.length_set, ih]
theorem nd_ne {xs : List Nat} (nd : xs.Nodup) {i j a b : Nat} (h1 : xs[i]? = some a) (h2 : xs[j]? = some b) (ne : i ≠ j) : a ≠ b := by
  obtain ⟨l1, e1⟩ := List.getElem?_eq_some_iff.mp h1
  obtain ⟨l2, e2⟩ := List.getElem?_eq_some_iff.mp h2
  intro z
  rcases Nat.lt_or_gt_of_ne ne with q | q
  · exact List.pairwise_iff_getElem.mp nd i j l1 l2 q (by rw [e1, e2, z])
  · exact List.pairwise_iff_getElem.mp nd j i l2 l1 q (by rw [e1, e2, z])
theorem sw_ok {names : List Nat} (nd : names.Nodup) {F : List Nat} (hF : ∀ p ∈ names, p < F.length) {j : Nat} {G : List Nat} (h : Sw names j F G) :
    ∀ i a b, i < j → names[2 * i]? = some a → names[2 * i + 1]? = some b → G[a]? = some b ∧ G[b]? = some a := by
  induction h with
  | nil => intro i a b hi; omega
  | @step j F G a' b' h h1 h2 ih =>
    intro i a b hi q1 q2
    have hl := sw_len h
    have la : a < G.length := by rw [hl]; exact hF a (List.mem_of_getElem? q1)
    have lb : b < G.length := by rw [hl]; exact hF b (List.mem_of_getElem? q2)
    by_cases e : i = j
    · subst e
      rw [h1] at q1; cases q1
      rw [h2] at q2; cases q2
      have ne := nd_ne nd h1 h2 (by omega)
      refine ⟨?_, ?_⟩
      · rw [List.getElem?_set_ne (Ne.symm ne), List.getElem?_set_self la]
      · rw [List.getElem?_set_self (by rw [List.length_set]; exact lb)]
    · obtain ⟨r1, r2⟩ := ih hF i a b (by omega) q1 q2
      have n1 := nd_ne nd h1 q1 (by omega)
      have n2 := nd_ne nd h1 q2 (by omega)
      have n3 := nd_ne nd h2 q1 (by omega)
      have n4 := nd_ne nd h2 q2 (by omega)
      refine ⟨?_, ?_⟩
      · rw [List.getElem?_set_ne n3, List.getElem?_set_ne n1]; exact r1
      · rw [List.getElem?_set_ne n4, List.getElem?_set_ne n2]; exact r2
/-- a list of places is a pairing of 2k places -/
def Pairs (N : Nat) (P : List Nat) : Prop := P.length = N ∧ ∀ p, p < N → ∃ q, q < N ∧ P[p]? = some q ∧ P[q]? = some p ∧ q ≠ p
theorem sw_pairs {k : Nat} {names : List Nat} (pm : names.Perm (List.range (2 * k))) {F G : List Nat} (hF : F.length = 2 * k) (h : Sw names k F G) : Pairs (2 * k) G := by
  have nd : names.Nodup := pm.nodup_iff.mpr List.nodup_range
  have hl : names.length = 2 * k := by rw [pm.length_eq, List.length_range]
  have lt : ∀ p ∈ names, p < 2 * k := fun p hp => List.mem_range.mp (pm.mem_iff.mp hp)
  have key := sw_ok nd (F := F) (fun p hp => by rw [hF]; exact lt p hp) h
  refine ⟨by rw [sw_len h, hF], fun p hp => ?_⟩
  have hm : p ∈ names := pm.mem_iff.mpr (List.mem_range.mpr hp)
  obtain ⟨t, ht, e⟩ := List.getElem_of_mem hm
  have et : names[t]? = some p := by rw [List.getElem?_eq_getElem ht, e]
  by_cases h2 : t % 2 = 0
  · have e2 : t = 2 * (t / 2) := by omega
    have hb : 2 * (t / 2) + 1 < names.length := by omega
    have q1 : names[2 * (t / 2)]? = some p := by rw [← e2]; exact et
    have q2 := List.getElem?_eq_getElem hb
    obtain ⟨r1, r2⟩ := key (t / 2) _ _ (by omega) q1 q2
    exact ⟨_, lt _ (List.getElem_mem hb), r1, r2, Ne.symm (nd_ne nd q1 q2 (by omega))⟩
  · have e2 : t = 2 * (t / 2) + 1 := by omega
    have hb : 2 * (t / 2) < names.length := by omega
    have q2 : names[2 * (t / 2) + 1]? = some p := by rw [← e2]; exact et
    have q1 := List.getElem?_eq_getElem hb
    obtain ⟨r1, r2⟩ := key (t / 2) _ _ (by omega) q1 q2
    exact ⟨_, lt _ (List.getElem_mem hb), r2, r1, nd_ne nd q1 q2 (by omega)⟩

/-! k39, plain: the pairing drawn. -/
theorem swaps_ev (Φ : Funs) (s kk : Option MV) {names F0 : List Nat} {k : Nat} (hn : names.length = 2 * k) (hlt : ∀ p ∈ names, p < F0.length) :
    ∀ (m j : Nat) (F : List Nat) (x : Option MV), Sw names j F0 F → j + m ≤ k →
    ∃ G v, Sw names (j + m) F0 G ∧ forF (NT.n 4).put (fun ms => evSs Φ lSw ms) ((List.range' j m).map fun (i : Nat) => PyData.int i) [s, kk, some (.val (.list (dl names))), some (.ls (dl F)), x] = some (.nx [s, kk, some (.val (.list (dl names))), some (.ls (dl G)), v])
  | 0, j, F, x, h, _ => ⟨F, x, h, by show forF _ _ [] _ = _; unfold forF; rfl⟩
  | m + 1, j, F, x, h, hj => by
    have ha : 2 * j < names.length := by omega
    have hb : 2 * j + 1 < names.length := by omega
    have a1 := List.getElem?_eq_getElem ha
    have b1 := List.getElem?_eq_getElem hb
    have hl := sw_len h
    have e := step_ev Φ s kk names F j _ _ a1 b1 (by rw [hl]; exact hlt _ (List.getElem_mem ha)) (by rw [hl]; exact hlt _ (List.getElem_mem hb))
    obtain ⟨G, v, k1, k2⟩ := swaps_ev Φ s kk hn hlt m (j + 1) _ (some (iv (j : Nat))) (.step h a1 b1) (by omega)
    refine ⟨G, v, by rw [show j + (m + 1) = j + 1 + m by omega]; exact k1, ?_⟩
    rw [List.range'_succ, List.map_cons]
    unfold forF
    have e1 : (NT.n 4).put (PyData.int (j : Nat)) [s, kk, some (.val (.list (dl names))), some (.ls (dl F)), x] = some [s, kk, some (.val (.list (dl names))), some (.ls (dl F)), some (iv (j : Nat))] := rfl
    rw [e1, Option.bind_some, e, Option.bind_some]
    exact k2

theorem dl_range (m : Nat) : rangeD 0 (m : Nat) = dl (List.range m) := by
  unfold rangeD dl
  simp
theorem range_at (m : Nat) : rangeD 0 (m : Nat) = (List.range' 0 m).map fun (i : Nat) => PyData.int i := by
  rw [dl_range, ← List.range_eq_range']
  rfl
theorem perm_dl : ∀ {es : List PyData} {xs : List Nat}, es.Perm (dl xs) → ∃ ys : List Nat, es = dl ys ∧ ys.Perm xs := fun {es xs} h => by
  have key : ∀ {a b : List PyData}, a.Perm b → ∀ xs : List Nat, b = dl xs → ∃ ys : List Nat, a = dl ys ∧ ys.Perm xs := fun {a b} h => by
    induction h with
    | nil => intro xs e; cases xs with
      | nil => exact ⟨[], rfl, .nil⟩
      | cons _ _ => cases e
    | @cons x l1 l2 _ ih => intro xs e; cases xs with
      | nil => cases e
      | cons y ys =>
        obtain ⟨z1, z2⟩ := List.cons.inj e
        obtain ⟨zs, z3, p⟩ := ih ys z2
        exact ⟨y :: zs, by rw [z1, z3]; rfl, p.cons y⟩
    | swap x y l => intro xs e; cases xs with
      | nil => cases e
      | cons u us => cases us with
        | nil => cases (List.cons.inj e).2
        | cons v vs =>
          obtain ⟨z1, z2⟩ := List.cons.inj e
          obtain ⟨z3, z4⟩ := List.cons.inj z2
          exact ⟨v :: u :: vs, by rw [z1, z3, z4]; rfl, .swap _ _ _⟩
    | trans _ _ ih1 ih2 =>
      intro xs e
      obtain ⟨ys, e1, p1⟩ := ih2 xs e
      obtain ⟨zs, e2, p2⟩ := ih1 ys e1
      exact ⟨zs, e2, p2.trans p1⟩
  exact key h xs rfl

/-! the other way to draw a list empty: by a while -/
def wMix : IE := (.op .ne [.pk 1, (.lst [])])
def bMix (p : Nat) : List IS := [.append 2 (.popi 1 (.call p [(.mov 0), (.op .len [.pk 1])]))]
def fMixW (p : Nat) : FD := ⟨2, 3, [0], [.asg true (.tp [(.n 1), (.n 2)]) (.otup [(.op .toLst [.pk 1]), (.lst [])]), .whl (2 ^ 20000) wMix (bMix p), .ret false (.frz 2)]⟩
/-- data that may stand in a list that is compared -/
def Lay (ds : List PyData) : Prop := ∀ d ∈ ds, PyData.canLay0 d = true ∧ PyData.depth d ≤ 60
theorem lay_list : ∀ {ds : List PyData}, Lay ds → PyData.canLayAll0 ds = true ∧ PyData.depthAll ds ≤ 60
  | [], _ => ⟨rfl, by simp [PyData.depthAll]⟩
  | d :: ds, h => by
    obtain ⟨a, b⟩ := h d List.mem_cons_self
    obtain ⟨e, f⟩ := lay_list (ds := ds) fun x hx => h x (List.mem_cons_of_mem _ hx)
    refine ⟨?_, ?_⟩
    · simp only [PyData.canLayAll0, a, e, Bool.and_self]
    · simp only [PyData.depthAll]; omega
theorem sh_list {ds : List PyData} (h : Lay ds) : SeqAt.shaped (.list ds) = true := by
  obtain ⟨a, b⟩ := lay_list h
  unfold SeqAt.shaped
  have : PyData.depth (.list ds) ≤ 64 := by simp only [PyData.depth]; omega
  simp [PyData.canLay0, a, this]
theorem ne_nil {ds : List PyData} (h : Lay ds) : s_ne [.list ds, .list []] = some (.bool (!ds.isEmpty)) := by
  have s0 : SeqAt.shaped (.list []) = true := by simp [SeqAt.shaped, PyData.canLay0, PyData.canLayAll0, PyData.depth, PyData.depthAll]
  cases ds with
  | nil => simp [s_ne, eqD, s0, PyData.eqv, PyData.eqvAll]
  | cons d ds => simp [s_ne, eqD, s0, sh_list h, PyData.eqv, PyData.eqvAll]
theorem mixw_elt {Φ : Funs} {p : Nat} (hp : PickOk Φ p) (s : MV) (hs : IsSrc s) (rest fs : List PyData) (hr : rest ≠ []) (hl : rest.length < 1000) (hf : fs.length < 1000) :
    ∃ s' v, IsSrc s' ∧ ∃ h : v < rest.length, evSs Φ (bMix p) [some s, some (.ls rest), some (.ls fs)] = some (.nx [some s', some (.ls (rest.eraseIdx v)), some (.ls (fs ++ [rest[v]]))]) := by
  obtain ⟨v, s', h1, h2, h3⟩ := hp s hs rest.length (by omega)
  have hpos : 0 < rest.length := List.length_pos_iff.mpr hr
  obtain ⟨v0, v1⟩ := h2 (by omega)
  have hv : v.toNat < rest.length := by omega
  refine ⟨s', v.toNat, h1, hv, ?_⟩
  have e1 : evE Φ (.call p [(.mov 0), (.op .len [.pk 1])]) [some s, some (.ls rest), some (.ls fs)] = some (iv v, [some s', some (.ls rest), some (.ls fs)]) := by
    refine ee_call (vs := [s, iv (rest.length : Nat)]) (ms1 := [none, some (.ls rest), some (.ls fs)]) (evAs_cons (ee_mov rfl) (evAs_cons (ee_opk (o := .len) (m := .ls rest) (r := iv (rest.length : Nat)) rfl rfl rfl rfl) evAs_nil)) h3 rfl
  have e2 : rest[v.toNat]? = some rest[v.toNat] := List.getElem?_eq_getElem hv
  have e3 : rest.length < lim := by unfold lim; omega
  have e4 : evE Φ (.popi 1 (.call p [(.mov 0), (.op .len [.pk 1])])) [some s, some (.ls rest), some (.ls fs)] = some (.val rest[v.toNat], [some s', some (.ls (rest.eraseIdx v.toNat)), some (.ls fs)]) := by
    rw [evE]
    simp [lsAt, e1, popAt, MV.frz, ixN_at v0 v1, e2, e3]
  unfold bMix
  exact Eq.trans (ss_append (ds0 := fs) (ds := fs) rfl e4 rfl rfl (by omega)) ss_nil
def MixWOk (Φ : Funs) (i : Nat) : Prop := ∀ s, IsSrc s → ∀ ds : List PyData, Lay ds → ds.length < 500 → ∃ (s' : MV) (es : List PyData), IsSrc s' ∧ es.Perm ds ∧ Φ i [s, .val (.list ds)] = some (.val (.list es), [some s', none])
theorem mixWOk {Φ Ψ : Funs} {i p : Nat} (hp : PickOk Φ p) (h : ∀ as, Ψ i as = runF Φ (fMixW p) as) : MixWOk Ψ i := by
  intro s hs ds hy hl
  have cnd : ∀ (t : MV) (rest fs : List PyData), Lay rest → evE Φ wMix [some t, some (.ls rest), some (.ls fs)] = some (.val (.bool (!rest.isEmpty)), [some t, some (.ls rest), some (.ls fs)]) := fun t rest fs hr => by
    unfold wMix
    have sn : seen [.pk 1, .lst []] [.val .none, .ls []] [some t, some (.ls rest), some (.ls fs)] = some [.list rest, .list []] := rfl
    have z := ee_op (Φ := Φ) (o := .ne) (ms := [some t, some (.ls rest), some (.ls fs)]) (evEs_cons (ee_pk (i := 1) (m := .ls rest) rfl) (evEs_cons (ee_lst evEs_nil rfl) evEs_nil)) sn (show opSem .ne [.list rest, .list []] = some (.bool (!rest.isEmpty)) from ne_nil hr)
    exact z
  have lp := whileF_inv (c := fun ms => (evE Φ wMix ms).bind fun (v, ms1) => (isB v).map fun k => (k, ms1)) (b := fun ms => evSs Φ (bMix p) ms)
    (fun m ms => ∃ t rest fs, IsSrc t ∧ rest.length = m ∧ (fs ++ rest).Perm ds ∧ ms = [some t, some (.ls rest), some (.ls fs)])
    (fun ms => ∃ t fs, IsSrc t ∧ fs.Perm ds ∧ ms = [some t, some (.ls []), some (.ls fs)]) ds.length (2 ^ 20000) [some s, some (.ls ds), some (.ls [])]
    (fun m ms hi => by
      obtain ⟨t, rest, fs, ht, hm, pm, rfl⟩ := hi
      have hr : Lay rest := fun d hd => hy d (pm.mem_iff.mp (List.mem_append_right _ hd))
      have hlen := pm.length_eq
      rw [List.length_append] at hlen
      have c := cnd t rest fs hr
      by_cases hz : rest = []
      · subst hz
        refine .inl ⟨[some t, some (.ls []), some (.ls fs)], ?_, t, fs, ht, by rw [List.append_nil] at pm; exact pm, rfl⟩
        rw [c]
        rfl
      · obtain ⟨t', v, ht', hv, eb⟩ := mixw_elt hp t ht rest fs hz (by omega) (by omega)
        have hne : (!rest.isEmpty) = true := by cases rest with | nil => exact absurd rfl hz | cons _ _ => rfl
        rw [hne] at c
        refine .inr ⟨[some t, some (.ls rest), some (.ls fs)], _, rest.length - 1, by rw [c]; rfl, .inl eb, by have := List.length_pos_iff.mpr hz; omega, t', rest.eraseIdx v, fs ++ [rest[v]], ht', ?_, ?_, rfl⟩
        · rw [List.length_eraseIdx, if_pos hv]
        · rw [List.append_assoc]
          exact (List.Perm.append_left fs (perm_at rest v hv)).trans pm)
    ⟨s, ds, [], hs, rfl, by rw [List.nil_append], rfl⟩ (Nat.lt_trans (show ds.length < 1000 by omega) big)
  obtain ⟨ms', e1, t, fs, ht, pm, rfl⟩ := lp
  refine ⟨t, fs, ht, pm, ?_⟩
  rw [h]
  refine run_ret (Φ := Φ) (fd := fMixW p) (m := .val (.list fs)) (ms := [some t, some (.ls []), some (.val (.list fs))]) rfl ?_
  unfold fMixW
  have o1 : evE Φ (.otup [(.op .toLst [.pk 1]), (.lst [])]) [some s, some (.val (.list ds)), none] = some (.tup [.ls ds, .ls []], [some s, some (.val (.list ds)), none]) :=
    ee_otup (evEs_cons (ee_opk (o := .toLst) (m := .val (.list ds)) (r := .ls ds) rfl rfl rfl rfl) (evEs_cons (ee_lst evEs_nil rfl) evEs_nil)) (by simp)
  refine Eq.trans (ss_asg (m' := .tup [.ls ds, .ls []]) (ms2 := [some s, some (.ls ds), some (.ls [])]) o1 rfl rfl) ?_
  refine Eq.trans (ss_whl e1) ?_
  exact ss_ret (ee_frz (m := .ls fs) rfl rfl) rfl
end Rx
/-! Rx, for the plain laws: fractions, the program's and the laws' own, whatever the table of defs. -/
namespace Rx
open PySem
def frD (r : Rat) : PyData := .tuple [.int r.num, .int r.den]
theorem divInt_pos (p : Int) {n : Nat} (h : n ≠ 0) : frD (Rat.divInt p n) = .tuple [.int (p / ((p.natAbs.gcd n : Nat) : Int)), .int ((n : Int) / ((p.natAbs.gcd n : Nat) : Int))] := by
  have e : Rat.divInt p n = mkRat p n := rfl
  unfold frD
  rw [e]
  unfold mkRat
  rw [dif_neg h, Rat.normalize_eq]
  show PyData.tuple [.int _, .int ((n / p.natAbs.gcd n : Nat) : Int)] = _
  rw [Int.natCast_ediv]
theorem gcd_ne {p q : Int} (h : q ≠ 0) : ((p.natAbs.gcd q.natAbs : Nat) : Int) ≠ 0 := by
  have : 0 < p.natAbs.gcd q.natAbs := Nat.gcd_pos_of_pos_right _ (by omega)
  omega
def sz (n : Nat) (i : Int) : Prop := i.natAbs < 2 ^ n
theorem sz.log {n m : Nat} {i : Int} (h : sz n i) (hm : 0 < m) (hn : n ≤ m) : i.natAbs.log2 < m := by
  by_cases e : i.natAbs = 0
  · rw [e]; simpa using hm
  · exact (Nat.log2_lt e).mpr (Nat.lt_of_lt_of_le h (Nat.pow_le_pow_right (by decide) hn))
theorem sz.mono {n m : Nat} {i : Int} (h : sz n i) (hn : n ≤ m) : sz m i := Nat.lt_of_lt_of_le h (Nat.pow_le_pow_right (by decide) hn)
theorem sz.mul {n m : Nat} {i j : Int} (h : sz n i) (h' : sz m j) : sz (n + m) (i * j) := by
  unfold sz at *
  rw [Int.natAbs_mul, Nat.pow_add]
  exact Nat.mul_lt_mul'' h h'
theorem sz.add {n : Nat} {i j : Int} (h : sz n i) (h' : sz n j) : sz (n + 1) (i + j) := by
  unfold sz at *
  have := Int.natAbs_add_le i j
  rw [Nat.pow_succ]
  omega
theorem sz.sub {n : Nat} {i j : Int} (h : sz n i) (h' : sz n j) : sz (n + 1) (i - j) := by
  unfold sz at *
  have := Int.natAbs_sub_le i j
  rw [Nat.pow_succ]
  omega
theorem gcd_log {p q : Int} {n : Nat} (h : q ≠ 0) (hq : sz n q) (hn : n ≤ 8000) : ((p.natAbs.gcd q.natAbs : Nat) : Int).natAbs.log2 < 9000 := by
  have z : p.natAbs.gcd q.natAbs ≤ q.natAbs := Nat.gcd_le_right _ (by omega)
  have s : sz n ((p.natAbs.gcd q.natAbs : Nat) : Int) := Nat.lt_of_le_of_lt (by simpa using z) hq
  exact s.log (by decide) (by omega)
theorem dvd_l (p q : Int) : ((p.natAbs.gcd q.natAbs : Nat) : Int) ∣ p := by rw [← Int.natAbs_dvd_natAbs, Int.natAbs_natCast]; exact Nat.gcd_dvd_left _ _
theorem dvd_r (p q : Int) : ((p.natAbs.gcd q.natAbs : Nat) : Int) ∣ q := by rw [← Int.natAbs_dvd_natAbs, Int.natAbs_natCast]; exact Nat.gcd_dvd_right _ _
def LowOk (Φ : Funs) (i : Nat) : Prop := ∀ (p q : Int) (n : Nat), 0 < q → sz n q → n ≤ 8000 → Φ i [iv p, iv q] = some (.val (frD (Rat.divInt p q)), [none, none])
def LLowOk (Φ : Funs) (i : Nat) : Prop := ∀ (p q : Int) (n : Nat), q ≠ 0 → sz n q → n ≤ 8000 → Φ i [iv p, iv q] = some (.val (frD (Rat.divInt p q)), [none, none])
def GcdOk (Φ : Funs) (i : Nat) : Prop := ∀ (p q : Int) (n : Nat), sz n q → n ≤ 8000 → Φ i [iv p, iv q] = some (iv ((p.natAbs.gcd q.natAbs : Nat) : Int), [none, none])
def fLow : FD := ⟨2, 3, [], [.asg false (.n 2) (.op .gcd [(.var 0), (.var 1)]), .ret false (.tup [(.op .fdiv [(.var 0), (.var 2)]), (.op .fdiv [(.var 1), (.var 2)])])]⟩
section
variable {Φ Ψ : Funs} {i j : Nat}
theorem lowOk (h : ∀ as, Ψ i as = runF Φ fLow as) : LowOk Ψ i := by
  intro p q n hq0 hq hn
  have h0 : q ≠ 0 := by omega
  have hg := gcd_ne (p := p) h0
  have hl := gcd_log (p := p) h0 hq hn
  have e : frD (Rat.divInt p q) = .tuple [.int (p.fdiv ((p.natAbs.gcd q.natAbs : Nat) : Int)), .int (q.fdiv ((p.natAbs.gcd q.natAbs : Nat) : Int))] := by
    obtain ⟨m, rfl⟩ := Int.eq_ofNat_of_zero_le (Int.le_of_lt hq0)
    rw [divInt_pos p (n := m) (by omega), Int.fdiv_eq_ediv_of_dvd (dvd_l p m), Int.fdiv_eq_ediv_of_dvd (dvd_r p m)]
    rfl
  rw [h, e]
  refine run_ret (ms := [some (iv p), some (iv q), some (iv ((p.natAbs.gcd q.natAbs : Nat) : Int))]) rfl ?_
  unfold fLow
  refine Eq.trans (ss_set (m := iv ((p.natAbs.gcd q.natAbs : Nat) : Int)) (m' := iv ((p.natAbs.gcd q.natAbs : Nat) : Int)) (ms1 := [some (iv p), some (iv q), none]) ?_ rfl) (ss_ret (m := .val (.tuple [.int (p.fdiv ((p.natAbs.gcd q.natAbs : Nat) : Int)), .int (q.fdiv ((p.natAbs.gcd q.natAbs : Nat) : Int))])) ?_ rfl)
  · simp [runF, evSs, evS, evE, evEs, evAs, evC, evI, evT, evTs, seen, opSem, s_add, s_sub, madeBy, Op.fresh, MV.frz, frzAll, isB, setS, ownOr, argOf, backArgs, lim, s_gcd]
  · simp [runF, evSs, evS, evE, evEs, evAs, evC, evI, evT, evTs, seen, opSem, s_add, s_sub, madeBy, Op.fresh, MV.frz, frzAll, isB, setS, ownOr, argOf, backArgs, lim, fdivP _ _ hg hl]
def lGcd : List IS := [.asg true (.tp [(.n 0), (.n 1)]) (.otup [(.var 1), (.op .mod [(.op .int [(.var 0)]), (.var 1)])])]
def wGcd : IE := .op .gt [(.var 1), (.cst (.int 0))]
def fGcd : FD := ⟨2, 2, [], [.asg true (.tp [(.n 0), (.n 1)]) (.otup [(.op .abs [(.var 0)]), (.op .abs [(.var 1)])]), .whl (2 ^ 20000) wGcd lGcd, .ret false (.var 0)]⟩
theorem gstep (Φ : Funs) (a b : Int) (hb : b ≠ 0) : evSs Φ lGcd [some (iv a), some (iv b)] = some (.nx [some (iv b), some (iv (a.fmod b))]) := by
  unfold lGcd
  refine Eq.trans (ss_asg (m := .tup [iv b, iv (a.fmod b)]) (ms1 := [some (iv a), some (iv b)]) ?_ rfl rfl) ss_nil
  simp [runF, evSs, evS, evE, evEs, evAs, evC, evI, evT, evTs, seen, opSem, s_add, s_sub, madeBy, Op.fresh, MV.frz, frzAll, isB, setS, ownOr, argOf, backArgs, lim, s_int, modP _ _ hb]
theorem gcnd (Φ : Funs) (a b : Int) : (evE Φ wGcd [some (iv a), some (iv b)]).bind (fun (v, ms1) => (isB v).map fun k => (k, ms1)) = some (decide (0 < b), [some (iv a), some (iv b)]) := by
  simp [wGcd, runF, evSs, evS, evE, evEs, evAs, evC, evI, evT, evTs, seen, opSem, s_add, s_sub, madeBy, Op.fresh, MV.frz, frzAll, isB, setS, ownOr, argOf, backArgs, lim, s_gt]
theorem gcd_loop (Φ : Funs) (x y : Nat) (h : y < 2 ^ 20000) : ∃ ms, whileF (fun ms => (evE Φ wGcd ms).bind fun (v, ms1) => (isB v).map fun k => (k, ms1)) (fun ms => evSs Φ lGcd ms) (2 ^ 20000) [some (iv x), some (iv y)] = some (.nx ms) ∧ ms = [some (iv ((x.gcd y : Nat) : Int)), some (iv 0)] := by
  refine whileF_inv (Inv := fun m ms => ∃ a b : Nat, ms = [some (iv a), some (iv b)] ∧ b = m ∧ a.gcd b = x.gcd y) (Post := fun ms => ms = [some (iv ((x.gcd y : Nat) : Int)), some (iv 0)]) y (2 ^ 20000) _ ?_ ⟨x, y, rfl, rfl, rfl⟩ h
  rintro m ms ⟨a, b, rfl, rfl, hg⟩
  by_cases hb : b = 0
  · subst hb
    refine .inl ⟨_, ?_, rfl⟩
    rw [Nat.gcd_zero_right] at hg
    subst hg
    exact gcnd Φ _ 0
  · have hp : (0 : Int) < b := by omega
    have hn : (b : Int) ≠ 0 := by omega
    refine .inr ⟨[some (iv a), some (iv b)], [some (iv b), some (iv ((a % b : Nat) : Int))], a % b, ?_, .inl ?_, Nat.mod_lt _ (Nat.pos_of_ne_zero hb), b, a % b, rfl, rfl, ?_⟩
    · exact (gcnd Φ a b).trans (by rw [decide_eq_true hp])
    · have e : ((a : Int)).fmod b = ((a % b : Nat) : Int) := by
        rw [Int.fmod_eq_emod_of_nonneg _ (by omega)]; rfl
      rw [← e]
      exact gstep Φ a b hn
    · rw [← hg, Nat.gcd_comm a b, Nat.gcd_rec b a, Nat.gcd_comm]
theorem abs_nat (i : Int) : (if i < 0 then -i else i) = (i.natAbs : Int) := by split <;> omega
theorem gcdOk (h : ∀ as, Ψ i as = runF Φ fGcd as) : GcdOk Ψ i := by
  intro p q n hq hn
  obtain ⟨ms, h1, rfl⟩ := gcd_loop Φ p.natAbs q.natAbs (Nat.lt_of_lt_of_le hq (Nat.pow_le_pow_right (by decide) (by omega)))
  rw [h]
  refine run_ret (m := iv ((p.natAbs.gcd q.natAbs : Nat) : Int)) (ms := [some (iv ((p.natAbs.gcd q.natAbs : Nat) : Int)), some (iv 0)]) rfl ?_
  unfold fGcd
  refine Eq.trans (ss_asg (m := .tup [iv p.natAbs, iv q.natAbs]) (ms1 := [some (iv p), some (iv q)]) (ms2 := [some (iv p.natAbs), some (iv q.natAbs)]) ?_ rfl rfl) (Eq.trans (ss_whl h1) (ss_ret (m := iv ((p.natAbs.gcd q.natAbs : Nat) : Int)) rfl rfl))
  simp [runF, evSs, evS, evE, evEs, evAs, evC, evI, evT, evTs, seen, opSem, s_add, s_sub, madeBy, Op.fresh, MV.frz, frzAll, isB, setS, ownOr, argOf, backArgs, lim, s_abs, abs_nat]
/-- the law's lowest terms: p // by or 0 - p // by -/
def fLLowA (g : Nat) : FD := ⟨2, 3, [], [.asg false (.n 2) (.call g [(.var 0), (.var 1)]), .ret false (.ite (.op .gt [(.var 1), (.cst (.int 0))]) (.tup [(.op .fdiv [(.var 0), (.var 2)]), (.op .fdiv [(.var 1), (.var 2)])]) (.tup [(.op .sub [(.cst (.int 0)), (.op .fdiv [(.var 0), (.var 2)])]), (.op .sub [(.cst (.int 0)), (.op .fdiv [(.var 1), (.var 2)])])]))]⟩
theorem llowA (h : ∀ as, Ψ i as = runF Φ (fLLowA j) as) (hG : GcdOk Φ j) : LLowOk Ψ i := by
  intro p q n hq0 hq hn
  have hg := gcd_ne (p := p) hq0
  have hl := gcd_log (p := p) hq0 hq hn
  have g := hG p q n hq hn
  rw [h]
  by_cases hp : 0 < q
  · have e : frD (Rat.divInt p q) = .tuple [.int (p.fdiv ((p.natAbs.gcd q.natAbs : Nat) : Int)), .int (q.fdiv ((p.natAbs.gcd q.natAbs : Nat) : Int))] := by
      obtain ⟨m, rfl⟩ := Int.eq_ofNat_of_zero_le (Int.le_of_lt hp)
      rw [divInt_pos p (n := m) (by omega), Int.fdiv_eq_ediv_of_dvd (dvd_l p m), Int.fdiv_eq_ediv_of_dvd (dvd_r p m)]
      rfl
    rw [e]
    refine run_ret (ms := [some (iv p), some (iv q), some (iv ((p.natAbs.gcd q.natAbs : Nat) : Int))]) rfl ?_
    unfold fLLowA
    refine Eq.trans (ss_set (m := iv ((p.natAbs.gcd q.natAbs : Nat) : Int)) (m' := iv ((p.natAbs.gcd q.natAbs : Nat) : Int)) (ms1 := [some (iv p), some (iv q), none]) ?_ rfl) (ss_ret (m := .val (.tuple [.int (p.fdiv ((p.natAbs.gcd q.natAbs : Nat) : Int)), .int (q.fdiv ((p.natAbs.gcd q.natAbs : Nat) : Int))])) ?_ rfl)
    · simp [runF, evSs, evS, evE, evEs, evAs, evC, evI, evT, evTs, seen, opSem, s_add, s_sub, madeBy, Op.fresh, MV.frz, frzAll, isB, setS, ownOr, argOf, backArgs, lim, g]
    · simp [runF, evSs, evS, evE, evEs, evAs, evC, evI, evT, evTs, seen, opSem, s_add, s_sub, madeBy, Op.fresh, MV.frz, frzAll, isB, setS, ownOr, argOf, backArgs, lim, s_gt, hp, fdivP _ _ hg hl]
  · have e : frD (Rat.divInt p q) = .tuple [.int (0 - p.fdiv ((p.natAbs.gcd q.natAbs : Nat) : Int)), .int (0 - q.fdiv ((p.natAbs.gcd q.natAbs : Nat) : Int))] := by
      obtain ⟨m, hm⟩ := Int.eq_ofNat_of_zero_le (a := -q) (by omega)
      have eq : q = -(m : Int) := by omega
      have hd : Rat.divInt p q = Rat.divInt (-p) m := by
        rw [eq, Rat.divInt_neg']
      have hgm : ((-p).natAbs.gcd m) = p.natAbs.gcd q.natAbs := by rw [Int.natAbs_neg, eq, Int.natAbs_neg]; rfl
      rw [hd, divInt_pos (-p) (n := m) (by omega), hgm]
      have d1 := dvd_l p q
      have d2 := dvd_r p q
      generalize ((p.natAbs.gcd q.natAbs : Nat) : Int) = G at *
      have e1 : 0 - p.fdiv G = -p / G := by
        rw [Int.fdiv_eq_ediv_of_dvd d1, Int.zero_sub, Int.neg_ediv_of_dvd d1]
      have e2 : 0 - q.fdiv G = m / G := by
        rw [Int.fdiv_eq_ediv_of_dvd d2, Int.zero_sub, ← Int.neg_ediv_of_dvd d2, hm]
      rw [e1, e2]
    rw [e]
    refine run_ret (ms := [some (iv p), some (iv q), some (iv ((p.natAbs.gcd q.natAbs : Nat) : Int))]) rfl ?_
    unfold fLLowA
    refine Eq.trans (ss_set (m := iv ((p.natAbs.gcd q.natAbs : Nat) : Int)) (m' := iv ((p.natAbs.gcd q.natAbs : Nat) : Int)) (ms1 := [some (iv p), some (iv q), none]) ?_ rfl) (ss_ret (m := .val (.tuple [.int (0 - p.fdiv ((p.natAbs.gcd q.natAbs : Nat) : Int)), .int (0 - q.fdiv ((p.natAbs.gcd q.natAbs : Nat) : Int))])) ?_ rfl)
    · simp [runF, evSs, evS, evE, evEs, evAs, evC, evI, evT, evTs, seen, opSem, s_add, s_sub, madeBy, Op.fresh, MV.frz, frzAll, isB, setS, ownOr, argOf, backArgs, lim, g]
    · have w1 := fdivP p _ hg hl
      have w2 := fdivP q _ hg hl
      generalize ((p.natAbs.gcd q.natAbs : Nat) : Int) = G at *
      simp [runF, evSs, evS, evE, evEs, evAs, evC, evI, evT, evTs, seen, opSem, s_add, s_sub, madeBy, Op.fresh, MV.frz, frzAll, isB, setS, ownOr, argOf, backArgs, lim, s_gt, hp, w1, w2]
end
/-! ### sizes of fractions -/
structure fz (n : Nat) (r : Rat) : Prop where
  num : sz n r.num
  den : sz n r.den
theorem fz.mono {n m : Nat} {r : Rat} (h : fz n r) (hn : n ≤ m) : fz m r := ⟨h.num.mono hn, h.den.mono hn⟩
theorem nat_div_lt {n : Nat} {a : Nat} (g : Nat) (h : a < 2 ^ n) : a / g < 2 ^ n := Nat.lt_of_le_of_lt (Nat.div_le_self _ _) h
theorem fz_mk {n : Nat} {p : Int} {d : Nat} (h : sz n p) (h' : sz n (d : Int)) (hd : d ≠ 0) : fz n (mkRat p d) := by
  constructor
  · rw [Rat.num_mkRat, if_neg hd]
    unfold sz
    exact Nat.lt_of_le_of_lt (Int.natAbs_ediv_le_natAbs _ _) h
  · rw [Rat.den_mkRat, if_neg hd]
    unfold sz
    rw [Int.natAbs_natCast]
    exact nat_div_lt _ (by simpa [sz] using h')
theorem den_pos (r : Rat) : (0 : Int) < r.den := by have := r.den_pos; omega
theorem fz.add {n m : Nat} {a b : Rat} (h : fz n a) (h' : fz m b) : fz (n + m + 1) (a + b) := by
  rw [Rat.add_def']
  have z := h.den.mul h'.den
  refine fz_mk ((h.num.mul h'.den).add ((h'.num.mul h.den).mono (by omega))) ?_ (Nat.mul_ne_zero a.den_nz b.den_nz)
  rw [Int.natCast_mul]
  exact z.mono (by omega)
theorem fz.sub {n m : Nat} {a b : Rat} (h : fz n a) (h' : fz m b) : fz (n + m + 1) (a - b) := by
  rw [Rat.sub_def']
  have z := h.den.mul h'.den
  refine fz_mk ((h.num.mul h'.den).sub ((h'.num.mul h.den).mono (by omega))) ?_ (Nat.mul_ne_zero a.den_nz b.den_nz)
  rw [Int.natCast_mul]
  exact z.mono (by omega)
theorem fz.mul {n m : Nat} {a b : Rat} (h : fz n a) (h' : fz m b) : fz (n + m) (a * b) := by
  rw [Rat.mul_def']
  refine fz_mk (h.num.mul h'.num) ?_ (Nat.mul_ne_zero a.den_nz b.den_nz)
  rw [Int.natCast_mul]
  exact h.den.mul h'.den
theorem div_eq {a b : Rat} : a / b = Rat.divInt (a.num * b.den) (b.num * a.den) := by
  rw [Rat.div_def, Rat.inv_def]
  conv => lhs; rw [← Rat.num_divInt_den a]
  rw [Rat.divInt_mul_divInt, Int.mul_comm b.num]
theorem num_ne {b : Rat} (h : b ≠ 0) : b.num ≠ 0 := fun z => h (Rat.num_eq_zero.mp z)
theorem fz_divInt {n : Nat} {p q : Int} (h : sz n p) (h' : sz n q) (hq : q ≠ 0) : fz n (Rat.divInt p q) := by
  by_cases h0 : 0 < q
  · obtain ⟨m, rfl⟩ := Int.eq_ofNat_of_zero_le (Int.le_of_lt h0)
    have e : Rat.divInt p m = mkRat p m := rfl
    rw [e]
    exact fz_mk h h' (by omega)
  · obtain ⟨m, hm⟩ := Int.eq_ofNat_of_zero_le (a := -q) (by omega)
    have eq : q = -(m : Int) := by omega
    have e : Rat.divInt p q = mkRat (-p) m := by
      rw [eq, Rat.divInt_neg']
      rfl
    rw [e]
    refine fz_mk ?_ ?_ (by omega)
    · unfold sz at *; rw [Int.natAbs_neg]; exact h
    · unfold sz at *; rw [eq, Int.natAbs_neg] at h'; exact h'
theorem fz.div {n m : Nat} {a b : Rat} (h : fz n a) (h' : fz m b) (hb : b ≠ 0) : fz (n + m) (a / b) := by
  rw [div_eq]
  refine fz_divInt (h.num.mul h'.den) ((h'.num.mul h.den).mono (by omega)) ?_
  exact Int.mul_ne_zero (num_ne hb) (by have := den_pos a; omega)
/-! ### the program's fractions -/
theorem mulS {n m : Nat} {i j : Int} (h : sz n i) (h' : sz m j) (hn : n ≤ 8000) (hm : m ≤ 8000) : s_mul [.int i, .int j] = some (.int (i * j)) := by
  have h1 : bigOk i = true := decide_eq_true (h.log (by decide) (by omega))
  have h2 : bigOk j = true := decide_eq_true (h'.log (by decide) (by omega))
  simp [s_mul, mulOk, h1, h2]
abbrev fv (r : Rat) : MV := .val (frD r)
theorem at0 (r : Rat) : L2.atI [PyData.int r.num, PyData.int (r.den : Int)] 0 = some (.int r.num) := rfl
theorem at1 (r : Rat) : L2.atI [PyData.int r.num, PyData.int (r.den : Int)] 1 = some (.int (r.den : Int)) := rfl
def Ar2 (Φ : Funs) (i : Nat) (f : Rat → Rat → Rat) : Prop := ∀ (a b : Rat) (n m : Nat), fz n a → fz m b → n + m + 1 ≤ 7990 → Φ i [fv a, fv b] = some (fv (f a b), [none, none])
theorem add_num (a b : Rat) : Rat.divInt (a.num * b.den + b.num * a.den) (a.den * b.den) = a + b := by
  rw [Rat.add_def', ← Int.natCast_mul]
  rfl
theorem sub_num (a b : Rat) : Rat.divInt (a.num * b.den - b.num * a.den) (a.den * b.den) = a - b := by
  rw [Rat.sub_def', ← Int.natCast_mul]
  rfl
theorem mul_num (a b : Rat) : Rat.divInt (a.num * b.num) (a.den * b.den) = a * b := by
  rw [Rat.mul_def', ← Int.natCast_mul]
  rfl
theorem by_num {a b : Rat} (s : Int) (hs : s ≠ 0) : Rat.divInt (s * a.num * b.den) (s * b.num * a.den) = a / b := by
  rw [div_eq, Int.mul_assoc, Int.mul_assoc, Rat.divInt_mul_left hs]
theorem LLowOk.low {Φ : Funs} {i : Nat} (h : LLowOk Φ i) : LowOk Φ i := fun p q n hq => h p q n (by omega)
abbrev x0 (v : Nat) : IE := .op .ix [(.var v), (.cst (.int 0))]
abbrev x1 (v : Nat) : IE := .op .ix [(.var v), (.cst (.int 1))]
def fSum (l : Nat) : FD := ⟨2, 2, [], [.ret false (.call l [(.op .add [(.op .mul [x0 0, x1 1]), (.op .mul [x0 1, x1 0])]), (.op .mul [x1 0, x1 1])])]⟩
def fLess (l : Nat) : FD := ⟨2, 2, [], [.ret false (.call l [(.op .sub [(.op .mul [x0 0, x1 1]), (.op .mul [x0 1, x1 0])]), (.op .mul [x1 0, x1 1])])]⟩
def fTimes (l : Nat) : FD := ⟨2, 2, [], [.ret false (.call l [(.op .mul [x0 0, x0 1]), (.op .mul [x1 0, x1 1])])]⟩
def fBy (l : Nat) : FD := ⟨2, 3, [], [.asg false (.n 2) (.ite (.op .gt [x0 1, (.cst (.int 0))]) (.cst (.int 1)) (.op .neg [(.cst (.int 1))])), .ret false (.call l [(.op .mul [(.op .mul [(.var 2), x0 0]), x1 1]), (.op .mul [(.op .mul [(.var 2), x0 1]), x1 0])])]⟩
section
variable {Φ Ψ : Funs} {i l : Nat}
theorem sumOk (h : ∀ as, Ψ i as = runF Φ (fSum l) as) (hL : LowOk Φ l) : Ar2 Ψ i (· + ·) := by
  intro a b n m ha hb hn
  have w1 := mulS ha.num hb.den (by omega) (by omega)
  have w2 := mulS hb.num ha.den (by omega) (by omega)
  have w3 := mulS ha.den hb.den (by omega) (by omega)
  have w := hL (a.num * b.den + b.num * a.den) (a.den * b.den) _ (Int.mul_pos (den_pos a) (den_pos b)) (ha.den.mul hb.den) (by omega)
  rw [add_num] at w
  rw [h]
  refine run_ret (ms := [some (fv a), some (fv b)]) rfl ?_
  unfold fSum
  refine ss_ret (m := fv (a + b)) ?_ rfl
  unfold fv frD at *
  simp [runF, evSs, evS, evE, evEs, evAs, evC, evI, evT, evTs, seen, opSem, s_add, s_sub, madeBy, Op.fresh, MV.frz, frzAll, isB, setS, ownOr, argOf, backArgs, lim, s_ix, at0, at1, w1, w2, w3, w]
theorem lessOk (h : ∀ as, Ψ i as = runF Φ (fLess l) as) (hL : LowOk Φ l) : Ar2 Ψ i (· - ·) := by
  intro a b n m ha hb hn
  have w1 := mulS ha.num hb.den (by omega) (by omega)
  have w2 := mulS hb.num ha.den (by omega) (by omega)
  have w3 := mulS ha.den hb.den (by omega) (by omega)
  have w := hL (a.num * b.den - b.num * a.den) (a.den * b.den) _ (Int.mul_pos (den_pos a) (den_pos b)) (ha.den.mul hb.den) (by omega)
  rw [sub_num] at w
  rw [h]
  refine run_ret (ms := [some (fv a), some (fv b)]) rfl ?_
  unfold fLess
  refine ss_ret (m := fv (a - b)) ?_ rfl
  unfold fv frD at *
  simp [runF, evSs, evS, evE, evEs, evAs, evC, evI, evT, evTs, seen, opSem, s_add, s_sub, madeBy, Op.fresh, MV.frz, frzAll, isB, setS, ownOr, argOf, backArgs, lim, s_ix, at0, at1, w1, w2, w3, w]
theorem timesOk (h : ∀ as, Ψ i as = runF Φ (fTimes l) as) (hL : LowOk Φ l) : Ar2 Ψ i (· * ·) := by
  intro a b n m ha hb hn
  have w1 := mulS ha.num hb.num (by omega) (by omega)
  have w3 := mulS ha.den hb.den (by omega) (by omega)
  have w := hL (a.num * b.num) (a.den * b.den) _ (Int.mul_pos (den_pos a) (den_pos b)) (ha.den.mul hb.den) (by omega)
  rw [mul_num] at w
  rw [h]
  refine run_ret (ms := [some (fv a), some (fv b)]) rfl ?_
  unfold fTimes
  refine ss_ret (m := fv (a * b)) ?_ rfl
  unfold fv frD at *
  simp [runF, evSs, evS, evE, evEs, evAs, evC, evI, evT, evTs, seen, opSem, s_add, s_sub, madeBy, Op.fresh, MV.frz, frzAll, isB, setS, ownOr, argOf, backArgs, lim, s_ix, at0, at1, w1, w3, w]
theorem byOk (h : ∀ as, Ψ i as = runF Φ (fBy l) as) (hL : LowOk Φ l) {n m : Nat} {a b : Rat} (ha : fz n a) (hb : fz m b) (hn : n + m + 1 ≤ 7990) (h0 : b ≠ 0) : Ψ i [fv a, fv b] = some (fv (a / b), [none, none]) := by
  have hnum := num_ne h0
  have main : ∀ s : Int, s = (if 0 < b.num then 1 else -1) → Ψ i [fv a, fv b] = some (fv (a / b), [none, none]) := fun s es => by
    have hs : sz 1 s := by rw [es]; unfold sz; split <;> decide
    have hs0 : s ≠ 0 := by rw [es]; split <;> decide
    have hpos : 0 < s * b.num := by
      rw [es]
      split
      · omega
      · omega
    have u1 := mulS hs ha.num (by omega) (by omega)
    have u2 := mulS (hs.mul ha.num) hb.den (by omega) (by omega)
    have u3 := mulS hs hb.num (by omega) (by omega)
    have u4 := mulS (hs.mul hb.num) ha.den (by omega) (by omega)
    have w := hL (s * a.num * b.den) (s * b.num * a.den) _ (Int.mul_pos hpos (den_pos a)) ((hs.mul hb.num).mul ha.den) (by omega)
    rw [by_num s hs0] at w
    rw [h]
    refine run_ret (ms := [some (fv a), some (fv b), some (iv s)]) rfl ?_
    unfold fBy
    refine Eq.trans (ss_set (m := iv s) (m' := iv s) (ms1 := [some (fv a), some (fv b), none]) ?_ rfl) (ss_ret (m := fv (a / b)) ?_ rfl)
    · unfold fv frD
      by_cases hp : 0 < b.num
      · simp [runF, evSs, evS, evE, evEs, evAs, evC, evI, evT, evTs, seen, opSem, s_add, s_sub, madeBy, Op.fresh, MV.frz, frzAll, isB, setS, ownOr, argOf, backArgs, lim, s_ix, at0, s_gt, hp, es]
      · simp [runF, evSs, evS, evE, evEs, evAs, evC, evI, evT, evTs, seen, opSem, s_add, s_sub, madeBy, Op.fresh, MV.frz, frzAll, isB, setS, ownOr, argOf, backArgs, lim, s_ix, at0, s_gt, s_neg, hp, es]
    · unfold fv frD at *
      simp [runF, evSs, evS, evE, evEs, evAs, evC, evI, evT, evTs, seen, opSem, s_add, s_sub, madeBy, Op.fresh, MV.frz, frzAll, isB, setS, ownOr, argOf, backArgs, lim, s_ix, at0, at1, u1, u2, u3, u4, w]
  exact main _ rfl
end
/-! ### rows added -/
def tot : Rat → List Rat → Rat
  | a, [] => a
  | a, r :: rs => tot (a + r) rs
theorem zero_fr : (PyData.tuple [.int 0, .int 1]) = frD 0 := rfl
theorem fz0 : fz 1 0 := ⟨by unfold sz; decide, by unfold sz; decide⟩
theorem fold_add (Φ : Funs) (i : Nat) (body : List IS) (hb : body = [.asg false (.n 1) (.call i [(.var 1), (.var 2)])]) (n : Nat) (h : ∀ (a b : Rat) (m : Nat), fz m a → fz n b → m + n + 1 ≤ 4000 → Φ i [fv a, fv b] = some (fv (a + b), [none, none])) :
    ∀ (rs : List Rat) (a : Rat) (m : Nat) (x : MV) (y : Option MV), fz m a → (∀ r ∈ rs, fz n r) → m + rs.length * (n + 1) ≤ 4000 → ∃ y', forF (NT.put (.n 2)) (fun ms => evSs Φ body ms) (rs.map frD) [some x, some (fv a), y] = some (.nx [some x, some (fv (tot a rs)), y'])
  | [], a, m, x, y, _, _, _ => ⟨y, rfl⟩
  | r :: rs, a, m, x, y, ha, hr, hs => by
    rw [List.length_cons, Nat.add_mul] at hs
    have h1 := h a r m ha (hr r List.mem_cons_self) (by omega)
    obtain ⟨y', h2⟩ := fold_add Φ i body hb n h rs (a + r) (m + n + 1) x (some (fv r)) (ha.add (hr r List.mem_cons_self)) (fun q hq => hr q (List.mem_cons_of_mem _ hq)) (by omega)
    refine ⟨y', ?_⟩
    have e : evSs Φ body [some x, some (fv a), some (fv r)] = some (.nx [some x, some (fv (a + r)), some (fv r)]) := by
      rw [hb]
      refine Eq.trans (ss_set (m := fv (a + r)) (m' := fv (a + r)) (ms1 := [some x, some (fv a), some (fv r)]) ?_ rfl) ss_nil
      simp [runF, evSs, evS, evE, evEs, evAs, evC, evI, evT, evTs, seen, opSem, s_add, s_sub, madeBy, Op.fresh, MV.frz, frzAll, isB, setS, ownOr, argOf, backArgs, lim, h1]
    rw [List.map_cons]
    unfold forF
    show ((evSs Φ body [some x, some (fv a), some (fv r)]).bind _) = _
    rw [e]
    exact h2
def rowD (tu : Bool) (rs : List Rat) : PyData := if tu = true then .tuple (rs.map frD) else .list (rs.map frD)
theorem seq_row (tu : Bool) (rs : List Rat) : seqOf (rowD tu rs) = some (rs.map frD) := by cases tu <;> rfl
def fTotal (l : Nat) : FD := ⟨1, 3, [], [.asg false (.n 1) (.tup [(.cst (.int 0)), (.cst (.int 1))]), .for_ (.n 2) (.seq (.var 0)) [.asg false (.n 1) (.call l [(.var 1), (.var 2)])], .ret false (.var 1)]⟩
theorem totalOk {Φ Ψ : Funs} {i l : Nat} (h : ∀ as, Ψ i as = runF Φ (fTotal l) as) (hA : Ar2 Φ l (· + ·)) (tu : Bool) (rs : List Rat) {n : Nat} (hr : ∀ r ∈ rs, fz n r) (hs : 1 + rs.length * (n + 1) ≤ 4000) : Ψ i [.val (rowD tu rs)] = some (fv (tot 0 rs), [none]) := by
  obtain ⟨y', hf⟩ := fold_add Φ l [.asg false (.n 1) (.call l [(.var 1), (.var 2)])] rfl n (fun a b m ha hb hm => hA a b m n ha hb (by omega)) rs 0 1 (.val (rowD tu rs)) none fz0 hr hs
  rw [h]
  refine run_ret (m := fv (tot 0 rs)) (ms := [some (.val (rowD tu rs)), some (fv (tot 0 rs)), y']) rfl ?_
  unfold fTotal
  refine Eq.trans (ss_set (m := fv 0) (m' := fv 0) (ms1 := [some (.val (rowD tu rs)), none, none]) ?_ rfl) (Eq.trans (ss_for (ds := rs.map frD) (ms1 := [some (.val (rowD tu rs)), some (fv 0), none]) ?_ hf) (ss_ret rfl rfl))
  · simp [runF, evSs, evS, evE, evEs, evAs, evC, evI, evT, evTs, seen, opSem, s_add, s_sub, madeBy, Op.fresh, MV.frz, frzAll, isB, setS, ownOr, argOf, backArgs, lim, zero_fr]
  · simp [runF, evSs, evS, evE, evEs, evAs, evC, evI, evT, evTs, seen, opSem, s_add, s_sub, madeBy, Op.fresh, MV.frz, frzAll, isB, setS, ownOr, argOf, backArgs, lim, seq_row]
theorem tot_cons (a x : Rat) : ∀ rs : List Rat, tot (a + x) rs = tot a rs + x
  | [] => rfl
  | r :: rs => by
    show tot (a + x + r) rs = tot (a + r) rs + x
    rw [← tot_cons (a + r) x rs, Rat.add_assoc, Rat.add_comm x r, ← Rat.add_assoc]
theorem tot_fz {n : Nat} : ∀ (rs : List Rat) (a : Rat) (m : Nat), fz m a → (∀ r ∈ rs, fz n r) → fz (m + rs.length * (n + 1)) (tot a rs)
  | [], a, m, ha, _ => ha.mono (by omega)
  | r :: rs, a, m, ha, hr => by
    have z := tot_fz rs (a + r) (m + n + 1) (ha.add (hr r List.mem_cons_self)) fun q hq => hr q (List.mem_cons_of_mem _ hq)
    show fz _ (tot (a + r) rs)
    refine z.mono ?_
    rw [List.length_cons, Nat.add_mul]
    omega
theorem shp_fr (r : Rat) : SeqAt.shaped (frD r) = true := by
  simp [SeqAt.shaped, frD, PyData.canLay0, PyData.canLayAll0, PyData.depth, PyData.depthAll]
theorem ne_fr (a b : Rat) (h : a = b) : s_ne [frD a, frD b] = some (.bool false) := by
  subst h
  have z := shp_fr a
  unfold frD at *
  simp [s_ne, eqD, z, PyData.eqv, PyData.eqvAll]
theorem eq_fr (a b : Rat) (h : a = b) : s_eq [frD a, frD b] = some (.bool true) := by
  subst h
  have z := shp_fr a
  unfold frD at *
  simp [s_eq, eqD, z, PyData.eqv, PyData.eqvAll]
theorem ne_str (x : Str) : s_ne [.str x, .str x] = some (.bool false) := by simp [s_ne, eqD]
theorem show_fr {r : Rat} (h : fz 1000 r) : PyData.showable (frD r) = true ∧ signs (frD r) ≤ 2013 ∧ PyData.depth (frD r) ≤ 1 ∧ PyData.hasDict (frD r) = false := by
  have l1 : r.num.natAbs.log2 < 1000 := h.num.log (by decide) (Nat.le_refl _)
  have l2 : (r.den : Int).natAbs.log2 < 1000 := h.den.log (by decide) (Nat.le_refl _)
  have d1 : decide (r.num.natAbs.log2 < 1920) = true := decide_eq_true (by omega)
  have d2 : decide ((r.den : Int).natAbs.log2 < 1920) = true := decide_eq_true (by omega)
  refine ⟨?_, ?_, ?_, ?_⟩
  · simp only [frD, PyData.showable, PyData.showableAll, d1, d2, Bool.and_self]
  · simp only [frD, signs, signs.signsAll]
    omega
  · simp [frD, PyData.depth, PyData.depthAll]
  · simp [frD, PyData.hasDict, PyData.hasDictAll]
theorem show_row : ∀ rs : List Rat, (∀ r ∈ rs, fz 1000 r) → PyData.showableAll (rs.map frD) = true ∧ signs.signsAll (rs.map frD) ≤ 2015 * rs.length ∧ PyData.depthAll (rs.map frD) ≤ 1 ∧ PyData.hasDictAll (rs.map frD) = false
  | [], _ => by simp [PyData.showableAll, signs.signsAll, PyData.depthAll, PyData.hasDictAll]
  | r :: rs, h => by
    obtain ⟨a1, a2, a3, a4⟩ := show_fr (h r List.mem_cons_self)
    obtain ⟨b1, b2, b3, b4⟩ := show_row rs fun q hq => h q (List.mem_cons_of_mem _ hq)
    refine ⟨?_, ?_, ?_, ?_⟩
    · simp only [List.map_cons, PyData.showableAll, a1, b1, Bool.and_self]
    · simp only [List.map_cons, signs.signsAll, List.length_cons]; omega
    · simp only [List.map_cons, PyData.depthAll]; omega
    · simp only [List.map_cons, PyData.hasDictAll, a4, b4, Bool.or_self]
theorem rep_row {ds : List PyData} {rs : List Rat} (e : ds = rs.map frD) (h : ∀ r ∈ rs, fz 1000 r) (hl : rs.length ≤ 100) : s_repr [.list ds] = some (.str (PyData.shown (.list ds))) := by
  subst e
  obtain ⟨b1, b2, b3, b4⟩ := show_row rs h
  have ok : showOk (.list (rs.map frD)) = true := by
    unfold showOk
    have c1 : PyData.showable (.list (rs.map frD)) = true := by simp only [PyData.showable, b1]
    have c2 : signs (.list (rs.map frD)) ≤ lim := by
      have : lim = 1000000 := rfl
      simp only [signs]; omega
    have c3 : PyData.depth (.list (rs.map frD)) ≤ 64 := by simp only [PyData.depth]; omega
    have c4 : PyData.hasDict (.list (rs.map frD)) = false := by simp only [PyData.hasDict, b4]
    simp [c1, c2, c3, c4]
  simp [s_repr, ok]
theorem rep_fr {r : Rat} (h : fz 1000 r) : s_repr [frD r] = some (.str (PyData.shown (frD r))) := by
  obtain ⟨a1, a2, a3, a4⟩ := show_fr h
  have ok : showOk (frD r) = true := by
    unfold showOk
    have c2 : signs (frD r) ≤ lim := by
      have : lim = 1000000 := rfl
      omega
    have c3 : PyData.depth (frD r) ≤ 64 := by omega
    simp [a1, c2, c3, a4]
  unfold frD at *
  simp [s_repr, ok]
end Rx
/-! Rx, for the plain laws: comprehensions over rows of anything; cuts; enumerate; opened conditions. -/
namespace Rx
open PySem
theorem compL_to {α : Type} {put : PyData → MEnv → Option MEnv} {cond : MEnv → Res Bool} {elt : MEnv → Res MV} {own : List Nat} (g h : α → PyData) (p : α → Bool) (W : MEnv) : ∀ (xs : List α) (acc : List MV),
    (∀ x ∈ xs, ∃ m1 m2, put (g x) W = some m1 ∧ cond m1 = some (p x, m2) ∧ (p x = true → ∃ m m3, elt m2 = some (m, m3) ∧ m.frz = some (h x) ∧ wipeM m3 own = W) ∧ (p x = false → wipeM m2 own = W)) → acc.length + xs.length ≤ lim →
    ∃ rs, compL put cond elt own (xs.map g) W acc = some (acc ++ rs, W) ∧ frzAll rs = some ((xs.filter p).map h)
  | [], acc, _, _ => ⟨[], by rw [List.map_nil, compL, List.append_nil], rfl⟩
  | x :: xs, acc, hx, hl => by
    obtain ⟨m1, m2, e1, e2, e3, e4⟩ := hx x List.mem_cons_self
    rw [List.length_cons] at hl
    cases hp : p x with
    | true =>
      obtain ⟨m, m3, e5, e6, e7⟩ := e3 hp
      obtain ⟨rs, q1, q2⟩ := compL_to g h p W xs (acc ++ [m]) (fun y hy => hx y (List.mem_cons_of_mem _ hy)) (by rw [List.length_append, List.length_singleton]; omega)
      refine ⟨m :: rs, ?_, ?_⟩
      · rw [List.map_cons]
        unfold compL
        rw [e1, Option.bind_some, e2, Option.bind_some]
        dsimp only
        rw [hp, if_pos rfl, e5, Option.bind_some]
        dsimp only
        rw [if_pos (by omega), e7, q1, List.append_assoc]
        rfl
      · rw [frzAll, e6, Option.bind_some, q2, List.filter_cons_of_pos hp]
        rfl
    | false =>
      obtain ⟨rs, q1, q2⟩ := compL_to g h p W xs acc (fun y hy => hx y (List.mem_cons_of_mem _ hy)) (by omega)
      refine ⟨rs, ?_, ?_⟩
      · rw [List.map_cons]
        unfold compL
        rw [e1, Option.bind_some, e2, Option.bind_some]
        dsimp only
        rw [hp, if_neg (by decide), e4 hp, q1]
      · rw [q2, List.filter_cons_of_neg (by rw [hp]; decide)]
section
variable {Φ : Funs} {ms ms1 : MEnv}
theorem ee_compM {α : Type} {own : List Nat} {tg : NT} {it : II} {elt : IE} (xs : List α) (g h : α → PyData) (h1 : evI Φ it ms = some (xs.map g, ms1)) (hi : idle ms1 own = true) (hl : xs.length ≤ 1000000)
    (hx : ∀ x ∈ xs, ∃ m1 m m3, tg.put (g x) (wipeM ms1 own) = some m1 ∧ evE Φ elt m1 = some (m, m3) ∧ m.frz = some (h x) ∧ wipeM m3 own = wipeM ms1 own) :
    evE Φ (.comp false own tg it none elt) ms = some (.ls (xs.map h), backM ms1 (wipeM ms1 own) own) := by
  obtain ⟨rs, q1, q2⟩ := compL_to (put := tg.put) (cond := fun ms => evC Φ none ms) (elt := fun ms => evE Φ elt ms) (own := own) g h (fun _ => true) (wipeM ms1 own) xs [] (fun x hm => by
    obtain ⟨m1, m, m3, e1, e2, e3, e4⟩ := hx x hm
    exact ⟨m1, m1, e1, by show evC Φ none m1 = _; rw [evC], fun _ => ⟨m, m3, e2, e3, e4⟩, fun z => by cases z⟩) (by show 0 + _ ≤ 1000000; omega)
  have f : xs.filter (fun _ => true) = xs := List.filter_eq_self.mpr fun _ _ => rfl
  rw [f] at q2
  exact ee_comp h1 hi q1 q2
theorem ee_compF {α : Type} {own : List Nat} {tg : NT} {it : II} {cond elt : IE} (xs : List α) (g h : α → PyData) (p : α → Bool) (h1 : evI Φ it ms = some (xs.map g, ms1)) (hi : idle ms1 own = true) (hl : xs.length ≤ 1000000)
    (hx : ∀ x ∈ xs, ∃ m1 m2, tg.put (g x) (wipeM ms1 own) = some m1 ∧ evE Φ cond m1 = some (.val (.bool (p x)), m2) ∧ (p x = true → ∃ m m3, evE Φ elt m2 = some (m, m3) ∧ m.frz = some (h x) ∧ wipeM m3 own = wipeM ms1 own) ∧ (p x = false → wipeM m2 own = wipeM ms1 own)) :
    evE Φ (.comp false own tg it (some cond) elt) ms = some (.ls ((xs.filter p).map h), backM ms1 (wipeM ms1 own) own) := by
  obtain ⟨rs, q1, q2⟩ := compL_to (put := tg.put) (cond := fun ms => evC Φ (some cond) ms) (elt := fun ms => evE Φ elt ms) (own := own) g h p (wipeM ms1 own) xs [] (fun x hm => by
    obtain ⟨m1, m2, e1, e2, e3, e4⟩ := hx x hm
    exact ⟨m1, m2, e1, by show evC Φ (some cond) m1 = _; rw [evC, e2]; rfl, e3, e4⟩) (by show 0 + _ ≤ 1000000; omega)
  exact ee_comp h1 hi q1 q2
theorem es_enum {e : IE} {m : MV} {d : PyData} {ds : List PyData} (h : evE Φ e ms = some (m, ms1)) (f : m.frz = some d) (s : seqOf d = some ds) : evI Φ (.enum e) ms = some (ds.zipIdx.map fun p => .tuple [.int p.2, p.1], ms1) := by
  rw [evI, h, Option.bind_some]
  dsimp only
  rw [f, Option.bind_some, s]
  rfl
theorem es_zip {st : Bool} {a b : IE} {m m' : MV} {d d' : PyData} {ms2 : MEnv} {ds es : List PyData} (h : evE Φ a ms = some (m, ms1)) (h' : evE Φ b ms1 = some (m', ms2)) (f : m.frz = some d) (f' : m'.frz = some d') (s : seqOf d = some ds) (s' : seqOf d' = some es) (hl : ds.length = es.length) :
    evI Φ (.zip st a b) ms = some (List.zipWith (fun x y => .tuple [x, y]) ds es, ms2) := by
  rw [evI, h, Option.bind_some]
  dsimp only
  rw [h', Option.bind_some]
  dsimp only
  have e : frzAll [m, m'] = some [d, d'] := by rw [frzAll, f, Option.bind_some, frzAll, f', Option.bind_some]; rfl
  rw [e, Option.bind_some]
  have z : zipOf st [d, d'] = some (List.zipWith (fun x y => .tuple [x, y]) ds es) := by
    show ((seqOf d).bind fun ds => (seqOf d').bind fun es => if st = true ∧ ds.length ≠ es.length then none else some (List.zipWith (fun x y => PyData.tuple [x, y]) ds es)) = _
    rw [s, Option.bind_some, s', Option.bind_some, if_neg fun q => q.2 hl]
  rw [z]
  rfl
end
theorem zip_range {α : Type} (f g : Nat → PyData) (n : Nat) : List.zipWith (fun x y => PyData.tuple [x, y]) ((List.range n).map f) ((List.range n).map g) = (List.range n).map fun i => .tuple [f i, g i] := by
  rw [List.zipWith_map, List.zipWith_self]
theorem enum_range (f : Nat → PyData) (n : Nat) : (((List.range n).map f).zipIdx.map fun p => PyData.tuple [.int p.2, p.1]) = (List.range n).map fun (i : Nat) => .tuple [.int i, f i] := by
  apply List.ext_getElem?
  intro i
  rw [List.getElem?_map, List.getElem?_zipIdx, List.getElem?_map, List.getElem?_map]
  by_cases h : i < n
  · rw [List.getElem?_range h]
    show some _ = some _
    rw [Nat.zero_add]
  · rw [List.getElem?_eq_none (by simpa using h)]; rfl
theorem at_range (f : Nat → PyData) {n i : Nat} (h : i < n) : L2.atI ((List.range n).map f) (i : Int) = some (f i) := atI_nat (by rw [List.getElem?_map, List.getElem?_range h]; rfl)
theorem cut_to {α : Type} (xs : List α) (i : Nat) : cutL xs none (some (i : Int)) = xs.take i := by
  unfold cutL
  rw [HT.sIx_none, HT.sIx_nat, List.drop_zero, Nat.sub_zero]
  by_cases h : i ≤ xs.length
  · rw [Nat.min_eq_left h]
  · rw [Nat.min_eq_right (by omega), List.take_of_length_le (Nat.le_refl _), List.take_of_length_le (by omega)]
theorem cut_from {α : Type} (xs : List α) (i : Nat) : cutL xs (some (i : Int)) none = xs.drop i := by
  unfold cutL
  rw [HT.sIx_none, HT.sIx_nat]
  by_cases h : i ≤ xs.length
  · rw [Nat.min_eq_left h]
    exact List.take_of_length_le (by rw [List.length_drop]; exact Nat.le_refl _)
  · rw [Nat.min_eq_right (by omega), Nat.sub_self, List.take_zero, List.drop_of_length_le (by omega)]
theorem drop_range (f : Nat → PyData) (n i : Nat) : ((List.range n).map f).drop i = (List.range (n - i)).map fun j => f (i + j) := by
  apply List.ext_getElem?
  intro j
  rw [List.getElem?_drop, List.getElem?_map, List.getElem?_map]
  by_cases h : i + j < n
  · rw [List.getElem?_range h, List.getElem?_range (by omega)]; rfl
  · rw [List.getElem?_eq_none (by simpa using h), List.getElem?_eq_none (by simp; omega)]; rfl
theorem take_range (f : Nat → PyData) {n i : Nat} (h : i ≤ n) : ((List.range n).map f).take i = (List.range i).map f := by
  rw [← List.map_take, List.take_range, Nat.min_eq_left h]
/-- a comprehension whose parts draw from the source -/
theorem compL_src {put : PyData → MEnv → Option MEnv} {cond : MEnv → Res Bool} {elt : MEnv → Res MV} {own : List Nat} (St : MV → MEnv) (Q : PyData → Prop) : ∀ (ds : List PyData) (s : MV) (acc : List MV), IsSrc s →
    (∀ d ∈ ds, ∀ s, IsSrc s → ∃ m1 m m3 s' d', put d (St s) = some m1 ∧ cond m1 = some (true, m1) ∧ elt m1 = some (m, m3) ∧ m.frz = some d' ∧ Q d' ∧ IsSrc s' ∧ wipeM m3 own = St s') → acc.length + ds.length ≤ lim →
    ∃ s' rs es, IsSrc s' ∧ compL put cond elt own ds (St s) acc = some (acc ++ rs, St s') ∧ frzAll rs = some es ∧ es.length = ds.length ∧ ∀ d ∈ es, Q d
  | [], s, acc, hs, _, _ => ⟨s, [], [], hs, by rw [compL, List.append_nil], rfl, rfl, fun _ h => by cases h⟩
  | d :: ds, s, acc, hs, hx, hl => by
    obtain ⟨m1, m, m3, s1, d', e1, e2, e3, e4, hq, h1, e5⟩ := hx d List.mem_cons_self s hs
    rw [List.length_cons] at hl
    obtain ⟨s', rs, es, h2, q1, q2, q3, q4⟩ := compL_src St Q ds s1 (acc ++ [m]) h1 (fun d hd => hx d (List.mem_cons_of_mem _ hd)) (by rw [List.length_append, List.length_singleton]; omega)
    refine ⟨s', m :: rs, d' :: es, h2, ?_, ?_, by rw [List.length_cons, List.length_cons, q3], fun x hx => ?_⟩
    · unfold compL
      rw [e1, Option.bind_some, e2, Option.bind_some]
      dsimp only
      rw [if_pos rfl, e3, Option.bind_some]
      dsimp only
      rw [if_pos (by omega), e5, q1, List.append_assoc]
      rfl
    · rw [frzAll, e4, Option.bind_some, q2]
      rfl
    · rcases List.mem_cons.mp hx with rfl | hx
      · exact hq
      · exact q4 x hx
theorem ee_compS {Φ : Funs} {own : List Nat} {tg : NT} {it : II} {elt : IE} (St : MV → MEnv) (Q : PyData → Prop) {s s0 : MV} (hs : IsSrc s) {ds : List PyData} (h1 : evI Φ it (St s0) = some (ds, St s)) (hi : idle (St s) own = true) (hw : wipeM (St s) own = St s) (hb : ∀ s', backM (St s) (St s') own = St s') (hl : ds.length ≤ 1000000)
    (hx : ∀ d ∈ ds, ∀ s, IsSrc s → ∃ m1 m m3 s' d', tg.put d (St s) = some m1 ∧ evE Φ elt m1 = some (m, m3) ∧ m.frz = some d' ∧ Q d' ∧ IsSrc s' ∧ wipeM m3 own = St s') :
    ∃ s' es, IsSrc s' ∧ evE Φ (.comp false own tg it none elt) (St s0) = some (.ls es, St s') ∧ es.length = ds.length ∧ ∀ d ∈ es, Q d := by
  obtain ⟨s', rs, es, h2, q1, q2, q3, q4⟩ := compL_src (put := tg.put) (cond := fun ms => evC Φ none ms) (elt := fun ms => evE Φ elt ms) (own := own) St Q ds s [] hs (fun d hd s hs => by
    obtain ⟨m1, m, m3, s', d', e1, e2, e3, e4, e5, e6⟩ := hx d hd s hs
    exact ⟨m1, m, m3, s', d', e1, by show evC Φ none m1 = _; rw [evC], e2, e3, e4, e5, e6⟩) (by show 0 + _ ≤ 1000000; omega)
  rw [List.nil_append] at q1
  rw [← hw] at q1
  have z := ee_comp h1 hi q1 q2
  rw [hb] at z
  exact ⟨s', es, h2, z, q3, q4⟩
theorem all_of {α : Type} {g : α → PyData} {P : α → Prop} : ∀ {es : List PyData}, (∀ d ∈ es, ∃ a, d = g a ∧ P a) → ∃ as : List α, es = as.map g ∧ ∀ a ∈ as, P a
  | [], _ => ⟨[], rfl, fun _ h => by cases h⟩
  | e :: es, h => by
    obtain ⟨a, rfl, ha⟩ := h e List.mem_cons_self
    obtain ⟨as, rfl, hs⟩ := all_of (es := es) fun x hx => h x (List.mem_cons_of_mem _ hx)
    refine ⟨a :: as, rfl, fun x hx => ?_⟩
    rcases List.mem_cons.mp hx with rfl | hx
    · exact ha
    · exact hs x hx
end Rx
/-! determinants over the rationals, by columns; what elimination and the sum over all rows of places ask of them. -/
namespace Det
def sg (n : Nat) : Rat := if n % 2 = 0 then 1 else -1
theorem sg_succ (n : Nat) : sg (n + 1) = - sg n := by
  unfold sg
  by_cases h : n % 2 = 0
  · rw [if_neg (by omega), if_pos h]
  · rw [if_pos (by omega), if_neg h]; grind
theorem sg_zero : sg 0 = 1 := rfl
theorem sg_add (a : Nat) : ∀ b, sg (a + b) = sg a * sg b
  | 0 => by rw [Nat.add_zero, sg_zero]; grind
  | b + 1 => by rw [← Nat.add_assoc, sg_succ, sg_add a b, sg_succ]; grind
theorem sg_sq (a : Nat) : sg a * sg a = 1 := by
  unfold sg
  split <;> grind
def sm : Nat → (Nat → Rat) → Rat
  | 0, _ => 0
  | n + 1, f => sm n f + f n
theorem sm_congr : ∀ {n : Nat} {f g : Nat → Rat}, (∀ i, i < n → f i = g i) → sm n f = sm n g
  | 0, _, _, _ => rfl
  | n + 1, f, g, h => by
    unfold sm
    rw [sm_congr fun i hi => h i (by omega), h n (by omega)]
theorem sm_zero : ∀ (n : Nat), sm n (fun _ => 0) = 0
  | 0 => rfl
  | n + 1 => by unfold sm; rw [sm_zero n]; grind
theorem sm_add : ∀ (n : Nat) (f g : Nat → Rat), sm n (fun i => f i + g i) = sm n f + sm n g
  | 0, _, _ => by unfold sm; grind
  | n + 1, f, g => by
    show sm n (fun i => f i + g i) + (f n + g n) = (sm n f + f n) + (sm n g + g n)
    rw [sm_add n f g]; grind
theorem sm_mul (t : Rat) : ∀ (n : Nat) (f : Nat → Rat), sm n (fun i => t * f i) = t * sm n f
  | 0, _ => by unfold sm; grind
  | n + 1, f => by
    show sm n (fun i => t * f i) + t * f n = t * (sm n f + f n)
    rw [sm_mul t n f]; grind
theorem sm_swap (m : Nat) : ∀ (n : Nat) (f : Nat → Nat → Rat), sm n (fun i => sm m (f i)) = sm m (fun j => sm n fun i => f i j)
  | 0, f => by
    show (0 : Rat) = sm m fun _ => 0
    rw [sm_zero]
  | n + 1, f => by
    show sm n (fun i => sm m (f i)) + sm m (f n) = sm m fun j => (sm n fun i => f i j) + f n j
    rw [sm_swap m n f, ← sm_add]
/-- the first term apart -/
theorem sm_head : ∀ (n : Nat) (f : Nat → Rat), sm (n + 1) f = f 0 + sm n fun i => f (i + 1)
  | 0, f => by show (0 : Rat) + f 0 = f 0 + 0; grind
  | n + 1, f => by
    show sm (n + 1) f + f (n + 1) = f 0 + (sm n (fun i => f (i + 1)) + f (n + 1))
    rw [sm_head n f]; grind
/-- all but two neighbours -/
theorem sm_two {n k : Nat} {f : Nat → Rat} (hk : k + 1 < n) (h : ∀ i, i < n → i ≠ k → i ≠ k + 1 → f i = 0) (h2 : f k + f (k + 1) = 0) : sm n f = 0 := by
  induction n with
  | zero => omega
  | succ n ih =>
    unfold sm
    by_cases e : k + 1 = n
    · subst e
      unfold sm
      have z : sm k f = 0 := by
        rw [sm_congr (g := fun _ => 0) fun i hi => h i (by omega) (by omega) (by omega), sm_zero]
      rw [z]; grind
    · rw [ih (by omega) fun i hi => h i (by omega), h n (by omega) (by omega) (by omega)]; grind
/-- all but one -/
theorem sm_one {n k : Nat} {f : Nat → Rat} (hk : k < n) (h : ∀ i, i < n → i ≠ k → f i = 0) : sm n f = f k := by
  induction n with
  | zero => omega
  | succ n ih =>
    unfold sm
    by_cases e : k = n
    · subst e
      rw [sm_congr (g := fun _ => 0) fun i hi => h i (by omega) (by omega), sm_zero]; grind
    · rw [ih (by omega) fun i hi => h i (by omega), h n (by omega) (by omega)]; grind
abbrev Mat := Nat → Nat → Rat
def sk (i r : Nat) : Nat := if r < i then r else r + 1
def mn (A : Mat) (i : Nat) : Mat := fun r c => A (sk i r) (c + 1)
def det : Nat → Mat → Rat
  | 0, _ => 1
  | n + 1, A => sm (n + 1) fun i => sg i * A i 0 * det n (mn A i)
theorem sk_lt {n i r : Nat} (hr : r < n) (hi : i < n + 1) : sk i r < n + 1 := by unfold sk; split <;> omega
theorem sk_ne (i r : Nat) : sk i r ≠ i := by unfold sk; split <;> omega
theorem det_congr : ∀ {n : Nat} {A B : Mat}, (∀ r c, r < n → c < n → A r c = B r c) → det n A = det n B
  | 0, _, _, _ => rfl
  | n + 1, A, B, h => by
    unfold det
    refine sm_congr fun i hi => ?_
    rw [h i 0 hi (by omega), det_congr (A := mn A i) (B := mn B i) fun r c hr hc => h _ _ (sk_lt hr hi) (by omega)]
/-- a row changed -/
def up (A : Mat) (k : Nat) (x : Nat → Rat) : Mat := fun r c => if r = k then x c else A r c
theorem mn_up_same (A : Mat) (k : Nat) (x : Nat → Rat) : mn (up A k x) k = mn A k := by
  funext r c
  unfold mn up
  rw [if_neg (sk_ne k r)]
/-- where row k stands when row i is gone -/
def lo (i k : Nat) : Nat := if k < i then k else k - 1
theorem sk_eq {i k r : Nat} (h : i ≠ k) : sk i r = k ↔ r = lo i k := by
  unfold sk lo
  split <;> split <;> omega
theorem mn_up (A : Mat) {i k : Nat} (h : i ≠ k) (x : Nat → Rat) : mn (up A k x) i = up (mn A i) (lo i k) fun c => x (c + 1) := by
  funext r c
  show (if sk i r = k then x (c + 1) else A (sk i r) (c + 1)) = if r = lo i k then x (c + 1) else A (sk i r) (c + 1)
  by_cases q : sk i r = k
  · rw [if_pos q, if_pos ((sk_eq h).mp q)]
  · rw [if_neg q, if_neg fun z => q ((sk_eq h).mpr z)]
theorem det_lin : ∀ {n k : Nat} (A : Mat) (x y : Nat → Rat) (t : Rat), k < n → det n (up A k fun c => x c + t * y c) = det n (up A k x) + t * det n (up A k y)
  | 0, _, _, _, _, _, h => by omega
  | n + 1, k, A, x, y, t, h => by
    unfold det
    rw [← sm_mul, ← sm_add]
    refine sm_congr fun i hi => ?_
    by_cases e : i = k
    · subst e
      rw [mn_up_same, mn_up_same, mn_up_same]
      have z : ∀ w : Nat → Rat, up A i w i 0 = w 0 := fun w => by unfold up; rw [if_pos rfl]
      rw [z, z, z]; grind
    · have hl : lo i k < n := by unfold lo; split <;> omega
      rw [mn_up A e, mn_up A e, mn_up A e, det_lin (mn A i) _ _ t hl]
      have z : ∀ w : Nat → Rat, up A k w i 0 = A i 0 := fun w => by unfold up; rw [if_neg e]
      rw [z, z, z]; grind
/-- two neighbours alike -/
theorem det_alt : ∀ {n k : Nat} (A : Mat), k + 1 < n → (∀ c, A k c = A (k + 1) c) → det n A = 0
  | 0, _, _, h, _ => by omega
  | n + 1, k, A, h, e => by
    unfold det
    refine sm_two h (fun i hi h1 h2 => ?_) ?_
    · have z : det n (mn A i) = 0 := by
        rcases Nat.lt_or_gt_of_ne h1 with q | q
        · refine det_alt (k := k - 1) _ (by omega) fun c => ?_
          unfold mn sk
          rw [if_neg (by omega), if_neg (by omega), show k - 1 + 1 = k by omega]
          exact e _
        · refine det_alt (k := k) _ (by omega) fun c => ?_
          unfold mn sk
          rw [if_pos (by omega), if_pos (by omega)]
          exact e _
      rw [z]; grind
    · have z : mn A k = mn A (k + 1) := by
        funext r c
        unfold mn sk
        by_cases q1 : r < k
        · rw [if_pos q1, if_pos (by omega)]
        · by_cases q2 : r < k + 1
          · have : r = k := by omega
            subst this
            rw [if_neg q1, if_pos q2]
            exact (e _).symm
          · rw [if_neg q1, if_neg q2]
      rw [z, e 0, sg_succ]; grind
/-- two neighbours exchanged -/
def sw (A : Mat) (k : Nat) : Mat := fun r c => if r = k then A (k + 1) c else if r = k + 1 then A k c else A r c
theorem up_self (A : Mat) (k : Nat) : up A k (A k) = A := by
  funext r c
  unfold up
  split
  · subst_vars; rfl
  · rfl
theorem det_sw {n k : Nat} (A : Mat) (h : k + 1 < n) : det n (sw A k) = - det n A := by
  let u := A k
  let v := A (k + 1)
  let F := fun (x y : Nat → Rat) => det n (up (up A (k + 1) y) k x)
  have swp : ∀ x y, up (up A (k + 1) y) k x = up (up A k x) (k + 1) y := fun x y => by
    funext r c
    unfold up
    by_cases q1 : r = k
    · rw [if_pos q1, if_neg (by omega), if_pos q1]
    · rw [if_neg q1]
      by_cases q2 : r = k + 1
      · rw [if_pos q2, if_pos q2]
      · rw [if_neg q2, if_neg q2, if_neg q1]
  have alt : ∀ x, F x x = 0 := fun x => det_alt _ h fun c => by
    unfold up
    rw [if_pos rfl, if_neg (by omega), if_pos rfl]
  have l1 : ∀ x x' y, F (fun c => x c + 1 * x' c) y = F x y + 1 * F x' y := fun x x' y => det_lin _ _ _ _ (by omega)
  have l2 : ∀ x y y', F x (fun c => y c + 1 * y' c) = F x y + 1 * F x y' := fun x y y' => by
    show det n (up (up A (k + 1) fun c => y c + 1 * y' c) k x) = det n (up (up A (k + 1) y) k x) + 1 * det n (up (up A (k + 1) y') k x)
    rw [swp, swp, swp]
    exact det_lin _ _ _ _ h
  have e1 : F u v = det n A := by
    show det n (up (up A (k + 1) (A (k + 1))) k (A k)) = _
    rw [up_self, up_self]
  have e2 : F v u = det n (sw A k) := by
    refine det_congr fun r c _ _ => ?_
    show (if r = k then v c else if r = k + 1 then u c else A r c) = (if r = k then v c else if r = k + 1 then u c else A r c)
    rfl
  have z := alt fun c => u c + 1 * v c
  rw [l1, l2, l2, alt u, alt v, e1, e2] at z
  grind
/-- row h brought to the front -/
def fr (A : Mat) (h : Nat) : Mat := fun r c => if r = 0 then A h c else if r ≤ h then A (r - 1) c else A r c
theorem fr_succ (A : Mat) (h : Nat) : fr A (h + 1) = fr (sw A h) h := by
  funext r c
  unfold fr sw
  by_cases q0 : r = 0
  · rw [if_pos q0, if_pos q0, if_pos rfl]
  · rw [if_neg q0, if_neg q0]
    by_cases q1 : r ≤ h
    · rw [if_pos (by omega), if_pos q1, if_neg (by omega), if_neg (by omega)]
    · rw [if_neg q1]
      by_cases q2 : r = h + 1
      · rw [if_pos (by omega), if_neg (by omega), if_pos q2, show r - 1 = h by omega]
      · rw [if_neg (by omega), if_neg (by omega), if_neg q2]
theorem fr_zero (A : Mat) : fr A 0 = A := by
  funext r c
  unfold fr
  by_cases q : r = 0
  · rw [if_pos q, q]
  · rw [if_neg q, if_neg (by omega)]
theorem det_fr {n : Nat} : ∀ (h : Nat) (A : Mat), h < n → det n (fr A h) = sg h * det n A
  | 0, A, _ => by rw [fr_zero, sg_zero]; grind
  | h + 1, A, hh => by rw [fr_succ, det_fr h (sw A h) (by omega), det_sw A hh, sg_succ]; grind
/-- two rows alike, the first and another -/
theorem det_two : ∀ {n k : Nat} (A : Mat), k + 1 < n → (∀ c, A 0 c = A (k + 1) c) → det n A = 0
  | n, 0, A, h, e => det_alt A h e
  | n, k + 1, A, h, e => by
    have z := det_sw A (n := n) (k := k + 1) h
    have y := det_two (n := n) (k := k) (sw A (k + 1)) (by omega) fun c => by
      unfold sw
      rw [if_neg (by omega), if_neg (by omega), if_pos rfl]
      exact e c
    rw [y] at z
    grind
/-- a multiple of the first row taken from another -/
theorem det_take {n k : Nat} (A : Mat) (t : Rat) (h : k + 1 < n) : det n (up A (k + 1) fun c => A (k + 1) c + t * A 0 c) = det n A := by
  have l := det_lin (n := n) (k := k + 1) A (A (k + 1)) (A 0) t h
  have z : det n (up A (k + 1) (A 0)) = 0 := det_two _ h fun c => by
    unfold up
    rw [if_neg (by omega), if_pos rfl]
  rw [l, up_self, z]; grind
/-- multiples of the first row taken from all the others -/
theorem det_takes {n : Nat} (A : Mat) (t : Nat → Rat) : ∀ m, m < n → det n (fun r c => if r = 0 then A 0 c else if r ≤ m then A r c + t r * A 0 c else A r c) = det n A
  | 0, _ => det_congr fun r c _ _ => by
    by_cases q : r = 0
    · rw [if_pos q, q]
    · rw [if_neg q, if_neg (by omega)]
  | m + 1, h => by
    rw [← det_takes A t m (by omega), ← det_take (n := n) (k := m) (fun r c => if r = 0 then A 0 c else if r ≤ m then A r c + t r * A 0 c else A r c) (t (m + 1)) h]
    refine det_congr fun r c _ _ => ?_
    unfold up
    dsimp only
    by_cases q0 : r = 0
    · subst q0
      simp
    · by_cases q1 : r = m + 1
      · subst q1
        simp [show ¬ m + 1 ≤ m by omega]
      · by_cases q2 : r ≤ m
        · simp [q0, q1, q2, show r ≤ m + 1 by omega]
        · simp [q0, q1, q2, show ¬ r ≤ m + 1 by omega]
/-- nothing below the first item of the first column -/
theorem det_corner {n : Nat} (A : Mat) (h : ∀ r, 0 < r → r < n + 1 → A r 0 = 0) : det (n + 1) A = A 0 0 * det n fun r c => A (r + 1) (c + 1) := by
  show sm (n + 1) (fun i => sg i * A i 0 * det n (mn A i)) = _
  rw [sm_one (k := 0) (by omega) fun i hi h0 => by rw [h i (by omega) hi]; grind]
  have z : mn A 0 = fun r c => A (r + 1) (c + 1) := by
    funext r c
    unfold mn sk
    rw [if_neg (by omega)]
  rw [z, sg_zero]; grind
/-- no item in the first column -/
theorem det_none {n : Nat} (A : Mat) (h : ∀ r, r < n + 1 → A r 0 = 0) : det (n + 1) A = 0 := by
  show sm (n + 1) (fun i => sg i * A i 0 * det n (mn A i)) = _
  rw [sm_congr (g := fun _ => 0) fun i hi => by rw [h i hi]; grind, sm_zero]
/-- one turn of elimination: row h to the front, its multiples taken from the others -/
theorem det_turn {n h : Nat} (A : Mat) (hh : h < n + 1) (h0 : A h 0 ≠ 0) : det (n + 1) A = sg h * A h 0 * det n fun r c => A (sk h r) (c + 1) - A (sk h r) 0 / A h 0 * A h (c + 1) := by
  have e1 := det_fr (n := n + 1) h A hh
  let B := fr A h
  have b0 : ∀ c, B 0 c = A h c := fun c => by show fr A h 0 c = _; unfold fr; rw [if_pos rfl]
  have bs : ∀ r c, B (r + 1) c = A (sk h r) c := fun r c => by
    show fr A h (r + 1) c = _
    unfold fr sk
    rw [if_neg (by omega)]
    by_cases q : r < h
    · rw [if_pos (by omega), if_pos q, show r + 1 - 1 = r by omega]
    · rw [if_neg (by omega), if_neg q]
  have e2 := det_takes (n := n + 1) B (fun r => - (B r 0 / B 0 0)) n (by omega)
  have e3 := det_corner (n := n) (fun r c => if r = 0 then B 0 c else if r ≤ n then B r c + - (B r 0 / B 0 0) * B 0 c else B r c) fun r h1 h2 => by
    rw [if_neg (by omega), if_pos (by omega)]
    have : B 0 0 ≠ 0 := by rw [b0]; exact h0
    grind
  have e4 : det (n + 1) B = sg h * det (n + 1) A := e1
  rw [e3] at e2
  have e5 : (det n fun r c => if r + 1 = 0 then B 0 (c + 1) else if r + 1 ≤ n then B (r + 1) (c + 1) + - (B (r + 1) 0 / B 0 0) * B 0 (c + 1) else B (r + 1) (c + 1)) = det n fun r c => A (sk h r) (c + 1) - A (sk h r) 0 / A h 0 * A h (c + 1) := by
    refine det_congr fun r c hr hc => ?_
    rw [if_neg (by omega), if_pos (by omega), bs, bs, b0, b0]
    grind
  rw [if_pos rfl, e5, b0] at e2
  have sq := sg_sq h
  grind
/-! ### by the first row -/
def rm (A : Mat) (j : Nat) : Mat := fun r c => A (r + 1) (sk j c)
/-- first column, then first row, or the other way round: one minor -/
theorem mn_rm (A : Mat) (i j : Nat) : mn (rm A (j + 1)) i = rm (mn A (i + 1)) j := by
  funext r c
  show A (sk i r + 1) (sk (j + 1) (c + 1)) = A (sk (i + 1) (r + 1)) (sk j c + 1)
  have e1 : sk i r + 1 = sk (i + 1) (r + 1) := by unfold sk; split <;> split <;> omega
  have e2 : sk (j + 1) (c + 1) = sk j c + 1 := by unfold sk; split <;> split <;> omega
  rw [e1, e2]
theorem det_row : ∀ {n : Nat} (A : Mat), det (n + 1) A = sm (n + 1) fun j => sg j * A 0 j * det n (rm A j)
  | 0, A => by
    show sm 1 (fun i => sg i * A i 0 * 1) = sm 1 fun j => sg j * A 0 j * 1
    rfl
  | n + 1, A => by
    show sm (n + 2) (fun i => sg i * A i 0 * det (n + 1) (mn A i)) = _
    rw [sm_head (n + 1), sm_head (n + 1) fun j => sg j * A 0 j * det (n + 1) (rm A j)]
    have z0 : mn A 0 = rm A 0 := by
      funext r c
      unfold mn rm sk
      rw [if_neg (by omega), if_neg (by omega)]
    rw [z0]
    congr 1
    have l : ∀ i, i < n + 1 → sg (i + 1) * A (i + 1) 0 * det (n + 1) (mn A (i + 1)) = sm (n + 1) fun j => sg (i + 1) * A (i + 1) 0 * (sg j * A 0 (j + 1) * det n (rm (mn A (i + 1)) j)) := fun i _ => by
      rw [det_row (mn A (i + 1)), ← sm_mul]
      refine sm_congr fun j _ => ?_
      have : mn A (i + 1) 0 j = A 0 (j + 1) := by unfold mn sk; rw [if_pos (by omega)]
      rw [this]
    have r : ∀ j, j < n + 1 → sg (j + 1) * A 0 (j + 1) * det (n + 1) (rm A (j + 1)) = sm (n + 1) fun i => sg (i + 1) * A (i + 1) 0 * (sg j * A 0 (j + 1) * det n (rm (mn A (i + 1)) j)) := fun j _ => by
      show sg (j + 1) * A 0 (j + 1) * sm (n + 1) (fun i => sg i * rm A (j + 1) i 0 * det n (mn (rm A (j + 1)) i)) = _
      rw [← sm_mul]
      refine sm_congr fun i _ => ?_
      have : rm A (j + 1) i 0 = A (i + 1) 0 := by unfold rm sk; rw [if_pos (by omega)]
      rw [this, mn_rm, sg_succ, sg_succ]
      grind
    rw [sm_congr l, sm_congr r, sm_swap]
end Det
/-! Rx, for the plain laws: tables of fractions. -/
namespace Rx
open PySem Det
def frow (s : Nat) (f : Nat → Rat) : List PyData := (List.range s).map fun c => frD (f c)
def linesD (m s : Nat) (A : Mat) : List PyData := (List.range m).map fun r => PyData.list (frow s (A r))
theorem ne_zero (a : Rat) : s_ne [.int a.num, .int 0] = some (.bool (decide (a ≠ 0))) := by
  have e : (a.num == 0) = decide (a.num = 0) := by by_cases h : a.num = 0 <;> simp [h]
  have z : decide (a ≠ 0) = !decide (a.num = 0) := by
    by_cases h : a = 0
    · rw [h]; rfl
    · have : a.num ≠ 0 := num_ne h
      simp [h, this]
  rw [z]
  simp [s_ne, eqD, sh_int, PyData.eqv, e]
theorem neg_fr (a : Rat) : PyData.tuple [.int (-a.num), .int (a.den : Int)] = frD (-a) := by
  unfold frD
  rw [Rat.neg_num, Rat.neg_den]
theorem fz_neg {n : Nat} {a : Rat} (h : fz n a) : fz n (-a) := by
  refine ⟨?_, ?_⟩
  · have := h.num; unfold sz at *; rw [Rat.neg_num, Int.natAbs_neg]; exact this
  · rw [Rat.neg_den]; exact h.den
section
variable {Φ : Funs} {ms ms1 ms2 : MEnv}
theorem ee_opk2 {o : Op} {i : Nat} {b : IE} {m m0 m' r : MV} {d1 d2 d : PyData} (nb : isPk b = false) (h0 : ms[i]?.join = some m0) (hb : evE Φ b ms = some (m', ms2)) (h : ms2[i]?.join = some m) (p : m.pk = some d1) (f : m'.frz = some d2) (s : opSem o [d1, d2] = some d) (hr : madeBy o d = r) : evE Φ (.op o [.pk i, b]) ms = some (r, ms2) := by
  rw [← hr]
  refine ee_op (evEs_cons (ee_pk h0) (evEs_cons hb evEs_nil)) ?_ s
  unfold seen
  rw [h, Option.bind_some, p, Option.bind_some, seen_it nb f, seen_nil]
  rfl
theorem ee_ix {a : IE} {i : Nat} {m : MV} {d1 d : PyData} (n : isPk a = false) (h1 : evE Φ a ms = some (m, ms1)) (f1 : m.frz = some d1) (h : s_ix [d1, .int (i : Nat)] = some d) : evE Φ (.op .ix [a, .cst (.int (i : Nat))]) ms = some (.val d, ms1) :=
  ee_op2r (o := .ix) n rfl h1 ee_cst f1 rfl h rfl
end
theorem ix_fr0 (a : Rat) : s_ix [frD a, .int ((0 : Nat) : Int)] = some (.int a.num) := rfl
theorem ix_fr1 (a : Rat) : s_ix [frD a, .int ((1 : Nat) : Int)] = some (.int (a.den : Int)) := rfl
theorem ix_frow {s i : Nat} (f : Nat → Rat) (h : i < s) : s_ix [.list (frow s f), .int (i : Nat)] = some (frD (f i)) := at_range _ h
theorem ix_lines {m s r : Nat} (A : Mat) (h : r < m) : s_ix [.list (linesD m s A), .int (r : Nat)] = some (.list (frow s (A r))) := at_range (fun r => PyData.list (frow s (A r))) h
theorem range_sk (f : Nat → PyData) {m h : Nat} (hh : h < m + 1) : ((List.range (m + 1)).map f).take h ++ ((List.range (m + 1)).map f).drop (h + 1) = (List.range m).map fun r => f (sk h r) := by
  rw [take_range f (by omega), drop_range]
  apply List.ext_getElem?
  intro i
  rw [List.getElem?_append, List.length_map, List.length_range]
  by_cases q : i < h
  · rw [if_pos q, List.getElem?_map, List.getElem?_map, List.getElem?_range q, List.getElem?_range (by omega)]
    show some (f i) = some (f (sk h i))
    unfold sk
    rw [if_pos q]
  · rw [if_neg q, List.getElem?_map, List.getElem?_map]
    by_cases q2 : i < m
    · rw [List.getElem?_range (by omega), List.getElem?_range q2]
      show some (f (h + 1 + (i - h))) = some (f (sk h i))
      unfold sk
      rw [if_neg q, show h + 1 + (i - h) = i + 1 by omega]
    · rw [List.getElem?_eq_none (by simp; omega), List.getElem?_eq_none (by simpa using q2)]
      rfl
theorem lay_lines (m s : Nat) (A : Mat) : Lay (linesD m s A) := by
  intro d hd
  obtain ⟨r, _, rfl⟩ := List.mem_map.mp hd
  have e : ∀ xs : List Nat, PyData.canLayAll0 (xs.map fun c => frD (A r c)) = true ∧ PyData.depthAll (xs.map fun c => frD (A r c)) ≤ 1 := fun xs => by
    induction xs with
    | nil => exact ⟨rfl, by simp [PyData.depthAll]⟩
    | cons x xs ih =>
      refine ⟨?_, ?_⟩
      · show (PyData.canLay0 (frD (A r x)) && PyData.canLayAll0 (xs.map fun c => frD (A r c))) = true
        rw [ih.1]; simp [frD, PyData.canLay0, PyData.canLayAll0]
      · have : PyData.depth (frD (A r x)) ≤ 1 := by simp [frD, PyData.depth, PyData.depthAll]
        have := ih.2
        simp only [List.map_cons, PyData.depthAll]
        omega
  obtain ⟨e1, e2⟩ := e (List.range s)
  refine ⟨e1, ?_⟩
  have : PyData.depth (.list (frow s (A r))) = PyData.depthAll (frow s (A r)) + 1 := rfl
  have e2 : PyData.depthAll (frow s (A r)) ≤ 1 := e2
  omega
theorem map_range {α β : Type} [Inhabited α] (f : α → β) (xs : List α) : xs.map f = (List.range xs.length).map fun i => f xs[i]! := by
  apply List.ext_getElem?
  intro i
  rw [List.getElem?_map, List.getElem?_map]
  by_cases h : i < xs.length
  · rw [List.getElem?_range h, List.getElem?_eq_getElem h]
    show some (f xs[i]) = some (f xs[i]!)
    rw [List.getElem!_eq_getElem?_getD, List.getElem?_eq_getElem h]
    rfl
  · rw [List.getElem?_eq_none (by simpa using h), List.getElem?_eq_none (by simpa using h)]
    rfl
theorem mem_at {xs : List Nat} {i : Nat} (h : i < xs.length) : xs[i]! ∈ xs := by
  rw [List.getElem!_eq_getElem?_getD, List.getElem?_eq_getElem h]
  exact List.getElem_mem h
theorem mod_two (h : Nat) : s_mod [.int (h : Nat), .int 2] = some (.int ((h % 2 : Nat) : Int)) := by
  show (if (2 : Int) ≠ 0 then some (PyData.int ((h : Int).fmod 2)) else none) = _
  rw [if_pos (by decide), Int.fmod_eq_emod_of_nonneg _ (by decide)]
  rfl
theorem gt_nat (i j : Nat) : s_gt [.int (i : Nat), .int (j : Nat)] = some (.bool (decide (j < i))) := by
  show some (PyData.bool (decide ((j : Int) < (i : Int)))) = _
  congr 2
  exact decide_eq_decide.mpr (by omega)
theorem dl_snoc (u : List Nat) (j : Nat) : dl u ++ [PyData.int (j : Nat)] = dl (u ++ [j]) := by unfold dl; rw [List.map_append]; rfl
theorem sm_fr {r : Rat} (h : fz 1000 r) : Sm 2013 1 (frD r) := by
  obtain ⟨a1, a2, a3, a4⟩ := show_fr h
  exact ⟨a1, a2, a3, a4, by simp [frD, PyData.canLay0, PyData.canLayAll0]⟩
theorem sz2 {i : Int} (h : -3 ≤ i ∧ i ≤ 3) : sz 2 i := by unfold sz; omega
abbrev FrN (n : Nat) (d : PyData) : Prop := ∃ a, d = frD a ∧ fz n a
abbrev seqF (t : Bool) (xs : List PyData) : PyData := if t = true then .tuple xs else .list xs
theorem seq_F (t : Bool) (xs : List PyData) : seqOf (seqF t xs) = some xs := by cases t <;> rfl
theorem toLst_F (t : Bool) (xs : List PyData) : s_toLst [seqF t xs] = some (.list xs) := by cases t <;> rfl
end Rx
/-! k56: the language of its text (printed by gen.py). -/
namespace K56
open PySem PySem.Spec PyProof.Rows L2 Rx
def top (i : Nat) : Stmt := PySem.Challenge.pw_rimnets_k56_whole_pairings_that_come.main.body.getD i (.Pass ⟨0, 0, 0, 0⟩)
/-! rim_size -/
def b0 : List IS :=
  [
    .ret false (.op .len [(.op .ix [(.op .ix [(.op .ix [(.var 0), (.cst (.int 0))]), (.cst (.int 2))]), (.cst (.int 0))])])]
def f0 : FD := ⟨1, 1, [], b0⟩
def e0 : Ent := ⟨"rim_size", ["rim"], ["rim"], top 1, f0⟩
/-! other_end -/
def b1 : List IS :=
  [
    .ret false (.op .sub [(.op .add [(.var 0), (.cst (.int 1))]), (.op .mul [(.cst (.int 2)), (.op .mod [(.var 0), (.cst (.int 2))])])])]
def f1 : FD := ⟨1, 1, [], b1⟩
def e1 : Ent := ⟨"other_end", ["end"], ["end"], top 6, f1⟩
/-! crossing_of -/
def b2 : List IS :=
  [
    .ret false (.op .ix [(.op .ix [(.op .ix [(.var 0), (.cst (.int 1))]), (.op .fdiv [(.var 1), (.cst (.int 2))])]), (.op .mod [(.var 1), (.cst (.int 2))])])]
def f2 : FD := ⟨2, 2, [], b2⟩
def e2 : Ent := ⟨"crossing_of", ["net", "end"], ["net", "end"], top 7, f2⟩
/-! place_in -/
def b3 : List IS :=
  [
    .asg false (.n 2) (.op .ix [(.op .ix [(.var 0), (.cst (.int 2))]), (.call 2 [(.var 0), (.var 1)])]),
    .ret false (.tup [(.var 2), (.op .index [(.var 2), (.var 1)])])]
def f3 : FD := ⟨2, 3, [], b3⟩
def e3 : Ent := ⟨"place_in", ["net", "end"], ["net", "end", "turn"], top 8, f3⟩
/-! next_end -/
def b4 : List IS :=
  [
    .asg false (.tp [(.n 2), (.n 3)]) (.call 3 [(.var 0), (.var 1)]),
    .ret false (.op .ix [(.var 2), (.op .mod [(.op .add [(.var 3), (.cst (.int 1))]), (.op .len [(.var 2)])])])]
def f4 : FD := ⟨2, 4, [], b4⟩
def e4 : Ent := ⟨"next_end", ["net", "end"], ["net", "end", "turn", "k"], top 9, f4⟩
/-! ahead_end -/
def b5 : List IS :=
  [
    .asg false (.tp [(.n 2), (.n 3)]) (.call 3 [(.var 0), (.var 1)]),
    .ret false (.op .ix [(.var 2), (.op .sub [(.var 3), (.cst (.int 1))])])]
def f5 : FD := ⟨2, 4, [], b5⟩
def e5 : Ent := ⟨"ahead_end", ["net", "end"], ["net", "end", "turn", "k"], top 10, f5⟩
/-! corner_of_place -/
def b6 : List IS :=
  [
    .asg false (.n 2) (.op .add [(.op .mul [(.cst (.int 2)), (.op .fdiv [(.var 1), (.cst (.int 2))])]), (.cst (.int 1))]),
    .ret false (.ite (.op .eq [(.op .mod [(.var 1), (.cst (.int 2))]), (.cst (.int 0))]) (.var 2) (.call 5 [(.var 0), (.var 2)]))]
def f6 : FD := ⟨2, 3, [], b6⟩
def e6 : Ent := ⟨"corner_of_place", ["net", "place"], ["net", "place", "end"], top 12, f6⟩
/-! strand_step -/
def b7 : List IS :=
  [
    .ite (.var 2)
      [
        .asg false (.n 3) (.call 4 [(.var 0), (.var 1)]),
        .ret false (.tup [(.op .fdiv [(.var 3), (.cst (.int 2))]), (.call 5 [(.var 0), (.call 1 [(.var 3)])]), (.cst (.bool false))])]
      [],
    .ret false (.tup [(.op .fdiv [(.var 1), (.cst (.int 2))]), (.call 1 [(.var 1)]), (.cst (.bool true))])]
def f7 : FD := ⟨3, 4, [], b7⟩
def e7 : Ent := ⟨"strand_step", ["net", "corner", "is_next"], ["net", "corner", "is_next", "end"], top 13, f7⟩
/-! strand_from -/
def w8_0 : IE :=
  (.op .ge [(.var 6), (.var 2)])
def l8_1 : List IS :=
  [
    .append 3 (.var 7),
    .append 4 (.var 6),
    .asg false (.n 5) (.var 8),
    .asg false (.tp [(.n 6), (.n 7), (.n 8)]) (.call 7 [(.var 0), (.var 7), (.var 5)])]
def b8 : List IS :=
  [
    .asg true (.tp [(.n 2), (.n 3), (.n 4), (.n 5)]) (.otup [(.op .len [(.op .ix [(.op .ix [(.var 0), (.cst (.int 2))]), (.cst (.int 0))])]), (.lst [(.call 6 [(.var 0), (.var 1)])]), (.lst []), (.op .eq [(.op .mod [(.var 1), (.cst (.int 2))]), (.cst (.int 0))])]),
    .asg false (.tp [(.n 6), (.n 7), (.n 8)]) (.call 7 [(.var 0), (.op .ix [.pk 3, (.cst (.int 0))]), (.var 5)]),
    .whl (2 ^ 20000) w8_0 l8_1,
    .ret false (.tup [(.tup [(.op .toTup [.pk 3]), (.op .toTup [.pk 4])]), (.op .add [(.op .mul [(.cst (.int 2)), (.var 6)]), (.op .int [(.var 5)])])])]
def f8 : FD := ⟨2, 9, [], b8⟩
def e8 : Ent := ⟨"strand_from", ["net", "place"], ["net", "place", "k", "corners", "roads", "is_next", "road", "late", "side"], top 14, f8⟩
/-! rim_strands -/
def l9_0 : List IS :=
  [
    .asg false (.tp [(.n 3), (.n 4)]) (.call 8 [(.op .ix [(.var 0), (.cst (.int 0))]), (.var 2)]),
    .ite (.op .lt [(.var 2), (.var 4)])
      [
        .append 1 (.var 3)]
      []]
def b9 : List IS :=
  [
    .asg true (.n 1) (.lst []),
    .for_ (.n 2) (.rng1 (.op .mul [(.cst (.int 2)), (.call 0 [(.var 0)])])) l9_0,
    .ret false (.op .toTup [.pk 1])]
def f9 : FD := ⟨1, 5, [], b9⟩
def e9 : Ent := ⟨"rim_strands", ["rim"], ["rim", "found", "place", "strand", "last"], top 15, f9⟩
/-! closed_strands -/
def t10_0 : IE :=
  (.tup [(.var 6), (.cst (.bool true))])
def l10_1 : List IS :=
  [
    .dupd 2 (.comp false [6] (.n 6) (.seq (.frz 4)) none t10_0)]
def w10_2 : IE :=
  (.op .nin [(.var 8), .pk 4])
def l10_3 : List IS :=
  [
    .append 4 (.var 8),
    .asg false (.tp [(.n 10), (.n 8), (.n 9)]) (.call 7 [(.var 1), (.var 8), (.var 9)]),
    .append 5 (.var 10)]
def t10_4 : IE :=
  (.tup [(.var 6), (.cst (.bool true))])
def l10_5 : List IS :=
  [
    .ite (.and_ (.inD true (.var 7) 2) (.op .ne [(.call 2 [(.var 1), (.var 7)]), (.cst (.int 0))]))
      [
        .asg true (.tp [(.n 4), (.n 5), (.n 8), (.n 9)]) (.otup [(.lst []), (.lst []), (.var 7), (.cst (.bool true))]),
        .whl (2 ^ 20000) w10_2 l10_3,
        .dupd 2 (.comp false [6] (.n 6) (.seq (.frz 4)) none t10_4),
        .append 3 (.tup [(.op .toTup [.pk 4]), (.op .toTup [.pk 5])])]
      []]
def b10 : List IS :=
  [
    .asg true (.tp [(.n 1), (.n 2), (.n 3)]) (.otup [(.op .ix [(.var 0), (.cst (.int 0))]), (.odct [] []), (.lst [])]),
    .for_ (.t [.n 4, .n 5]) (.seq (.call 9 [(.var 0)])) l10_1,
    .for_ (.n 7) (.rng1 (.op .mul [(.cst (.int 2)), (.op .len [(.op .ix [(.var 1), (.cst (.int 1))])])])) l10_5,
    .ret false (.op .toTup [.pk 3])]
def f10 : FD := ⟨1, 11, [], b10⟩
def e10 : Ent := ⟨"closed_strands", ["rim"], ["rim", "net", "met", "found", "corners", "roads", "corner", "first", "here", "is_next", "road"], top 16, f10⟩
/-! strand_pairing -/
def t11_0 : IE :=
  (.op .ix [(.call 8 [(.op .ix [(.var 0), (.cst (.int 0))]), (.var 1)]), (.cst (.int 1))])
def b11 : List IS :=
  [
    .ret false (.op .toTup [(.comp false [1] (.n 1) (.rng1 (.op .mul [(.cst (.int 2)), (.call 0 [(.var 0)])])) none t11_0)])]
def f11 : FD := ⟨1, 2, [], b11⟩
def e11 : Ent := ⟨"strand_pairing", ["rim"], ["rim", "place"], top 17, f11⟩
/-! road_twice -/
def q12_0 : IE :=
  (.op .eq [(.op .count [(.var 0), (.var 2)]), (.cst (.int 2))])
def t12_1 : IE :=
  (.var 2)
def b12 : List IS :=
  [
    .asg false (.n 1) (.comp false [2] (.n 2) (.seq (.var 0)) (some q12_0) t12_1),
    .ret false (.ite (.op .ne [(.var 1), (.lst [])]) (.op .min1 [(.var 1)]) (.cst .none))]
def f12 : FD := ⟨1, 3, [], b12⟩
def e12 : Ent := ⟨"road_twice", ["roads"], ["roads", "some", "road"], top 18, f12⟩
/-! well_paper -/
def l13_0 : List IS :=
  [
    .ite (.op .notN [(.call 12 [(.var 4)])])
      [
        .ret false (.tup [(.cst (.str "itself")), (.call 12 [(.var 4)])])]
      []]
def q13_1 : IE :=
  (.op .inn [(.var 9), (.var 7)])
def t13_2 : IE :=
  (.var 9)
def l13_3 : List IS :=
  [
    .asg false (.n 8) (.op .sorted [(.comp false [9] (.n 9) (.seq (.var 4)) (some q13_1) t13_2)]),
    .ite (.op .gt [(.op .len [(.var 8)]), (.cst (.int 1))])
      [
        .ret false (.tup [(.cst (.str "twice")), (.op .ix [(.var 8), (.cst (.int 0))]), (.op .ix [(.var 8), (.cst (.int 1))])])]
      []]
def l13_4 : List IS :=
  [
    .for_ (.t [.n 6, .n 7]) (.seq (.op (.sl false true) [(.var 2), (.var 5)])) l13_3]
def b13 : List IS :=
  [
    .asg true (.tp [(.n 1), (.n 2)]) (.otup [(.call 10 [(.var 0)]), (.call 9 [(.var 0)])]),
    .ite (.op .ne [(.var 1), (.tup [])])
      [
        .ret false (.tup [(.cst (.str "closed")), (.op .ix [(.op .ix [(.op .ix [(.var 1), (.cst (.int 0))]), (.cst (.int 0))]), (.cst (.int 0))])])]
      [],
    .for_ (.t [.n 3, .n 4]) (.seq (.var 2)) l13_0,
    .for_ (.t [.n 5, .t [.n 3, .n 4]]) (.enum (.var 2)) l13_4,
    .ret false (.tup [(.cst (.str "well"))])]
def f13 : FD := ⟨1, 10, [], b13⟩
def e13 : Ent := ⟨"well_paper", ["rim"], ["rim", "closed", "strands", "corners", "roads", "k", "others", "more", "both", "road"], top 19, f13⟩
/-! is_well_net -/
def b14 : List IS :=
  [
    .ret false (.op .eq [(.call 13 [(.var 0)]), (.tup [(.cst (.str "well"))])])]
def f14 : FD := ⟨1, 1, [], b14⟩
def e14 : Ent := ⟨"is_well_net", ["rim"], ["rim"], top 20, f14⟩
/-! crossing_pairs -/
def q15_0 : IE :=
  (.op .lt [(.var 3), (.var 4)])
def t15_1 : IE :=
  (.var 3)
def l15_2 : List IS :=
  [
    .ite (.chain3 .lt .lt .lt (.var 5) (.var 6) (.op .ix [(.var 0), (.var 5)]) (.op .ix [(.var 0), (.var 6)]))
      [
        .append 2 (.tup [(.var 5), (.var 6)])]
      []]
def l15_3 : List IS :=
  [
    .for_ (.n 6) (.seq (.frz 1)) l15_2]
def b15 : List IS :=
  [
    .asg true (.tp [(.n 1), (.n 2)]) (.otup [(.comp false [3, 4] (.t [.n 3, .n 4]) (.enum (.var 0)) (some q15_0) t15_1), (.lst [])]),
    .for_ (.n 5) (.seq (.frz 1)) l15_3,
    .ret false (.frz 2)]
def f15 : FD := ⟨1, 7, [], b15⟩
def e15 : Ent := ⟨"crossing_pairs", ["pairing"], ["pairing", "firsts", "found", "place", "last", "one", "other"], top 21, f15⟩
/-! is_parted -/
def q16_0 : IE :=
  (.inR true (.op .ix [(.var 0), (.var 4)]) 3)
def t16_1 : IE :=
  (.var 4)
def b16 : List IS :=
  [
    .asg false (.n 3) (.rngv (.op .add [(.op .mul [(.cst (.int 2)), (.var 1)]), (.cst (.int 1))]) (.op .add [(.op .mul [(.cst (.int 2)), (.var 2)]), (.cst (.int 1))])),
    .ret false (.op .ne [(.comp false [4] (.n 4) (.rngs 3) (some q16_0) t16_1), (.lst [])])]
def f16 : FD := ⟨3, 5, [], b16⟩
def e16 : Ent := ⟨"is_parted", ["pairing", "i", "j"], ["pairing", "i", "j", "some", "place"], top 23, f16⟩
/-! coming_paper -/
def l17_0 : List IS :=
  [
    .ite (.not_ (.call 16 [(.var 0), (.var 2), (.var 3)]))
      [
        .ret false (.tup [(.cst (.str "one")), (.var 2), (.var 3)])]
      []]
def l17_1 : List IS :=
  [
    .for_ (.n 3) (.rng2 (.op .add [(.var 2), (.cst (.int 1))]) (.var 1)) l17_0]
def b17 : List IS :=
  [
    .asg false (.n 1) (.op .fdiv [(.op .len [(.var 0)]), (.cst (.int 2))]),
    .for_ (.n 2) (.rng1 (.var 1)) l17_1,
    .ret false (.tup [(.cst (.str "comes"))])]
def f17 : FD := ⟨1, 4, [], b17⟩
def e17 : Ent := ⟨"coming_paper", ["pairing"], ["pairing", "k", "i", "j"], top 24, f17⟩
/-! does_come -/
def b18 : List IS :=
  [
    .ret false (.op .eq [(.call 17 [(.var 0)]), (.tup [(.cst (.str "comes"))])])]
def f18 : FD := ⟨1, 1, [], b18⟩
def e18 : Ent := ⟨"does_come", ["pairing"], ["pairing"], top 25, f18⟩
/-! strand_of -/
def b19 : List IS :=
  [
    .ret false (.op .min2 [(.var 1), (.op .ix [(.var 0), (.var 1)])])]
def f19 : FD := ⟨2, 2, [], b19⟩
def e19 : Ent := ⟨"strand_of", ["pairing", "place"], ["pairing", "place"], top 26, f19⟩
/-! places_behind -/
def w20_0 : IE :=
  (.op .lt [(.var 5), (.var 6)])
def l20_1 : List IS :=
  [
    .extend 4 (.op .mul [(.lst [(.op .mod [(.var 5), (.var 3)])]), (.op .int [(.op .inn [(.call 19 [(.var 0), (.op .mod [(.var 5), (.var 3)])]), .pk 1])])]),
    .aug 5 .add (.cst (.int 1))]
def b20 : List IS :=
  [
    .asg true (.tp [(.n 3), (.n 4), (.n 5)]) (.otup [(.op .len [(.var 0)]), (.lst []), (.op .add [(.var 2), (.cst (.int 1))])]),
    .asg false (.n 6) (.ite (.op .gt [(.op .ix [(.var 0), (.var 2)]), (.var 2)]) (.op .ix [(.var 0), (.var 2)]) (.op .add [(.op .ix [(.var 0), (.var 2)]), (.var 3)])),
    .whl (2 ^ 20000) w20_0 l20_1,
    .ret false (.frz 4)]
def f20 : FD := ⟨3, 7, [1], b20⟩
def e20 : Ent := ⟨"places_behind", ["pairing", "left", "place"], ["pairing", "left", "place", "many", "found", "here", "last"], top 27, f20⟩
/-! told_sequence -/
def q21_0 : IE :=
  (.op .lt [(.var 3), (.var 4)])
def t21_1 : IE :=
  (.var 3)
def w21_2 : IE :=
  (.op .ne [.pk 1, (.lst [])])
def q21_3 : IE :=
  (.op .inn [(.call 19 [(.var 0), (.var 3)]), .pk 1])
def t21_4 : IE :=
  (.var 3)
def t21_5 : IE :=
  (.tup [(.op .len [(.call 20 [(.var 0), (.mov 1), (.var 3)])]), (.var 3)])
def l21_6 : List IS :=
  [
    .asg false (.n 5) (.comp false [3] (.n 3) (.rng1 (.op .len [(.var 0)])) (some q21_3) t21_4),
    .asg false (.n 6) (.op .ix [(.op .min1 [(.comp false [3] (.n 3) (.seq (.var 5)) none t21_5)]), (.cst (.int 1))]),
    .append 2 (.var 6),
    .remove 1 (.call 19 [(.var 0), (.var 6)])]
def b21 : List IS :=
  [
    .asg true (.tp [(.n 1), (.n 2)]) (.otup [(.comp false [3, 4] (.t [.n 3, .n 4]) (.enum (.var 0)) (some q21_0) t21_1), (.lst [])]),
    .whl (2 ^ 20000) w21_2 l21_6,
    .ret false (.frz 2)]
def f21 : FD := ⟨1, 7, [], b21⟩
def e21 : Ent := ⟨"told_sequence", ["pairing"], ["pairing", "left", "found", "place", "last", "some", "best"], top 28, f21⟩
/-! told_drawing -/
def q22_0 : IE :=
  (.op .lt [(.var 3), (.var 4)])
def t22_1 : IE :=
  (.var 3)
def t22_2 : IE :=
  (.lst [])
def t22_3 : IE :=
  (.call 19 [(.var 0), (.var 9)])
def l22_4 : List IS :=
  [
    .append1 2 (.var 9) (.var 6)]
def l22_5 : List IS :=
  [
    .asg true (.tp [(.n 6), (.n 4)]) (.otup [(.call 19 [(.var 0), (.var 3)]), (.op .ix [(.var 0), (.var 3)])]),
    .asg false (.n 7) (.call 20 [(.var 0), (.mov 1), (.var 3)]),
    .asg false (.n 8) (.op .add [(.kcat 2 (.var 3) (.comp false [9] (.n 9) (.seq (.var 7)) none t22_3)), (.krev 2 (.var 4))]),
    .asg false (.tp [(.sub 5 (.var 3)), (.sub 5 (.var 4))]) (.tup [(.op .toTup [(.var 8)]), (.op .toTup [(.op .rev [(.var 8)])])]),
    .for_ (.n 9) (.seq (.var 7)) l22_4,
    .remove 1 (.var 6)]
def b22 : List IS :=
  [
    .asg true (.tp [(.n 1), (.n 2)]) (.otup [(.comp false [3, 4] (.t [.n 3, .n 4]) (.enum (.var 0)) (some q22_0) t22_1), (.comp true [3] (.n 3) (.seq (.var 0)) none t22_2)]),
    .asg true (.n 5) (.op .mul [(.lst [(.tup [])]), (.op .len [(.var 0)])]),
    .for_ (.n 3) (.seq (.call 21 [(.var 0)])) l22_5,
    .ret false (.op .toTup [.pk 5])]
def f22 : FD := ⟨1, 10, [], b22⟩
def e22 : Ent := ⟨"told_drawing", ["pairing"], ["pairing", "left", "ahead", "place", "last", "found", "mine", "behind", "row", "late"], top 29, f22⟩
/-! four_places -/
def b23 : List IS :=
  [
    .ret false (.lst [(.op .ix [(.var 1), (.cst (.int 0))]), (.op .ix [(.var 1), (.cst (.int 1))]), (.op .ix [(.var 0), (.op .ix [(.var 1), (.cst (.int 0))])]), (.op .ix [(.var 0), (.op .ix [(.var 1), (.cst (.int 1))])])])]
def f23 : FD := ⟨2, 2, [], b23⟩
def e23 : Ent := ⟨"four_places", ["pairing", "pair"], ["pairing", "pair"], top 31, f23⟩
/-! other_of -/
def b24 : List IS :=
  [
    .ret false (.op .sub [(.op .tsum [(.var 0)]), (.var 1)])]
def f24 : FD := ⟨2, 2, [], b24⟩
def e24 : Ent := ⟨"other_of", ["pair", "strand"], ["pair", "strand"], top 32, f24⟩
/-! black_ends -/
def l25_0 : List IS :=
  [
    .asg false (.n 8) (.op .index [(.op .ix [(.var 1), (.var 7)]), (.call 24 [(.var 5), (.call 19 [(.var 0), (.var 7)])])]),
    .extend 6 (.op .mul [(.lst [(.var 7)]), (.op .int [(.op .eq [(.op .mod [(.op .add [(.var 7), (.var 8)]), (.cst (.int 2))]), (.cst (.int 0))])])])]
def l25_1 : List IS :=
  [
    .asg true (.n 6) (.lst []),
    .for_ (.n 7) (.seq (.call 23 [(.var 0), (.var 5)])) l25_0,
    .tupd 2 [(.tup [(.var 5), (.op .ix [.pk 6, (.cst (.int 0))])]), (.op .mul [(.cst (.int 2)), (.op .add [(.var 3), (.var 4)])]), (.tup [(.var 5), (.op .ix [.pk 6, (.cst (.int 1))])]), (.op .add [(.op .mul [(.cst (.int 2)), (.op .add [(.var 3), (.var 4)])]), (.cst (.int 1))])]]
def b25 : List IS :=
  [
    .asg true (.tp [(.n 2), (.n 3)]) (.otup [(.tmk), (.op .fdiv [(.op .len [(.var 0)]), (.cst (.int 2))])]),
    .for_ (.t [.n 4, .n 5]) (.enum (.call 15 [(.var 0)])) l25_1,
    .ret true (.tfz 2)]
def f25 : FD := ⟨2, 9, [], b25⟩
def e25 : Ent := ⟨"black_ends", ["pairing", "drawing"], ["pairing", "drawing", "found", "k", "number", "pair", "some", "place", "time"], top 33, f25⟩
/-! pair_at -/
def b26 : List IS :=
  [
    .ret false (.op .toTup [(.op .sorted [(.lst [(.call 19 [(.var 0), (.var 2)]), (.op .ix [(.op .ix [(.var 1), (.var 2)]), (.var 3)])])])])]
def f26 : FD := ⟨4, 4, [], b26⟩
def e26 : Ent := ⟨"pair_at", ["pairing", "drawing", "place", "time"], ["pairing", "drawing", "place", "time"], top 34, f26⟩
/-! black_next -/
def b27 : List IS :=
  [
    .asg false (.n 4) (.call 23 [(.var 0), (.var 2)]),
    .asg false (.n 5) (.op .ix [(.var 4), (.op .mod [(.op .add [(.op .lindex [(.var 4), (.var 3)]), (.cst (.int 1))]), (.cst (.int 4))])]),
    .asg false (.n 6) (.op .index [(.op .ix [(.var 1), (.var 5)]), (.call 24 [(.var 2), (.call 19 [(.var 0), (.var 5)])])]),
    .ite (.op .gt [(.var 6), (.cst (.int 0))])
      [
        .ret false (.tup [(.tup [(.call 26 [(.var 0), (.var 1), (.var 5), (.op .sub [(.var 6), (.cst (.int 1))])]), (.op .ix [(.var 0), (.var 5)])]), (.cst .none)])]
      [],
    .ret false (.tup [(.cst .none), (.var 5)])]
def f27 : FD := ⟨4, 7, [], b27⟩
def e27 : Ent := ⟨"black_next", ["pairing", "drawing", "pair", "place"], ["pairing", "drawing", "pair", "place", "some", "to", "time"], top 35, f27⟩
/-! region_ends -/
def w28_0 : IE :=
  (.and_ (.op .isN [(.var 6)]) (.op .ne [(.var 5), (.var 3)]))
def l28_1 : List IS :=
  [
    .append 4 (.trd 2 (.var 5)),
    .asg false (.tp [(.n 5), (.n 6)]) (.call 27 [(.var 0), (.var 1), (.op .ix [(.var 5), (.cst (.int 0))]), (.op .ix [(.var 5), (.cst (.int 1))])])]
def b28 : List IS :=
  [
    .asg true (.n 4) (.lst [(.trd 2 (.var 3))]),
    .asg false (.tp [(.n 5), (.n 6)]) (.call 27 [(.var 0), (.var 1), (.op .ix [(.var 3), (.cst (.int 0))]), (.op .ix [(.var 3), (.cst (.int 1))])]),
    .whl (2 ^ 20000) w28_0 l28_1,
    .ret false (.frz 4)]
def f28 : FD := ⟨4, 7, [], b28⟩
def e28 : Ent := ⟨"region_ends", ["pairing", "drawing", "ends", "first"], ["pairing", "drawing", "ends", "first", "found", "late", "rim_place"], top 36, f28⟩
/-! rim_of_drawing -/
def l29_0 : List IS :=
  [
    .asg true (.n 6) (.lst [(.op .add [(.op .mul [(.cst (.int 2)), (.var 5)]), (.cst (.int 1))])]),
    .ite (.op .ne [(.op .ix [(.var 1), (.op .mul [(.cst (.int 2)), (.var 5)])]), (.tup [])])
      [
        .extend 6 (.call 28 [(.var 0), (.var 1), (.var 3), (.tup [(.call 26 [(.var 0), (.var 1), (.op .mul [(.cst (.int 2)), (.var 5)]), (.cst (.int 0))]), (.op .mul [(.cst (.int 2)), (.var 5)])])])]
      [],
    .append 4 (.op .toTup [.frz 6])]
def t29_1 : IE :=
  (.tup [(.trd 3 (.var 8)), (.var 8)])
def q29_2 : IE :=
  (.op .inn [(.var 7), .frz 6])
def t29_3 : IE :=
  (.frz 6)
def l29_4 : List IS :=
  [
    .ite (.op .eq [(.hcomp 4 [6] (.n 6) (some q29_2) t29_3), (.lst [])])
      [
        .append 4 (.op .toTup [(.call 28 [(.var 0), (.var 1), (.var 3), (.var 8)])])]
      []]
def t29_5 : IE :=
  (.tup [(.var 7), (.op .add [(.var 11), (.cst (.int 1))])])
def l29_6 : List IS :=
  [
    .dupd 9 (.comp false [7] (.n 7) (.seq (.frz 6)) none t29_5)]
def t29_7 : IE :=
  (.tup [(.cst (.int 0)), (.op .add [(.var 5), (.cst (.int 1))])])
def t29_8 : IE :=
  (.tup [(.rd true 9 (.op .mul [(.cst (.int 2)), (.op .add [(.var 2), (.var 13)])])), (.rd true 9 (.op .add [(.op .mul [(.cst (.int 2)), (.op .add [(.var 2), (.var 13)])]), (.cst (.int 1))]))])
def b29 : List IS :=
  [
    .asg true (.tp [(.n 2), (.n 3), (.n 4)]) (.otup [(.op .fdiv [(.op .len [(.var 0)]), (.cst (.int 2))]), (.call 25 [(.var 0), (.var 1)]), (.lst [])]),
    .for_ (.n 5) (.rng1 (.var 2)) l29_0,
    .for_ (.t [.n 7, .n 8]) (.seq (.op .sorted [(.comp false [8] (.n 8) (.tkeys 3) none t29_1)])) l29_4,
    .asg true (.tp [(.n 9), (.n 10)]) (.otup [(.odct [] []), (.op .len [(.call 15 [(.var 0)])])]),
    .for_ (.t [.n 11, .n 6]) (.enum (.frz 4)) l29_6,
    .asg false (.n 12) (.op .add [(.comp false [5] (.n 5) (.rng1 (.var 2)) none t29_7), (.comp false [13] (.n 13) (.rng1 (.var 10)) none t29_8)]),
    .asg false (.n 14) (.tup [(.op .add [(.op .len [.pk 4]), (.cst (.int 1))]), (.op .toTup [(.var 12)]), (.stup [false, true] [(.op .trange3 [(.cst (.int 0)), (.op .mul [(.cst (.int 2)), (.var 2)]), (.cst (.int 2))]), (.frz 4)])]),
    .ret false (.tup [(.var 14), (.op .mul [(.tup [(.tup [(.cst (.int 1)), (.cst (.int 1))])]), (.var 10)])])]
def f29 : FD := ⟨2, 15, [], b29⟩
def e29 : Ent := ⟨"rim_of_drawing", ["pairing", "drawing"], ["pairing", "drawing", "k", "ends", "turns", "i", "turn", "end", "first", "stands", "many", "c", "roads", "j", "net"], top 37, f29⟩
/-! told_rim -/
def b30 : List IS :=
  [
    .ite (.not_ (.call 18 [(.var 0)]))
      [
        .never]
      [],
    .ret false (.call 29 [(.var 0), (.call 22 [(.var 0)])])]
def f30 : FD := ⟨1, 1, [], b30⟩
def e30 : Ent := ⟨"told_rim", ["pairing"], ["pairing"], top 38, f30⟩
/-! rim_with -/
def b31 : List IS :=
  [
    .ret false (.tup [(.op .ix [(.call 30 [(.var 0)]), (.cst (.int 0))]), (.op .toTup [(.var 1)])])]
def f31 : FD := ⟨2, 2, [], b31⟩
def e31 : Ent := ⟨"rim_with", ["pairing", "weights"], ["pairing", "weights"], top 40, f31⟩
/-! all_pairings -/
def l32_0 : List IS :=
  [
    .extend 5 (.var 6)]
def q32_1 : IE :=
  (.op .nin [(.var 8), .pk 5])
def t32_2 : IE :=
  (.var 8)
def t32_3 : IE :=
  (.stup [true, false] [(.var 4), (.tup [(.op .ix [(.var 7), (.cst (.int 0))]), (.var 8)])])
def l32_4 : List IS :=
  [
    .asg true (.n 5) (.lst []),
    .for_ (.n 6) (.seq (.var 4)) l32_0,
    .asg false (.n 7) (.comp false [8] (.n 8) (.rng1 (.op .mul [(.cst (.int 2)), (.var 0)])) (some q32_1) t32_2),
    .extend 3 (.comp false [8] (.n 8) (.seq (.op (.sl true false) [(.var 7), (.cst (.int 1))])) none t32_3)]
def l32_5 : List IS :=
  [
    .asg true (.n 3) (.lst []),
    .for_ (.n 4) (.seq (.var 1)) l32_4,
    .asg false (.n 1) (.frz 3)]
def t32_6 : IE :=
  (.call 33 [(.var 4), (.var 0)])
def b32 : List IS :=
  [
    .asg false (.n 1) (.lst [(.tup [])]),
    .for_ (.n 2) (.rng1 (.var 0)) l32_5,
    .ret false (.op .sorted [(.comp false [4] (.n 4) (.seq (.var 1)) none t32_6)])]
def f32 : FD := ⟨1, 9, [], b32⟩
def e32 : Ent := ⟨"all_pairings", ["k"], ["k", "line", "lap", "late", "pairs", "taken", "pair", "left", "place"], top 41, f32⟩
/-! partners_of -/
def l33_0 : List IS :=
  [
    .asg false (.sub 2 (.var 3)) (.var 4),
    .asg false (.sub 2 (.var 4)) (.var 3)]
def b33 : List IS :=
  [
    .asg true (.n 2) (.op .mul [(.lst [(.cst (.int 0))]), (.op .mul [(.cst (.int 2)), (.var 1)])]),
    .for_ (.t [.n 3, .n 4]) (.seq (.var 0)) l33_0,
    .ret false (.op .toTup [.pk 2])]
def f33 : FD := ⟨2, 5, [], b33⟩
def e33 : Ent := ⟨"partners_of", ["pairs", "k"], ["pairs", "k", "found", "one", "other"], top 42, f33⟩
/-! coming_pairings -/
def q34_0 : IE :=
  (.op .eq [(.call 17 [(.var 1)]), (.tup [(.cst (.str "comes"))])])
def t34_1 : IE :=
  (.var 1)
def b34 : List IS :=
  [
    .ret false (.comp false [1] (.n 1) (.seq (.call 32 [(.var 0)])) (some q34_0) t34_1)]
def f34 : FD := ⟨1, 2, [], b34⟩
def e34 : Ent := ⟨"coming_pairings", ["k"], ["k", "pairing"], top 43, f34⟩
/-! _law_source -/
def l35_0 : List IS :=
  [
    .asg false (.n 1) (.op .mod [(.op .int [(.op .add [(.op .add [(.op .mul [(.var 1), (.cst (.int 69069))]), (.op .mul [(.var 2), (.cst (.int 31))])]), (.cst (.int 5))])]), (.cst (.int 2147483629))])]
def t35_1 : IE :=
  (.op .abs [(.var 2)])
def b35 : List IS :=
  [
    .asg false (.n 1) (.cst (.int 11)),
    .for_ (.n 2) (.scr 0) l35_0,
    .ret true (.odct [.inr "cells", .inr "left", .inr "mixed", .inr "turn"] [(.op .rev [(.comp false [2] (.n 2) (.scr 0) none t35_1)]), (.cst (.int 1)), (.var 1), (.cst (.int 0))])]
def f35 : FD := ⟨1, 3, [], b35⟩
def e35 : Ent := ⟨"_law_source", ["script"], ["script", "mixed", "cell"], top 45, f35⟩
/-! _law_pick -/
def w36_0 : IE :=
  (.and_ (.op .gt [(.var 1), (.cst (.int 1))]) (.and_ (.op .lt [(.rd true 0 (.cst (.str "left"))), (.cst (.int 2))]) (.op .gt [(.dlen 0 "cells"), (.cst (.int 0))])))
def l36_1 : List IS :=
  [
    .asg false (.sub 0 (.cst (.str "left"))) (.dpop 0 "cells")]
def b36 : List IS :=
  [
    .whl (2 ^ 20000) w36_0 l36_1,
    .asg false (.n 2) (.rd true 0 (.cst (.str "left"))),
    .ite (.or_ (.op .lt [(.var 1), (.cst (.int 2))]) (.op .gt [(.var 2), (.cst (.int 1))]))
      [
        .asg false (.sub 0 (.cst (.str "left"))) (.op .fdiv [(.var 2), (.op .max2 [(.cst (.int 1)), (.var 1)])]),
        .ret false (.op .mod [(.op .int [(.var 2)]), (.op .max2 [(.cst (.int 1)), (.var 1)])])]
      [],
    .asg false (.sub 0 (.cst (.str "turn"))) (.op .add [(.rd true 0 (.cst (.str "turn"))), (.cst (.int 1))]),
    .asg false (.n 3) (.op .mod [(.op .int [(.op .add [(.rd true 0 (.cst (.str "mixed"))), (.op .mul [(.rd true 0 (.cst (.str "turn"))), (.cst (.int 104729))])])]), (.cst (.int 998244353))]),
    .asg false (.n 3) (.op .mod [(.op .int [(.op .add [(.op .mul [(.var 3), (.var 3)]), (.op .mul [(.rd true 0 (.cst (.str "turn"))), (.cst (.int 17))])])]), (.cst (.int 2147483647))]),
    .asg false (.sub 0 (.cst (.str "mixed"))) (.var 3),
    .ret false (.op .mod [(.op .int [(.op .fdiv [(.var 3), (.cst (.int 16))])]), (.var 1)])]
def f36 : FD := ⟨2, 4, [0], b36⟩
def e36 : Ent := ⟨"_law_pick", ["source", "many"], ["source", "many", "left", "mixed"], top 46, f36⟩
/-! _law_mixed -/
def t37_0 : IE :=
  (.popi 2 (.call 36 [(.mov 0), (.op .len [.pk 2])]))
def b37 : List IS :=
  [
    .asg true (.n 2) (.op .toLst [(.var 1)]),
    .ret false (.comp false [3] (.n 3) (.rng1 (.op .len [.pk 2])) none t37_0)]
def f37 : FD := ⟨2, 4, [0], b37⟩
def e37 : Ent := ⟨"_law_mixed", ["source", "things"], ["source", "things", "rest", "lap"], top 47, f37⟩
/-! _law_pairs -/
def t38_0 : IE :=
  (.tup [(.var 2), (.var 3)])
def l38_1 : List IS :=
  [
    .asg false (.n 1) (.op .add [(.var 1), (.comp false [3] (.n 3) (.rng2 (.op .add [(.var 2), (.cst (.int 1))]) (.var 0)) none t38_0)])]
def b38 : List IS :=
  [
    .asg false (.n 1) (.lst []),
    .for_ (.n 2) (.rng1 (.var 0)) l38_1,
    .ret false (.var 1)]
def f38 : FD := ⟨1, 4, [], b38⟩
def e38 : Ent := ⟨"_law_pairs", ["k"], ["k", "found", "i", "j"], top 48, f38⟩
/-! _law_all_pairings -/
def q39_0 : IE :=
  (.op .isN [(.op .ix [(.var 4), (.var 6)])])
def t39_1 : IE :=
  (.var 6)
def t39_2 : IE :=
  (.ite (.op .eq [(.var 7), (.var 5)]) (.var 6) (.ite (.op .eq [(.var 7), (.var 6)]) (.var 5) (.var 8)))
def l39_3 : List IS :=
  [
    .append 3 (.op .toTup [(.comp false [7, 8] (.t [.n 7, .n 8]) (.enum (.var 4)) none t39_2)])]
def l39_4 : List IS :=
  [
    .asg false (.n 5) (.op .index [(.var 4), (.cst .none)]),
    .for_ (.n 6) (.seq (.comp false [6] (.n 6) (.rng2 (.op .add [(.var 5), (.cst (.int 1))]) (.op .mul [(.cst (.int 2)), (.var 0)])) (some q39_0) t39_1)) l39_3]
def l39_5 : List IS :=
  [
    .asg true (.n 3) (.lst []),
    .for_ (.n 4) (.seq (.var 1)) l39_4,
    .asg false (.n 1) (.frz 3)]
def b39 : List IS :=
  [
    .asg false (.n 1) (.lst [(.op .mul [(.tup [(.cst .none)]), (.op .mul [(.cst (.int 2)), (.var 0)])])]),
    .for_ (.n 2) (.rng1 (.var 0)) l39_5,
    .ret false (.op .sorted [(.var 1)])]
def f39 : FD := ⟨1, 9, [], b39⟩
def e39 : Ent := ⟨"_law_all_pairings", ["k"], ["k", "found", "lap", "late", "row", "first", "p", "q", "x"], top 49, f39⟩
/-! _law_does_come -/
def q40_0 : IE :=
  (.not_ (.chain .lt .le (.op .mul [(.cst (.int 2)), (.var 1)]) (.op .ix [(.var 0), (.var 3)]) (.op .mul [(.cst (.int 2)), (.var 2)])))
def t40_1 : IE :=
  (.var 3)
def l40_2 : List IS :=
  [
    .ite (.op .eq [(.comp false [3] (.n 3) (.rng2 (.op .add [(.op .mul [(.cst (.int 2)), (.var 1)]), (.cst (.int 1))]) (.op .add [(.op .mul [(.cst (.int 2)), (.var 2)]), (.cst (.int 1))])) (some q40_0) t40_1), (.lst [])])
      [
        .ret false (.cst (.bool false))]
      []]
def b40 : List IS :=
  [
    .for_ (.t [.n 1, .n 2]) (.seq (.call 38 [(.op .fdiv [(.op .len [(.var 0)]), (.cst (.int 2))])])) l40_2,
    .ret false (.cst (.bool true))]
def f40 : FD := ⟨1, 4, [], b40⟩
def e40 : Ent := ⟨"_law_does_come", ["pairing"], ["pairing", "i", "j", "p"], top 50, f40⟩
/-! _law_crossed -/
def q41_0 : IE :=
  (.chain .lt .lt (.var 3) (.op .ix [(.var 0), (.var 2)]) (.op .ix [(.var 0), (.var 3)]))
def t41_1 : IE :=
  (.var 3)
def l41_2 : List IS :=
  [
    .asg false (.n 1) (.op .add [(.var 1), (.op .len [(.comp false [3] (.n 3) (.rng2 (.op .add [(.var 2), (.cst (.int 1))]) (.op .len [(.var 0)])) (some q41_0) t41_1)])])]
def b41 : List IS :=
  [
    .asg false (.n 1) (.cst (.int 0)),
    .for_ (.n 2) (.rng1 (.op .len [(.var 0)])) l41_2,
    .ret false (.var 1)]
def f41 : FD := ⟨1, 4, [], b41⟩
def e41 : Ent := ⟨"_law_crossed", ["pairing"], ["pairing", "found", "p", "q"], top 51, f41⟩
/-! law -/
def q42_0 : IE :=
  (.call 40 [(.var 5)])
def t42_1 : IE :=
  (.var 5)
def l42_2 : List IS :=
  [
    .ite (.op .ne [(.op .repr [(.call 18 [(.var 5)])]), (.op .repr [(.op .inn [(.var 5), (.var 4)])])])
      [
        .ret false (.cst (.bool false))]
      []]
def l42_3 : List IS :=
  [
    .asg false (.n 6) (.call 31 [(.var 5), (.op .mul [(.lst [(.tup [(.cst (.int 1)), (.cst (.int 1))])]), (.call 41 [(.var 5)])])]),
    .ite (.or_ (.op .ne [(.call 11 [(.var 6)]), (.var 5)]) (.op .notB [(.call 14 [(.var 6)]), (.cst (.bool true))]))
      [
        .ret false (.cst (.bool false))]
      [],
    .ite (.or_ (.op .ne [(.op .len [(.op .ix [(.var 6), (.cst (.int 1))])]), (.call 41 [(.var 5)])]) (.op .ne [(.var 6), (.call 31 [(.var 5), (.op .mul [(.tup [(.tup [(.cst (.int 1)), (.cst (.int 1))])]), (.call 41 [(.var 5)])])])]))
      [
        .ret false (.cst (.bool false))]
      []]
def t42_4 : IE :=
  (.call 41 [(.var 5)])
def l42_5 : List IS :=
  [
    .asg false (.n 3) (.call 39 [(.var 2)]),
    .ite (.op .ne [(.op .repr [(.call 32 [(.var 2)])]), (.op .repr [(.var 3)])])
      [
        .ret false (.cst (.bool false))]
      [],
    .asg false (.n 4) (.comp false [5] (.n 5) (.seq (.var 3)) (some q42_0) t42_1),
    .ite (.op .ne [(.op .repr [(.call 34 [(.var 2)])]), (.op .repr [(.var 4)])])
      [
        .ret false (.cst (.bool false))]
      [],
    .for_ (.n 5) (.seq (.op (.sl false true) [(.call 37 [(.mov 1), (.var 3)]), (.cst (.int 6))])) l42_2,
    .for_ (.n 5) (.seq (.op (.sl false true) [(.call 37 [(.mov 1), (.var 4)]), (.cst (.int 3))])) l42_3,
    .ite (.op .ne [(.op .max1 [(.comp false [5] (.n 5) (.seq (.var 4)) none t42_4)]), (.op .fdiv [(.op .mul [(.var 2), (.op .sub [(.var 2), (.cst (.int 1))])]), (.cst (.int 2))])])
      [
        .ret false (.cst (.bool false))]
      []]
def b42 : List IS :=
  [
    .asg true (.n 1) (.call 35 [(.var 0)]),
    .for_ (.n 2) (.rng2 (.cst (.int 1)) (.op .add [(.cst (.int 4)), (.call 36 [(.mov 1), (.cst (.int 2))])])) l42_5,
    .ret false (.and_ (.op .eq [(.op .len [(.call 32 [(.cst (.int 3))])]), (.cst (.int 15))]) (.op .eq [(.call 34 [(.cst (.int 2))]), (.lst [(.tup [(.cst (.int 1)), (.cst (.int 0)), (.cst (.int 3)), (.cst (.int 2))]), (.tup [(.cst (.int 2)), (.cst (.int 3)), (.cst (.int 0)), (.cst (.int 1))])])]))]
def f42 : FD := ⟨1, 7, [], b42⟩
def e42 : Ent := ⟨"law", ["script"], ["script", "source", "k", "every", "due", "pairing", "late"], top 52, f42⟩
def tbl : List Ent := [e0, e1, e2, e3, e4, e5, e6, e7, e8, e9, e10, e11, e12, e13, e14, e15, e16, e17, e18, e19, e20, e21, e22, e23, e24, e25, e26, e27, e28, e29, e30, e31, e32, e33, e34, e35, e36, e37, e38, e39, e40, e41, e42]

theorem look : tbl.all (Ent.look tbl false) = true := by decide +kernel
theorem bn0 : Bnd e0 := fun _ _ _ _ _ _ us hl => match us, hl with | [_], _ => rfl
theorem bn1 : Bnd e1 := fun _ _ _ _ _ _ us hl => match us, hl with | [_], _ => rfl
theorem bn2 : Bnd e2 := fun _ _ _ _ _ _ us hl => match us, hl with | [_, _], _ => rfl
theorem bn3 : Bnd e3 := fun _ _ _ _ _ _ us hl => match us, hl with | [_, _], _ => rfl
theorem bn4 : Bnd e4 := fun _ _ _ _ _ _ us hl => match us, hl with | [_, _], _ => rfl
theorem bn5 : Bnd e5 := fun _ _ _ _ _ _ us hl => match us, hl with | [_, _], _ => rfl
theorem bn6 : Bnd e6 := fun _ _ _ _ _ _ us hl => match us, hl with | [_, _], _ => rfl
theorem bn7 : Bnd e7 := fun _ _ _ _ _ _ us hl => match us, hl with | [_, _, _], _ => rfl
theorem bn8 : Bnd e8 := fun _ _ _ _ _ _ us hl => match us, hl with | [_, _], _ => rfl
theorem bn9 : Bnd e9 := fun _ _ _ _ _ _ us hl => match us, hl with | [_], _ => rfl
theorem bn10 : Bnd e10 := fun _ _ _ _ _ _ us hl => match us, hl with | [_], _ => rfl
theorem bn11 : Bnd e11 := fun _ _ _ _ _ _ us hl => match us, hl with | [_], _ => rfl
theorem bn12 : Bnd e12 := fun _ _ _ _ _ _ us hl => match us, hl with | [_], _ => rfl
theorem bn13 : Bnd e13 := fun _ _ _ _ _ _ us hl => match us, hl with | [_], _ => rfl
theorem bn14 : Bnd e14 := fun _ _ _ _ _ _ us hl => match us, hl with | [_], _ => rfl
theorem bn15 : Bnd e15 := fun _ _ _ _ _ _ us hl => match us, hl with | [_], _ => rfl
theorem bn16 : Bnd e16 := fun _ _ _ _ _ _ us hl => match us, hl with | [_, _, _], _ => rfl
theorem bn17 : Bnd e17 := fun _ _ _ _ _ _ us hl => match us, hl with | [_], _ => rfl
theorem bn18 : Bnd e18 := fun _ _ _ _ _ _ us hl => match us, hl with | [_], _ => rfl
theorem bn19 : Bnd e19 := fun _ _ _ _ _ _ us hl => match us, hl with | [_, _], _ => rfl
theorem bn20 : Bnd e20 := fun _ _ _ _ _ _ us hl => match us, hl with | [_, _, _], _ => rfl
theorem bn21 : Bnd e21 := fun _ _ _ _ _ _ us hl => match us, hl with | [_], _ => rfl
theorem bn22 : Bnd e22 := fun _ _ _ _ _ _ us hl => match us, hl with | [_], _ => rfl
theorem bn23 : Bnd e23 := fun _ _ _ _ _ _ us hl => match us, hl with | [_, _], _ => rfl
theorem bn24 : Bnd e24 := fun _ _ _ _ _ _ us hl => match us, hl with | [_, _], _ => rfl
theorem bn25 : Bnd e25 := fun _ _ _ _ _ _ us hl => match us, hl with | [_, _], _ => rfl
theorem bn26 : Bnd e26 := fun _ _ _ _ _ _ us hl => match us, hl with | [_, _, _, _], _ => rfl
theorem bn27 : Bnd e27 := fun _ _ _ _ _ _ us hl => match us, hl with | [_, _, _, _], _ => rfl
theorem bn28 : Bnd e28 := fun _ _ _ _ _ _ us hl => match us, hl with | [_, _, _, _], _ => rfl
theorem bn29 : Bnd e29 := fun _ _ _ _ _ _ us hl => match us, hl with | [_, _], _ => rfl
theorem bn30 : Bnd e30 := fun _ _ _ _ _ _ us hl => match us, hl with | [_], _ => rfl
theorem bn31 : Bnd e31 := fun _ _ _ _ _ _ us hl => match us, hl with | [_, _], _ => rfl
theorem bn32 : Bnd e32 := fun _ _ _ _ _ _ us hl => match us, hl with | [_], _ => rfl
theorem bn33 : Bnd e33 := fun _ _ _ _ _ _ us hl => match us, hl with | [_, _], _ => rfl
theorem bn34 : Bnd e34 := fun _ _ _ _ _ _ us hl => match us, hl with | [_], _ => rfl
theorem bn35 : Bnd e35 := fun _ _ _ _ _ _ us hl => match us, hl with | [_], _ => rfl
theorem bn36 : Bnd e36 := fun _ _ _ _ _ _ us hl => match us, hl with | [_, _], _ => rfl
theorem bn37 : Bnd e37 := fun _ _ _ _ _ _ us hl => match us, hl with | [_, _], _ => rfl
theorem bn38 : Bnd e38 := fun _ _ _ _ _ _ us hl => match us, hl with | [_], _ => rfl
theorem bn39 : Bnd e39 := fun _ _ _ _ _ _ us hl => match us, hl with | [_], _ => rfl
theorem bn40 : Bnd e40 := fun _ _ _ _ _ _ us hl => match us, hl with | [_], _ => rfl
theorem bn41 : Bnd e41 := fun _ _ _ _ _ _ us hl => match us, hl with | [_], _ => rfl
theorem bn42 : Bnd e42 := fun _ _ _ _ _ _ us hl => match us, hl with | [_], _ => rfl
theorem bnds : Bnds tbl := ⟨bn0, bn1, bn2, bn3, bn4, bn5, bn6, bn7, bn8, bn9, bn10, bn11, bn12, bn13, bn14, bn15, bn16, bn17, bn18, bn19, bn20, bn21, bn22, bn23, bn24, bn25, bn26, bn27, bn28, bn29, bn30, bn31, bn32, bn33, bn34, bn35, bn36, bn37, bn38, bn39, bn40, bn41, bn42, trivial⟩
end K56
/-! k56, plain: all pairings of up to eight places, looked at by the kernel. (printed by k56p.py) -/
namespace K56
open PySem Rx
abbrev T : List FD := tbl.map Ent.fd
def PK : Nat → List (List Nat)
  | 1 => [[1, 0]]
  | 2 => [[1, 0, 3, 2], [2, 3, 0, 1], [3, 2, 1, 0]]
  | 3 => [[1, 0, 3, 2, 5, 4], [1, 0, 4, 5, 2, 3], [1, 0, 5, 4, 3, 2], [2, 3, 0, 1, 5, 4], [2, 4, 0, 5, 1, 3], [2, 5, 0, 4, 3, 1], [3, 2, 1, 0, 5, 4], [3, 4, 5, 0, 1, 2], [3, 5, 4, 0, 2, 1], [4, 2, 1, 5, 0, 3], [4, 3, 5, 1, 0, 2], [4, 5, 3, 2, 0, 1], [5, 2, 1, 4, 3, 0], [5, 3, 4, 1, 2, 0], [5, 4, 3, 2, 1, 0]]
  | 4 => [[1, 0, 3, 2, 5, 4, 7, 6], [1, 0, 3, 2, 6, 7, 4, 5], [1, 0, 3, 2, 7, 6, 5, 4], [1, 0, 4, 5, 2, 3, 7, 6], [1, 0, 4, 6, 2, 7, 3, 5], [1, 0, 4, 7, 2, 6, 5, 3], [1, 0, 5, 4, 3, 2, 7, 6], [1, 0, 5, 6, 7, 2, 3, 4], [1, 0, 5, 7, 6, 2, 4, 3], [1, 0, 6, 4, 3, 7, 2, 5], [1, 0, 6, 5, 7, 3, 2, 4], [1, 0, 6, 7, 5, 4, 2, 3], [1, 0, 7, 4, 3, 6, 5, 2], [1, 0, 7, 5, 6, 3, 4, 2], [1, 0, 7, 6, 5, 4, 3, 2], [2, 3, 0, 1, 5, 4, 7, 6], [2, 3, 0, 1, 6, 7, 4, 5], [2, 3, 0, 1, 7, 6, 5, 4], [2, 4, 0, 5, 1, 3, 7, 6], [2, 4, 0, 6, 1, 7, 3, 5], [2, 4, 0, 7, 1, 6, 5, 3], [2, 5, 0, 4, 3, 1, 7, 6], [2, 5, 0, 6, 7, 1, 3, 4], [2, 5, 0, 7, 6, 1, 4, 3], [2, 6, 0, 4, 3, 7, 1, 5], [2, 6, 0, 5, 7, 3, 1, 4], [2, 6, 0, 7, 5, 4, 1, 3], [2, 7, 0, 4, 3, 6, 5, 1], [2, 7, 0, 5, 6, 3, 4, 1], [2, 7, 0, 6, 5, 4, 3, 1], [3, 2, 1, 0, 5, 4, 7, 6], [3, 2, 1, 0, 6, 7, 4, 5], [3, 2, 1, 0, 7, 6, 5, 4], [3, 4, 5, 0, 1, 2, 7, 6], [3, 4, 6, 0, 1, 7, 2, 5], [3, 4, 7, 0, 1, 6, 5, 2], [3, 5, 4, 0, 2, 1, 7, 6], [3, 5, 6, 0, 7, 1, 2, 4], [3, 5, 7, 0, 6, 1, 4, 2], [3, 6, 4, 0, 2, 7, 1, 5], [3, 6, 5, 0, 7, 2, 1, 4], [3, 6, 7, 0, 5, 4, 1, 2], [3, 7, 4, 0, 2, 6, 5, 1], [3, 7, 5, 0, 6, 2, 4, 1], [3, 7, 6, 0, 5, 4, 2, 1], [4, 2, 1, 5, 0, 3, 7, 6], [4, 2, 1, 6, 0, 7, 3, 5], [4, 2, 1, 7, 0, 6, 5, 3], [4, 3, 5, 1, 0, 2, 7, 6], [4, 3, 6, 1, 0, 7, 2, 5], [4, 3, 7, 1, 0, 6, 5, 2], [4, 5, 3, 2, 0, 1, 7, 6], [4, 5, 6, 7, 0, 1, 2, 3], [4, 5, 7, 6, 0, 1, 3, 2], [4, 6, 3, 2, 0, 7, 1, 5], [4, 6, 5, 7, 0, 2, 1, 3], [4, 6, 7, 5, 0, 3, 1, 2], [4, 7, 3, 2, 0, 6, 5, 1], [4, 7, 5, 6, 0, 2, 3, 1], [4, 7, 6, 5, 0, 3, 2, 1], [5, 2, 1, 4, 3, 0, 7, 6], [5, 2, 1, 6, 7, 0, 3, 4], [5, 2, 1, 7, 6, 0, 4, 3], [5, 3, 4, 1, 2, 0, 7, 6], [5, 3, 6, 1, 7, 0, 2, 4], [5, 3, 7, 1, 6, 0, 4, 2], [5, 4, 3, 2, 1, 0, 7, 6], [5, 4, 6, 7, 1, 0, 2, 3], [5, 4, 7, 6, 1, 0, 3, 2], [5, 6, 3, 2, 7, 0, 1, 4], [5, 6, 4, 7, 2, 0, 1, 3], [5, 6, 7, 4, 3, 0, 1, 2], [5, 7, 3, 2, 6, 0, 4, 1], [5, 7, 4, 6, 2, 0, 3, 1], [5, 7, 6, 4, 3, 0, 2, 1], [6, 2, 1, 4, 3, 7, 0, 5], [6, 2, 1, 5, 7, 3, 0, 4], [6, 2, 1, 7, 5, 4, 0, 3], [6, 3, 4, 1, 2, 7, 0, 5], [6, 3, 5, 1, 7, 2, 0, 4], [6, 3, 7, 1, 5, 4, 0, 2], [6, 4, 3, 2, 1, 7, 0, 5], [6, 4, 5, 7, 1, 2, 0, 3], [6, 4, 7, 5, 1, 3, 0, 2], [6, 5, 3, 2, 7, 1, 0, 4], [6, 5, 4, 7, 2, 1, 0, 3], [6, 5, 7, 4, 3, 1, 0, 2], [6, 7, 3, 2, 5, 4, 0, 1], [6, 7, 4, 5, 2, 3, 0, 1], [6, 7, 5, 4, 3, 2, 0, 1], [7, 2, 1, 4, 3, 6, 5, 0], [7, 2, 1, 5, 6, 3, 4, 0], [7, 2, 1, 6, 5, 4, 3, 0], [7, 3, 4, 1, 2, 6, 5, 0], [7, 3, 5, 1, 6, 2, 4, 0], [7, 3, 6, 1, 5, 4, 2, 0], [7, 4, 3, 2, 1, 6, 5, 0], [7, 4, 5, 6, 1, 2, 3, 0], [7, 4, 6, 5, 1, 3, 2, 0], [7, 5, 3, 2, 6, 1, 4, 0], [7, 5, 4, 6, 2, 1, 3, 0], [7, 5, 6, 4, 3, 1, 2, 0], [7, 6, 3, 2, 5, 4, 1, 0], [7, 6, 4, 5, 2, 3, 1, 0], [7, 6, 5, 4, 3, 2, 1, 0]]
  | _ => []
def comes (p : List Nat) : Bool := (List.range (p.length / 2)).all fun i => (List.range (p.length / 2)).all fun j => !decide (i < j) || (List.range' (2 * i + 1) (2 * (j - i))).any fun x => !decide (2 * i < p[x]! ∧ p[x]! ≤ 2 * j)
def cr (p : List Nat) : Nat := ((List.range p.length).map fun a => ((List.range p.length).filter fun q => decide (a < q ∧ q < p[a]! ∧ p[a]! < p[q]!)).length).sum
def DK (k : Nat) : List (List Nat) := (PK k).filter comes
def pL (P : List (List Nat)) : PyData := .list (P.map tD)
def oneD : PyData := .tuple [.int 1, .int 1]
def wL (n : Nat) : PyData := .list (List.replicate n oneD)
def wT (n : Nat) : PyData := .tuple (List.replicate n oneD)
/-- all of them, by two ways -/
def evL (k : Nat) : Bool := gives (Phi T 19 39 [nv k]) 1 (pL (PK k))
def evA (n k : Nat) : Bool := gives (Phi T (n + 5) 32 [nv k]) 1 (pL (PK k))
/-- one of them -/
def isBo (o : Option PyData) (b : Bool) : Bool := match o with
  | some (.bool c) => c == b
  | _ => false
def comesD : PyData := .tuple [.str "comes"]
def okP (k : Nat) (p : List Nat) : Bool := gives (Phi T 19 18 [.val (tD p)]) 1 (.bool (comes p)) && (gives (Phi T 19 40 [.val (tD p)]) 1 (.bool (comes p)) && (gives (Phi T 19 41 [.val (tD p)]) 1 (.int (cr p : Nat)) &&
  (isBo (s_inn [tD p, pL (DK k)]) (comes p) && (decide (p.length = 2 * k) && (decide (cr p ≤ 100) && (p.all (fun x => decide (x < 8)) && match Phi T 18 17 [.val (tD p)] with
    | some (.val d, bk) => bare 1 bk && isBo (s_eq [d, comesD]) (comes p)
    | _ => false))))))
/-- one that comes, and what is told by it -/
def okR (p : List Nat) : Bool := match Phi T 18 30 [.val (tD p)] with
  | some (.val (.tuple [e, f]), bk) => bare 1 bk && (gives (Phi T 19 11 [.val (.tuple [e, wT (cr p)])]) 1 (tD p) && (gives (Phi T 19 14 [.val (.tuple [e, wT (cr p)])]) 1 (.bool true) && SeqAt.shaped (.tuple [e, wT (cr p)])))
  | _ => false
theorem evL1 : evL 1 = true := by decide +kernel
theorem evA1 (n : Nat) : evA n 1 = true := by kernel_rfl
theorem evL2 : evL 2 = true := by decide +kernel
theorem evA2 (n : Nat) : evA n 2 = true := by kernel_rfl
theorem evL3 : evL 3 = true := by decide +kernel
theorem evA3 (n : Nat) : evA n 3 = true := by kernel_rfl
theorem evL4 : evL 4 = true := by decide +kernel
theorem evA4 (n : Nat) : evA n 4 = true := by kernel_rfl
theorem okP1_0 : (((PK 1).drop 0).take 15).all (okP 1) = true := by decide +kernel
theorem okR1_0 : (((DK 1).drop 0).take 4).all okR = true := by decide +kernel
theorem okP2_0 : (((PK 2).drop 0).take 15).all (okP 2) = true := by decide +kernel
theorem okR2_0 : (((DK 2).drop 0).take 4).all okR = true := by decide +kernel
theorem okP3_0 : (((PK 3).drop 0).take 15).all (okP 3) = true := by decide +kernel
theorem okR3_0 : (((DK 3).drop 0).take 4).all okR = true := by decide +kernel
theorem okR3_1 : (((DK 3).drop 4).take 4).all okR = true := by decide +kernel
theorem okP4_0 : (((PK 4).drop 0).take 15).all (okP 4) = true := by decide +kernel
theorem okP4_1 : (((PK 4).drop 15).take 15).all (okP 4) = true := by decide +kernel
theorem okP4_2 : (((PK 4).drop 30).take 15).all (okP 4) = true := by decide +kernel
theorem okP4_3 : (((PK 4).drop 45).take 15).all (okP 4) = true := by decide +kernel
theorem okP4_4 : (((PK 4).drop 60).take 15).all (okP 4) = true := by decide +kernel
theorem okP4_5 : (((PK 4).drop 75).take 15).all (okP 4) = true := by decide +kernel
theorem okP4_6 : (((PK 4).drop 90).take 15).all (okP 4) = true := by decide +kernel
theorem okR4_0 : (((DK 4).drop 0).take 4).all okR = true := by decide +kernel
theorem okR4_1 : (((DK 4).drop 4).take 4).all okR = true := by decide +kernel
theorem okR4_2 : (((DK 4).drop 8).take 4).all okR = true := by decide +kernel
theorem okR4_3 : (((DK 4).drop 12).take 4).all okR = true := by decide +kernel
theorem okR4_4 : (((DK 4).drop 16).take 4).all okR = true := by decide +kernel
theorem okR4_5 : (((DK 4).drop 20).take 4).all okR = true := by decide +kernel
theorem okR4_6 : (((DK 4).drop 24).take 4).all okR = true := by decide +kernel
theorem okR4_7 : (((DK 4).drop 28).take 4).all okR = true := by decide +kernel
theorem okR4_8 : (((DK 4).drop 32).take 4).all okR = true := by decide +kernel
theorem okR4_9 : (((DK 4).drop 36).take 4).all okR = true := by decide +kernel
theorem okR4_10 : (((DK 4).drop 40).take 4).all okR = true := by decide +kernel
theorem okR4_11 : (((DK 4).drop 44).take 4).all okR = true := by decide +kernel
theorem okR4_12 : (((DK 4).drop 48).take 4).all okR = true := by decide +kernel
theorem all_cut {α : Type} {f : α → Bool} (n : Nat) : ∀ (xs : List α) {a : Nat}, ((xs.drop a).take n).all f = true → (xs.drop (a + n)).all f = true → (xs.drop a).all f = true := fun xs {a} h1 h2 => by
  have e : xs.drop a = (xs.drop a).take n ++ xs.drop (a + n) := by rw [← List.drop_drop, List.take_append_drop]
  rw [e, List.all_append, h1, h2]
  rfl
theorem okPs1 : (PK 1).all (okP 1) = true := (all_cut 15 (PK 1) (a := 0) okP1_0 (show ((PK 1).drop 15).all (okP 1) = true from rfl))
theorem okRs1 : (DK 1).all okR = true := (all_cut 4 (DK 1) (a := 0) okR1_0 (show ((DK 1).drop 4).all okR = true by rw [List.drop_eq_nil_of_le (by decide +kernel)]; rfl))
theorem okPs2 : (PK 2).all (okP 2) = true := (all_cut 15 (PK 2) (a := 0) okP2_0 (show ((PK 2).drop 15).all (okP 2) = true from rfl))
theorem okRs2 : (DK 2).all okR = true := (all_cut 4 (DK 2) (a := 0) okR2_0 (show ((DK 2).drop 4).all okR = true by rw [List.drop_eq_nil_of_le (by decide +kernel)]; rfl))
theorem okPs3 : (PK 3).all (okP 3) = true := (all_cut 15 (PK 3) (a := 0) okP3_0 (show ((PK 3).drop 15).all (okP 3) = true from rfl))
theorem okRs3 : (DK 3).all okR = true := (all_cut 4 (DK 3) (a := 0) okR3_0 (all_cut 4 (DK 3) (a := 4) okR3_1 (show ((DK 3).drop 8).all okR = true by rw [List.drop_eq_nil_of_le (by decide +kernel)]; rfl)))
theorem okPs4 : (PK 4).all (okP 4) = true := (all_cut 15 (PK 4) (a := 0) okP4_0 (all_cut 15 (PK 4) (a := 15) okP4_1 (all_cut 15 (PK 4) (a := 30) okP4_2 (all_cut 15 (PK 4) (a := 45) okP4_3 (all_cut 15 (PK 4) (a := 60) okP4_4 (all_cut 15 (PK 4) (a := 75) okP4_5 (all_cut 15 (PK 4) (a := 90) okP4_6 (show ((PK 4).drop 105).all (okP 4) = true from rfl))))))))
theorem okRs4 : (DK 4).all okR = true := (all_cut 4 (DK 4) (a := 0) okR4_0 (all_cut 4 (DK 4) (a := 4) okR4_1 (all_cut 4 (DK 4) (a := 8) okR4_2 (all_cut 4 (DK 4) (a := 12) okR4_3 (all_cut 4 (DK 4) (a := 16) okR4_4 (all_cut 4 (DK 4) (a := 20) okR4_5 (all_cut 4 (DK 4) (a := 24) okR4_6 (all_cut 4 (DK 4) (a := 28) okR4_7 (all_cut 4 (DK 4) (a := 32) okR4_8 (all_cut 4 (DK 4) (a := 36) okR4_9 (all_cut 4 (DK 4) (a := 40) okR4_10 (all_cut 4 (DK 4) (a := 44) okR4_11 (all_cut 4 (DK 4) (a := 48) okR4_12 (show ((DK 4).drop 52).all okR = true by rw [List.drop_eq_nil_of_le (by decide +kernel)]; rfl))))))))))))))
theorem four {k : Nat} (h1 : 1 ≤ k) (h4 : k ≤ 4) : k = 1 ∨ k = 2 ∨ k = 3 ∨ k = 4 := by omega
theorem okP_all {k : Nat} (h1 : 1 ≤ k) (h4 : k ≤ 4) {p : List Nat} (h : p ∈ PK k) : okP k p = true := by
  obtain rfl | rfl | rfl | rfl := four h1 h4
  · exact List.all_eq_true.mp okPs1 p h
  · exact List.all_eq_true.mp okPs2 p h
  · exact List.all_eq_true.mp okPs3 p h
  · exact List.all_eq_true.mp okPs4 p h
theorem okR_all {k : Nat} (h1 : 1 ≤ k) (h4 : k ≤ 4) {p : List Nat} (h : p ∈ DK k) : okR p = true := by
  obtain rfl | rfl | rfl | rfl := four h1 h4
  · exact List.all_eq_true.mp okRs1 p h
  · exact List.all_eq_true.mp okRs2 p h
  · exact List.all_eq_true.mp okRs3 p h
  · exact List.all_eq_true.mp okRs4 p h
theorem evL_all {k : Nat} (h1 : 1 ≤ k) (h4 : k ≤ 4) : Phi T 19 39 [nv k] = some (.val (pL (PK k)), [none]) := by
  obtain rfl | rfl | rfl | rfl := four h1 h4
  · exact gives_eq evL1
  · exact gives_eq evL2
  · exact gives_eq evL3
  · exact gives_eq evL4
theorem evA_all (n : Nat) {k : Nat} (h1 : 1 ≤ k) (h4 : k ≤ 4) : Phi T (n + 5) 32 [nv k] = some (.val (pL (PK k)), [none]) := by
  obtain rfl | rfl | rfl | rfl := four h1 h4
  · exact gives_eq (evA1 n)
  · exact gives_eq (evA2 n)
  · exact gives_eq (evA3 n)
  · exact gives_eq (evA4 n)
theorem isBo_eq {o : Option PyData} {b : Bool} (h : isBo o b = true) : o = some (.bool b) := by
  unfold isBo at h
  split at h
  · rw [eq_of_beq h]
  · cases h
theorem one_ev {k : Nat} (h1 : 1 ≤ k) (h4 : k ≤ 4) {p : List Nat} (h : p ∈ PK k) : Phi T 19 18 [.val (tD p)] = some (.val (.bool (comes p)), [none]) ∧ Phi T 19 40 [.val (tD p)] = some (.val (.bool (comes p)), [none]) ∧ Phi T 19 41 [.val (tD p)] = some (nv (cr p), [none]) ∧
    s_inn [tD p, pL (DK k)] = some (.bool (comes p)) ∧ p.length = 2 * k ∧ cr p ≤ 100 ∧ ∀ x ∈ p, x < 8 := by
  have z := okP_all h1 h4 h
  unfold okP at z
  simp only [Bool.and_eq_true, decide_eq_true_eq] at z
  obtain ⟨z1, z2, z3, z4, z5, z7, z6, _⟩ := z
  exact ⟨gives_eq z1, gives_eq z2, gives_eq z3, isBo_eq z4, z5, z7, fun x hx => of_decide_eq_true (List.all_eq_true.mp z6 x hx)⟩
theorem paper_ev {k : Nat} (h1 : 1 ≤ k) (h4 : k ≤ 4) {p : List Nat} (h : p ∈ PK k) : ∃ d, Phi T 18 17 [.val (tD p)] = some (.val d, [none]) ∧ s_eq [d, comesD] = some (.bool (comes p)) := by
  have z := okP_all h1 h4 h
  unfold okP at z
  simp only [Bool.and_eq_true, decide_eq_true_eq] at z
  obtain ⟨_, _, _, _, _, _, _, z⟩ := z
  split at z
  · rename_i d bk e
    rw [Bool.and_eq_true] at z
    exact ⟨d, by rw [e, bare_eq z.1]; rfl, isBo_eq z.2⟩
  · cases z
theorem told_ev {k : Nat} (h1 : 1 ≤ k) (h4 : k ≤ 4) {p : List Nat} (h : p ∈ DK k) : ∃ (e f : PyData), Phi T 18 30 [.val (tD p)] = some (.val (.tuple [e, f]), [none]) ∧
    Phi T 19 11 [.val (.tuple [e, wT (cr p)])] = some (.val (tD p), [none]) ∧ Phi T 19 14 [.val (.tuple [e, wT (cr p)])] = some (.val (.bool true), [none]) ∧ SeqAt.shaped (.tuple [e, wT (cr p)]) = true := by
  have z := okR_all h1 h4 h
  unfold okR at z
  split at z
  · rename_i e f bk q
    simp only [Bool.and_eq_true] at z
    obtain ⟨z1, z2, z3, z4⟩ := z
    exact ⟨e, f, by rw [q, bare_eq z1]; rfl, gives_eq z2, gives_eq z3, z4⟩
  · cases z
end K56
/-! k56, plain: the law. -/
namespace K56
open PySem Rx
theorem pick36 (k : Nat) : PickOk (Phi T (k + 1)) 36 := pickOk (Φ := Phi T k) fun _ => rfl
theorem mix37 (k : Nat) : MixOk (Phi T (k + 2)) 37 := mixOk (Φ := Phi T (k + 1)) (pick36 k) fun _ => rfl
theorem src35 (k : Nat) : SrcOk (Phi T (k + 1)) 35 := srcOk (Φ := Phi T k) fun _ => rfl
theorem sm_row {p : List Nat} (h1 : p.length ≤ 8) (h2 : ∀ x ∈ p, x < 8) : Sm 1000 1 (tD p) := by
  refine Sm.tuple (w := 64) (h := 0) (n := 8) (fun d hd => ?_) (by rw [dl_length]; exact h1) (by decide)
  obtain ⟨x, hx, rfl⟩ := List.mem_map.mp hd
  have := h2 x hx
  exact Sm.int (by omega) (by decide)
theorem sm_pk {k : Nat} (h1 : 1 ≤ k) (h4 : k ≤ 4) {p : List Nat} (h : p ∈ PK k) : Sm 1000 1 (tD p) := by
  obtain ⟨_, _, _, _, l, _, b⟩ := one_ev h1 h4 h
  exact sm_row (by omega) b
theorem pk_len {k : Nat} (h1 : 1 ≤ k) (h4 : k ≤ 4) : (PK k).length ≤ 105 := by
  obtain rfl | rfl | rfl | rfl := four h1 h4 <;> decide
theorem sm_all {k : Nat} (h1 : 1 ≤ k) (h4 : k ≤ 4) : Sm 200000 2 (pL (PK k)) := by
  refine Sm.list (w := 1000) (h := 1) (n := 105) (fun d hd => ?_) (by rw [List.length_map]; exact pk_len h1 h4) (by decide)
  obtain ⟨p, hp, rfl⟩ := List.mem_map.mp hd
  exact sm_pk h1 h4 hp
theorem dk_in {k : Nat} {p : List Nat} (h : p ∈ DK k) : p ∈ PK k := (List.mem_filter.mp h).1
theorem dk_len {k : Nat} (h1 : 1 ≤ k) (h4 : k ≤ 4) : (DK k).length ≤ 105 := Nat.le_trans (List.length_filter_le _ _) (pk_len h1 h4)
theorem sm_due {k : Nat} (h1 : 1 ≤ k) (h4 : k ≤ 4) : Sm 200000 2 (pL (DK k)) := by
  refine Sm.list (w := 1000) (h := 1) (n := 105) (fun d hd => ?_) (by rw [List.length_map]; exact dk_len h1 h4) (by decide)
  obtain ⟨p, hp, rfl⟩ := List.mem_map.mp hd
  exact sm_pk h1 h4 (dk_in hp)
theorem ne_int (i j : Nat) : s_ne [.int (i : Nat), .int (j : Nat)] = some (.bool (!decide (i = j))) := by
  have e1 : SeqAt.shaped (.int (i : Nat)) = true := by simp [SeqAt.shaped, PyData.canLay0, PyData.depth]
  have e2 : SeqAt.shaped (.int (j : Nat)) = true := by simp [SeqAt.shaped, PyData.canLay0, PyData.depth]
  have e : s_ne [.int (i : Nat), .int (j : Nat)] = ((eqD (.int (i : Nat)) (.int (j : Nat))).map fun c => PyData.bool (!c)) := rfl
  have e3 : eqD (.int (i : Nat)) (.int (j : Nat)) = if (SeqAt.shaped (.int (i : Nat)) && SeqAt.shaped (.int (j : Nat))) = true then some (PyData.eqv (.int (i : Nat)) (.int (j : Nat))) else none := rfl
  rw [e, e3, e1, e2]
  simp [PyData.eqv]
  exact decide_eq_decide.mpr (by omega)
theorem ne_same {d : PyData} (h : SeqAt.shaped d = true) : s_ne [d, d] = some (.bool false) := by
  show (eqD d d).map (fun c => PyData.bool (!c)) = _
  rw [eqD_self h]
  rfl
theorem rep1 {α : Type} (x : α) : ∀ n : Nat, (List.replicate n [x]).flatten = List.replicate n x
  | 0 => rfl
  | n + 1 => by rw [List.replicate_succ, List.flatten_cons, rep1 x n]; rfl
theorem mul_l {n : Nat} (h : n ≤ 100) : s_mul [.list [oneD], .int (n : Nat)] = some (wL n) := by
  show (if ([oneD] : List PyData).length * (n : Int).toNat ≤ lim ∧ (n : Int) ≤ lim ∧ -1000000 ≤ (n : Int) then some (PyData.list (List.replicate (n : Int).toNat [oneD]).flatten) else none) = _
  have hl : (lim : Int) = 1000000 := rfl
  have hl2 : lim = 1000000 := rfl
  rw [if_pos ⟨by rw [Int.toNat_natCast, hl2]; show 1 * n ≤ _; omega, by rw [hl]; omega, by omega⟩, Int.toNat_natCast, rep1]
  rfl
theorem mul_t {n : Nat} (h : n ≤ 100) : s_mul [.tuple [oneD], .int (n : Nat)] = some (wT n) := by
  show (if ([oneD] : List PyData).length ≤ 1000 ∧ (n : Int) ≤ 1000 ∧ -1000 ≤ (n : Int) then some (PyData.tuple (List.replicate (n : Int).toNat [oneD]).flatten) else none) = _
  rw [if_pos ⟨by decide, by omega, by omega⟩, Int.toNat_natCast, rep1]
  rfl
def mxB (k : Nat) : Bool := match s_max1 [.list ((DK k).map fun p => PyData.int (cr p : Nat))] with
  | some (.int i) => decide (i = ((k * (k - 1) / 2 : Nat) : Int))
  | _ => false
theorem mx_all {k : Nat} (h1 : 1 ≤ k) (h4 : k ≤ 4) : s_max1 [.list ((DK k).map fun p => PyData.int (cr p : Nat))] = some (.int ((k * (k - 1) / 2 : Nat) : Int)) := by
  have z : mxB k = true := by obtain rfl | rfl | rfl | rfl := four h1 h4 <;> decide +kernel
  unfold mxB at z
  split at z
  · rename_i i e
    rw [e, of_decide_eq_true z]
  · cases z
section
variable {k : Nat}
abbrev Φ := Phi T 19
theorem with_ev {p : List Nat} {e f : PyData} (h : Phi T 18 30 [.val (tD p)] = some (.val (.tuple [e, f]), [none])) (ws : List PyData) (d : PyData) (hd : s_toTup [d] = some (.tuple ws)) : Phi T 19 31 [.val (tD p), .val d] = some (.val (.tuple [e, .tuple ws]), [none, none]) := by
  let E0 : MEnv := [some (.val (tD p)), some (.val d)]
  show runF (Phi T 18) f31 _ = _
  refine run_ret (fd := f31) (m := .val (.tuple [e, .tuple ws])) (ms := E0) rfl ?_
  show evSs (Phi T 18) b31 E0 = _
  unfold b31
  refine ss_ret (m := .val (.tuple [e, .tuple ws])) (ee_tup (vs := [.val e, .val (.tuple ws)]) (ds := [e, .tuple ws]) (evEs_cons (ee_ix (i := 0) (d1 := .tuple [e, f]) (d := e) rfl (ee_call (evAs_cons (ee_var rfl) evAs_nil) h rfl) rfl rfl) (evEs_cons (ee_op1r (o := .toTup) (d := .tuple ws) rfl (ee_var rfl) rfl hd rfl) evEs_nil)) rfl (by show 2 ≤ 1000000; decide)) rfl
theorem coming_ev (h1 : 1 ≤ k) (h4 : k ≤ 4) : Phi T 19 34 [nv k] = some (.val (pL (DK k)), [none]) := by
  let E0 : MEnv := [some (nv k), none]
  have c3 := ee_compF (Φ := Phi T 18) (ms := E0) (ms1 := E0) (own := [1]) (tg := .n 1) (it := .seq (.call 32 [(.var 0)])) (cond := q34_0) (elt := t34_1) (PK k) tD tD comes (es_seq (d := pL (PK k)) (ee_call (evAs_cons (ee_var rfl) evAs_nil) (evA_all 13 h1 h4) rfl) rfl rfl) rfl (by have := pk_len h1 h4; omega) (fun p hp => by
    let V : MEnv := [some (nv k), some (.val (tD p))]
    obtain ⟨d, q1, q2⟩ := paper_ev h1 h4 hp
    exact ⟨V, V, rfl, ee_op2r (o := .eq) rfl rfl (ee_call (evAs_cons (ee_var rfl) evAs_nil) q1 rfl) (ee_tup (vs := [.val (.str "comes")]) (ds := [.str "comes"]) (evEs_cons ee_cst evEs_nil) rfl (by show 1 ≤ 1000000; decide)) rfl rfl q2 rfl, fun _ => ⟨.val (tD p), V, ee_var rfl, rfl, rfl⟩, fun _ => rfl⟩)
  have c3 : evE (Phi T 18) (.comp false [1] (.n 1) (.seq (.call 32 [(.var 0)])) (some q34_0) t34_1) E0 = some (.ls ((DK k).map tD), E0) := c3
  show runF (Phi T 18) f34 _ = _
  refine run_ret (fd := f34) (m := .val (pL (DK k))) (ms := E0) rfl ?_
  show evSs (Phi T 18) b34 E0 = _
  unfold b34
  exact ss_ret c3 rfl
theorem every_ev (h1 : 1 ≤ k) (h4 : k ≤ 4) : Phi T 19 39 [nv k] = some (.val (pL (PK k)), [none]) ∧ Phi T 19 32 [nv k] = some (.val (pL (PK k)), [none]) ∧ Phi T 19 34 [nv k] = some (.val (pL (DK k)), [none]) := ⟨evL_all h1 h4, evA_all 14 h1 h4, coming_ev h1 h4⟩
theorem turn2 (h1 : 1 ≤ k) (h4 : k ≤ 4) {p : List Nat} (h : p ∈ PK k) (x0 x1 x2 x3 x6 : Option MV) :
    evSs Φ l42_2 [x0, x1, x2, x3, some (.val (pL (DK k))), some (.val (tD p)), x6] = some (.nx [x0, x1, x2, x3, some (.val (pL (DK k))), some (.val (tD p)), x6]) := by
  obtain ⟨e1, _, _, e4, _⟩ := one_ev h1 h4 h
  unfold l42_2
  refine Eq.trans (ss_skip (ee_reps (Sm.bool (w := 1000) (h := 1) (b := comes p) (by decide)) rfl rfl (ee_call (evAs_cons (ee_var rfl) evAs_nil) e1 rfl) (ee_op2r (o := .inn) rfl rfl (ee_var rfl) (ee_var rfl) rfl rfl e4 rfl) rfl rfl)) ss_nil
theorem turn3 (h1 : 1 ≤ k) (h4 : k ≤ 4) {p : List Nat} (h : p ∈ DK k) (x0 x1 x2 x3 x4 x6 : Option MV) :
    ∃ y6, evSs Φ l42_3 [x0, x1, x2, x3, x4, some (.val (tD p)), x6] = some (.nx [x0, x1, x2, x3, x4, some (.val (tD p)), y6]) := by
  obtain ⟨_, _, e3, _, _, hc, _⟩ := one_ev h1 h4 (dk_in h)
  obtain ⟨e, f, t0, t3, t4, t5⟩ := told_ev h1 h4 h
  let ws : List PyData := List.replicate (cr p) oneD
  have t1 : Phi T 19 31 [.val (tD p), .val (wL (cr p))] = some (.val (.tuple [e, .tuple ws]), [none, none]) := with_ev t0 ws _ rfl
  have t2 : Phi T 19 31 [.val (tD p), .val (wT (cr p))] = some (.val (.tuple [e, .tuple ws]), [none, none]) := with_ev t0 ws _ rfl
  have t6 : ws.length = cr p := List.length_replicate
  let d := PyData.tuple [e, .tuple ws]
  let E0 : MEnv := [x0, x1, x2, x3, x4, some (.val (tD p)), x6]
  let E1 : MEnv := [x0, x1, x2, x3, x4, some (.val (tD p)), some (.val d)]
  have c41 : ∀ E : MEnv, E[5]? = some (some (.val (tD p))) → evE Φ (.call 41 [(.var 5)]) E = some (nv (cr p), E) := fun E hE => ee_call (evAs_cons (ee_var hE) evAs_nil) e3 rfl
  have one : ∀ E : MEnv, evE Φ (.tup [(.cst (.int 1)), (.cst (.int 1))]) E = some (.val oneD, E) := fun E => ee_tup (vs := [.val (.int 1), .val (.int 1)]) (ds := [.int 1, .int 1]) (evEs_cons ee_cst (evEs_cons ee_cst evEs_nil)) rfl (by show 2 ≤ 1000000; decide)
  have a1 : evE Φ (.op .mul [(.lst [(.tup [(.cst (.int 1)), (.cst (.int 1))])]), (.call 41 [(.var 5)])]) E0 = some (.ls (List.replicate (cr p) oneD), E0) :=
    ee_op2r (o := .mul) rfl rfl (ee_lst (vs := [.val oneD]) (ds := [oneD]) (evEs_cons (one _) evEs_nil) rfl (by show 1 ≤ 1000000; decide)) (c41 E0 rfl) rfl rfl (mul_l hc) rfl
  have a2 : evE Φ (.op .mul [(.tup [(.tup [(.cst (.int 1)), (.cst (.int 1))])]), (.call 41 [(.var 5)])]) E1 = some (.val (wT (cr p)), E1) :=
    ee_op2r (o := .mul) rfl rfl (ee_tup (vs := [.val oneD]) (ds := [oneD]) (evEs_cons (one _) evEs_nil) rfl (by show 1 ≤ 1000000; decide)) (c41 E1 rfl) rfl rfl (mul_t hc) rfl
  have b1 : evE Φ (.call 31 [(.var 5), (.op .mul [(.lst [(.tup [(.cst (.int 1)), (.cst (.int 1))])]), (.call 41 [(.var 5)])])]) E0 = some (.val d, E0) :=
    ee_call (vs := [.val (tD p), .val (wL (cr p))]) (evAs_cons (ee_var rfl) (evAs_cons a1 evAs_nil)) t1 rfl
  have b2 : evE Φ (.op .ne [(.call 11 [(.var 6)]), (.var 5)]) E1 = some (.val (.bool false), E1) :=
    ee_nes (sm_pk h1 h4 (dk_in h)) rfl rfl (ee_call (evAs_cons (ee_var rfl) evAs_nil) t3 rfl) (ee_var rfl) rfl rfl
  have b3 : evE Φ (.op .notB [(.call 14 [(.var 6)]), (.cst (.bool true))]) E1 = some (.val (.bool false), E1) :=
    ee_op2r (o := .notB) rfl rfl (ee_call (evAs_cons (ee_var rfl) evAs_nil) t4 rfl) ee_cst rfl rfl rfl rfl
  have b4 : evE Φ (.op .ne [(.op .len [(.op .ix [(.var 6), (.cst (.int 1))])]), (.call 41 [(.var 5)])]) E1 = some (.val (.bool false), E1) := by
    refine ee_op2r (o := .ne) (d1 := .int (cr p : Nat)) rfl rfl (ee_op1r (o := .len) (d := .int (cr p : Nat)) rfl (ee_ix (i := 1) (d := .tuple ws) rfl (ee_var rfl) rfl rfl) rfl ?_ rfl) (c41 E1 rfl) rfl rfl ((ne_int _ _).trans (by simp)) rfl
    show some (PyData.int (ws.length : Nat)) = _
    rw [t6]
  have b5 : evE Φ (.op .ne [(.var 6), (.call 31 [(.var 5), (.op .mul [(.tup [(.tup [(.cst (.int 1)), (.cst (.int 1))])]), (.call 41 [(.var 5)])])])]) E1 = some (.val (.bool false), E1) :=
    ee_op2r (o := .ne) rfl rfl (ee_var rfl) (ee_call (evAs_cons (ee_var rfl) (evAs_cons a2 evAs_nil)) t2 rfl) rfl rfl (ne_same t5) rfl
  refine ⟨some (.val d), ?_⟩
  unfold l42_3
  refine Eq.trans (ss_set (ms := E0) b1 (m' := .val d) rfl) ?_
  refine Eq.trans (ss_skip (ms := E1) ((ee_orF b2).trans b3)) ?_
  exact Eq.trans (ss_skip (ms := E1) ((ee_orF b4).trans b5)) ss_nil
theorem taken {s : MV} (hs : IsSrc s) {P : List (List Nat)} (hP : P.length ≤ 105) (n : Nat) {i : Nat} (St : MV → MEnv) (h1 : ∀ s, (St s)[1]? = some (some s)) (hi : ∀ s, ((St s).set 1 none)[i]? = some (some (.val (pL P)))) (hb : ∀ s s', backArgs [.mov 1, .var i] [some s', none] ((St s).set 1 none) = some (St s')) :
    ∃ s' es, IsSrc s' ∧ (∀ d ∈ es, ∃ p ∈ P, d = tD p) ∧ evI Φ (.seq (.op (.sl false true) [(.call 37 [(.mov 1), (.var i)]), (.cst (.int (n : Nat)))])) (St s) = some (es, St s') := by
  obtain ⟨s1, es, hs1, pm, e37⟩ := mix37 17 s hs (P.map tD) (by rw [List.length_map]; omega)
  have a : evE Φ (.call 37 [(.mov 1), (.var i)]) (St s) = some (.val (.list es), St s1) := ee_call (vs := [s, .val (pL P)]) (evAs_cons (ee_mov (h1 s)) (evAs_cons (ee_var (hi s)) evAs_nil)) e37 (hb s s1)
  refine ⟨s1, es.take n, hs1, fun d hd => ?_, es_seq (m := .ls (es.take n)) (d := .list (es.take n)) (ee_op2r (o := .sl false true) (d := .list (es.take n)) rfl rfl a ee_cst rfl rfl (congrArg (fun xs => some (PyData.list xs)) (cut_to es n)) rfl) rfl rfl⟩
  obtain ⟨p, hp, rfl⟩ := List.mem_map.mp (pm.mem_iff.mp (List.mem_of_mem_take hd))
  exact ⟨p, hp, rfl⟩
theorem lap_ev (h1 : 1 ≤ k) (h4 : k ≤ 4) {s : MV} (hs : IsSrc s) (x0 x3 x4 x5 x6 : Option MV) (i5 : idl x5) :
    ∃ s' y3 y4 y5 y6, IsSrc s' ∧ idl y5 ∧ evSs Φ l42_5 [x0, some s, some (nv k), x3, x4, x5, x6] = some (.nx [x0, some s', some (nv k), y3, y4, y5, y6]) := by
  obtain ⟨v1, v2, v3⟩ := every_ev h1 h4
  let EV : Option MV := some (.val (pL (PK k)))
  let DU : Option MV := some (.val (pL (DK k)))
  let E1 : MEnv := [x0, some s, some (nv k), EV, x4, x5, x6]
  let E2 : MEnv := [x0, some s, some (nv k), EV, DU, x5, x6]
  have c1 : evE Φ (.call 39 [(.var 2)]) [x0, some s, some (nv k), x3, x4, x5, x6] = some (.val (pL (PK k)), [x0, some s, some (nv k), x3, x4, x5, x6]) := ee_call (evAs_cons (ee_var rfl) evAs_nil) v1 rfl
  have c2 : evE Φ (.op .ne [(.op .repr [(.call 32 [(.var 2)])]), (.op .repr [(.var 3)])]) E1 = some (.val (.bool false), E1) :=
    ee_reps (sm_all h1 h4) rfl rfl (ee_call (evAs_cons (ee_var rfl) evAs_nil) v2 rfl) (ee_var rfl) rfl rfl
  have I1 : idle E1 [5] = true := by rcases i5 with rfl | ⟨d, rfl⟩ <;> rfl
  have c3 := ee_compF (Φ := Φ) (ms := E1) (ms1 := E1) (own := [5]) (tg := .n 5) (it := .seq (.var 3)) (cond := q42_0) (elt := t42_1) (PK k) tD tD comes (es_seq (d := pL (PK k)) (ee_var rfl) rfl rfl) I1 (by have := pk_len h1 h4; omega) (fun p hp => by
    let V : MEnv := [x0, some s, some (nv k), EV, x4, some (.val (tD p)), x6]
    exact ⟨V, V, rfl, ee_call (evAs_cons (ee_var rfl) evAs_nil) (one_ev h1 h4 hp).2.1 rfl, fun _ => ⟨.val (tD p), V, ee_var rfl, rfl, rfl⟩, fun _ => rfl⟩)
  have c3 : evE Φ (.comp false [5] (.n 5) (.seq (.var 3)) (some q42_0) t42_1) E1 = some (.ls ((DK k).map tD), E1) := c3
  have c4 : evE Φ (.op .ne [(.op .repr [(.call 34 [(.var 2)])]), (.op .repr [(.var 4)])]) E2 = some (.val (.bool false), E2) :=
    ee_reps (sm_due h1 h4) rfl rfl (ee_call (evAs_cons (ee_var rfl) evAs_nil) v3 rfl) (ee_var rfl) rfl rfl
  obtain ⟨s1, es1, hs1, m1, t1⟩ := taken hs (pk_len h1 h4) 6 (i := 3) (fun s => [x0, some s, some (nv k), EV, DU, x5, x6]) (fun _ => rfl) (fun _ => rfl) (fun _ _ => rfl)
  have lp1 := forF_inv (put := NT.put (.n 5)) (b := fun ms => evSs Φ l42_2 ms) (fun r ms => (∀ d ∈ r, ∃ p ∈ PK k, d = tD p) ∧ ∃ y5, idl y5 ∧ ms = [x0, some s1, some (nv k), EV, DU, y5, x6]) es1 [x0, some s1, some (nv k), EV, DU, x5, x6] (fun d r ms hms => by
      obtain ⟨hr, y5, _, rfl⟩ := hms
      obtain ⟨p, hp, rfl⟩ := hr d List.mem_cons_self
      exact ⟨_, _, rfl, .inl (turn2 h1 h4 hp x0 (some s1) (some (nv k)) EV x6), fun d hd => hr d (List.mem_cons_of_mem _ hd), some (.val (tD p)), .inr ⟨_, rfl⟩, rfl⟩)
    ⟨m1, x5, i5, rfl⟩
  obtain ⟨ms1, f1, _, y5, j5, rfl⟩ := lp1
  obtain ⟨s2, es2, hs2, m2, t2⟩ := taken hs1 (dk_len h1 h4) 3 (i := 4) (fun s => [x0, some s, some (nv k), EV, DU, y5, x6]) (fun _ => rfl) (fun _ => rfl) (fun _ _ => rfl)
  have lp2 := forF_inv (put := NT.put (.n 5)) (b := fun ms => evSs Φ l42_3 ms) (fun r ms => (∀ d ∈ r, ∃ p ∈ DK k, d = tD p) ∧ ∃ z5 z6, idl z5 ∧ ms = [x0, some s2, some (nv k), EV, DU, z5, z6]) es2 [x0, some s2, some (nv k), EV, DU, y5, x6] (fun d r ms hms => by
      obtain ⟨hr, z5, z6, _, rfl⟩ := hms
      obtain ⟨p, hp, rfl⟩ := hr d List.mem_cons_self
      obtain ⟨w6, e⟩ := turn3 h1 h4 hp x0 (some s2) (some (nv k)) EV DU z6
      exact ⟨_, _, rfl, .inl e, fun d hd => hr d (List.mem_cons_of_mem _ hd), some (.val (tD p)), w6, .inr ⟨_, rfl⟩, rfl⟩)
    ⟨m2, y5, x6, j5, rfl⟩
  obtain ⟨ms2, f2, _, z5, z6, k5, rfl⟩ := lp2
  let E3 : MEnv := [x0, some s2, some (nv k), EV, DU, z5, z6]
  have I3 : idle E3 [5] = true := by rcases k5 with rfl | ⟨d, rfl⟩ <;> rfl
  have d1 := ee_compM (Φ := Φ) (ms := E3) (ms1 := E3) (own := [5]) (tg := .n 5) (it := .seq (.var 4)) (elt := t42_4) (DK k) tD (fun p => PyData.int (cr p : Nat)) (es_seq (d := pL (DK k)) (ee_var rfl) rfl rfl) I3 (by have := dk_len h1 h4; omega) (fun p hp => by
    let V : MEnv := [x0, some s2, some (nv k), EV, DU, some (.val (tD p)), z6]
    exact ⟨V, nv (cr p), V, rfl, ee_call (evAs_cons (ee_var rfl) evAs_nil) (one_ev h1 h4 (dk_in hp)).2.2.1 rfl, rfl, rfl⟩)
  have d1 : evE Φ (.comp false [5] (.n 5) (.seq (.var 4)) none t42_4) E3 = some (.ls ((DK k).map fun p => PyData.int (cr p : Nat)), E3) := d1
  have d2 : evE Φ (.op .fdiv [(.op .mul [(.var 2), (.op .sub [(.var 2), (.cst (.int 1))])]), (.cst (.int 2))]) E3 = some (nv (k * (k - 1) / 2), E3) := by
    have z : ∀ n : Nat, n = 1 ∨ n = 2 ∨ n = 3 ∨ n = 4 → evE Φ (.op .fdiv [(.op .mul [(.var 2), (.op .sub [(.var 2), (.cst (.int 1))])]), (.cst (.int 2))]) [x0, some s2, some (nv n), EV, DU, z5, z6] = some (nv (n * (n - 1) / 2), [x0, some s2, some (nv n), EV, DU, z5, z6]) := by
      rintro n (rfl | rfl | rfl | rfl)
      all_goals exact ee_op2r (o := .fdiv) rfl rfl (ee_op2r (o := .mul) rfl rfl (ee_var rfl) (ee_op2r (o := .sub) rfl rfl (ee_var rfl) ee_cst rfl rfl rfl rfl) rfl rfl rfl rfl) ee_cst rfl rfl rfl rfl
    exact z k (four h1 h4)
  have d3 : evE Φ (.op .ne [(.op .max1 [(.comp false [5] (.n 5) (.seq (.var 4)) none t42_4)]), (.op .fdiv [(.op .mul [(.var 2), (.op .sub [(.var 2), (.cst (.int 1))])]), (.cst (.int 2))])]) E3 = some (.val (.bool false), E3) :=
    ee_op2r (o := .ne) rfl rfl (ee_op1r (o := .max1) rfl d1 rfl (mx_all h1 h4) rfl) d2 rfl rfl ((ne_int _ _).trans (by simp)) rfl
  refine ⟨s2, EV, DU, z5, z6, hs2, k5, ?_⟩
  unfold l42_5
  refine Eq.trans (ss_set c1 (m' := .val (pL (PK k))) rfl) ?_
  refine Eq.trans (ss_skip (ms := E1) c2) ?_
  refine Eq.trans (ss_set (ms := E1) c3 (m' := .val (pL (DK k))) rfl) ?_
  refine Eq.trans (ss_skip (ms := E2) c4) ?_
  refine Eq.trans (ss_for (ms := E2) t1 f1) ?_
  refine Eq.trans (ss_for t2 f2) ?_
  exact Eq.trans (ss_skip (ms := E3) d3) ss_nil
end
theorem done_ev (E : MEnv) : evE (Phi T 19) (.and_ (.op .eq [(.op .len [(.call 32 [(.cst (.int 3))])]), (.cst (.int 15))]) (.op .eq [(.call 34 [(.cst (.int 2))]), (.lst [(.tup [(.cst (.int 1)), (.cst (.int 0)), (.cst (.int 3)), (.cst (.int 2))]), (.tup [(.cst (.int 2)), (.cst (.int 3)), (.cst (.int 0)), (.cst (.int 1))])])])) E = some (.val (.bool true), E) := by kernel_rfl
theorem prom (is : List Int) (h : is.length ≤ 63) (hb : ∀ i ∈ is, PySem.Builtin.Int.intBits i ≤ 1048576) : ∃ bk, Phi (tbl.map Ent.fd) 20 42 [.scr is] = some (.val (.bool true), bk) := by
  obtain ⟨s, hs, e1⟩ := src35 18 is (by omega)
  have e1 : Phi T 19 35 [.scr is] = some (s, [none]) := e1
  obtain ⟨v, s1, hs1, r1, p1⟩ := pick36 18 s hs 2 (by decide)
  obtain ⟨v0, v1⟩ := r1 (by decide)
  let x0 : Option MV := some (.scr is)
  let E0 : MEnv := [x0, none, none, none, none, none, none]
  let E1 : MEnv := [x0, some s1, none, none, none, none, none]
  have lp := forF_inv (put := NT.put (.n 2)) (b := fun ms => evSs (Phi T 19) l42_5 ms) (fun r ms => (∀ d ∈ r, ∃ k : Nat, d = .int (k : Nat) ∧ 1 ≤ k ∧ k ≤ 4) ∧ ∃ t v2 v3 v4 v5 v6, IsSrc t ∧ idl v5 ∧ ms = [x0, some t, v2, v3, v4, v5, v6]) (rangeD 1 (4 + v)) E1 (fun d r ms hms => by
      obtain ⟨hr, t, v2, v3, v4, v5, v6, ht, i5, rfl⟩ := hms
      obtain ⟨k, rfl, h1, h4⟩ := hr d List.mem_cons_self
      obtain ⟨t', w3, w4, w5, w6, ht', j5, e⟩ := lap_ev h1 h4 ht x0 v3 v4 v5 v6 i5
      exact ⟨_, _, rfl, .inl e, fun d hd => hr d (List.mem_cons_of_mem _ hd), t', some (nv k), w3, w4, w5, w6, ht', j5, rfl⟩)
    ⟨fun d hd => by
      obtain ⟨i, hi, rfl⟩ := List.mem_map.mp hd
      have hi := List.mem_range.mp hi
      exact ⟨i + 1, by show PyData.int (1 + (i : Int)) = _; rw [Int.add_comm]; rfl, by omega, by omega⟩, s1, none, none, none, none, none, hs1, .inl rfl, rfl⟩
  obtain ⟨ms', e9, _, t, v2, v3, v4, v5, v6, ht, _, rfl⟩ := lp
  refine ⟨_, Eq.trans (b := runF (Phi T 19) f42 [.scr is]) rfl (run_ret (Φ := Phi T 19) (m := .val (.bool true)) (ms := [x0, some t, v2, v3, v4, v5, v6]) rfl ?_)⟩
  unfold f42 b42
  refine Eq.trans (ss_set (m := s) (m' := s) (ms1 := E0) ?_ rfl) ?_
  · refine ee_call (vs := [.scr is]) (ms1 := E0) (evAs_cons (m := .scr is) ?_ evAs_nil) e1 rfl
    rw [evE]
    rfl
  have q : evE (Phi T 19) (.op .add [(.cst (.int 4)), (.call 36 [(.mov 1), (.cst (.int 2))])]) [x0, some s, none, none, none, none, none] = some (iv (4 + v), E1) :=
    ee_op2r (o := .add) rfl rfl ee_cst (ee_call (evAs_cons (ee_mov rfl) (evAs_cons ee_cst evAs_nil)) p1 rfl) rfl rfl rfl rfl
  refine Eq.trans (ss_for (es_rng2 (i := 1) (j := 4 + v) ee_cst q ⟨by decide, by decide⟩ ⟨by omega, by omega⟩) e9) ?_
  exact ss_ret (done_ev _) rfl
end K56
/-! k56: the head. -/
namespace K56
open PySem PySem.Spec PyProof.Rows L2 Rx
abbrev R : PySem.W.OpenRow := PySem.W.OpenLaw.row PySem.Challenge.rw_rimnets_k56_whole_pairings_that_come
abbrev hk : PySem.W.Hook := hookX 4 false tbl
def ob (s : PySem.W.SharedT) : Al := obsX 4 false tbl (HandSHeadRun.getT s)
theorem ob_eq (s : PySem.W.SharedT) : ob s = hk.obs s.abs := obsX_eq (HandSHeadRun.getT_eq s)
def loose : List Str := [Str.ofString "__name__", Str.ofString "rim_size", Str.ofString "NetError", Str.ofString "NotOfIt", Str.ofString "other_end", Str.ofString "crossing_of", Str.ofString "place_in", Str.ofString "next_end", Str.ofString "ahead_end", Str.ofString "corner_of_place", Str.ofString "strand_step", Str.ofString "strand_from", Str.ofString "rim_strands", Str.ofString "closed_strands", Str.ofString "strand_pairing", Str.ofString "road_twice", Str.ofString "well_paper", Str.ofString "is_well_net", Str.ofString "crossing_pairs", Str.ofString "is_parted", Str.ofString "coming_paper", Str.ofString "does_come", Str.ofString "strand_of", Str.ofString "places_behind", Str.ofString "told_sequence", Str.ofString "told_drawing", Str.ofString "four_places", Str.ofString "other_of", Str.ofString "black_ends", Str.ofString "pair_at", Str.ofString "black_next", Str.ofString "region_ends", Str.ofString "rim_of_drawing", Str.ofString "told_rim", Str.ofString "rim_with", Str.ofString "all_pairings", Str.ofString "partners_of", Str.ofString "coming_pairings", Str.ofString "_law_source", Str.ofString "_law_pick", Str.ofString "_law_mixed", Str.ofString "_law_pairs", Str.ofString "_law_all_pairings", Str.ofString "_law_does_come", Str.ofString "_law_crossed"]
theorem run (w : World) : HandSHeadRun.RunEq R (PySem.W.view R.prog [52]) hk ob 4000 loose w := by
  intro os
  kernel_rfl
end K56
open PySem PySem.W PySem.Calls PyProof.Rows
theorem PySem.Challenge.cw_rimnets_k56_whole_pairings_that_come_holds : PySem.Challenge.rw_rimnets_k56_whole_pairings_that_come.Holds := by
  w_on; o_law
  refine HandSHeadRun.head_any (r := PySem.W.OpenLaw.row PySem.Challenge.rw_rimnets_k56_whole_pairings_that_come) (q := PySem.W.view (PySem.W.OpenLaw.row PySem.Challenge.rw_rimnets_k56_whole_pairings_that_come).prog [52]) (H := K56.hk) (ob := K56.ob) (M := 4000) (loose := K56.loose) (d := HandSHeadRun.topDef (PySem.W.OpenLaw.row PySem.Challenge.rw_rimnets_k56_whole_pairings_that_come).prog 52) (kwd := []) K56.ob_eq (by kernel_rfl) (fun s => by kernel_rfl) K56.run (by kernel_rfl) (by kernel_rfl) (by kernel_rfl) (by rfl) (by first | assumption | decide +kernel) (by decide +kernel) ⟨rfl, rfl, rfl, rfl, rfl, by decide +kernel⟩ ?hw ?hc
  case hw => w_witness2
  case hc => exact Rx.table_law (l := PySem.Challenge.rw_rimnets_k56_whole_pairings_that_come) (n := 63) (k := 20) (i := 42) (x := "script") (e := K56.e42) rfl (by decide) (by kernel_rfl) ⟨rfl, by decide, by decide⟩ rfl rfl (by kernel_rfl) K56.bnds K56.look K56.prom
